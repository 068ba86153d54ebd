/- Lemmas for the proof of the law; no condition. -/
import Derived.Test.YtdibhfbogjngkaaGreatDoorKC
set_option linter.unusedVariables false
set_option maxHeartbeats 4000000
set_option linter.unusedSimpArgs false
open Go.Proofs.Tryz renaming prog -> xm
open List renaming eq_of_mem_replicate -> vn, getElem?_zip_eq_some -> vj, getElem_range -> vx, range -> qx, replicate -> qg, zipWith -> zh
open Go.Value renaming agg -> xh, bool -> xg, int -> xb, pointer -> xd, slice -> xc, string -> xf
open Go.IntKind renaming bits -> qk, i64 -> xi, u32 -> xk, u8 -> xj, wrap -> qc
open Prod renaming fst -> qM, snd -> zH
open Go.Instr renaming storeAt -> qf
open BitVec renaming ofInt -> qF
set_option maxRecDepth 100000
open Option renaming some -> dB, none -> eH
open Bool renaming true -> eR, false -> eS
open Go renaming Addr -> hU
open Go.Vc renaming Heap -> hZ
open List renaming length -> j9
namespace Go.Qw
open Go Go.Vc Go.Proofs Wl
theorem YQ{a:List Sl}{vs:aM}(h:j9 a=j9 vs)(b:List (Sl×Row))(d:∀x∈a.zip vs,x∈b):iu b id a vs:=
 ⟨h,λi r l e c=>d _ (yE.2 ⟨i,by rw[vj];exact⟨e,c⟩⟩)⟩
theorem Up{α β:Type}:∀(a:List α) (x:α) (l:List β) (h:j9 a<j9 l),(a++[x]).zip l=a.zip l++[(x,l[j9 a])]
 |[],x,b::l,_=>k9
 |c::a,x,b::l,h=>by
  have:=Up a x l l6;simp[this]
def afs(h h':hZ)(v:Value)(n:Nat)(A a:aM):Prop:=
 (ly n A a/\∃r:Sl,v=.tuple #[r,xb xi 0]/\Sp h h' [MA r (gc n A a)])∨(¬ly n A a/\v=.tuple #[xc eH 0 0,xb xi 10]/\Sp h h' [])
theorem aec(p:Pm)(seed:Int)(l:Sl)(syms:List (Int×Row))(n w:Nat)(h:hZ)(hl:dS No h l syms)(y:bH p=eR)(bx:∀x∈syms,Bx p x)(hn:(bD p).toNat=n)(hw:p.2.2.toNat=w)(el:j9 syms<=2^18)(hr:ca (dR p seed (syms.map qM))=n):
  ab xm 160 #[lN p,xb xk seed,l] h λv h'=>afs h h' v n (dR p seed (syms.map qM)) (sn p syms):=by
 refine Oj p seed l ?_;unfold GZ;have en:=(bZ p).1 y;have eh:bD p=n:=by rw[<-hn];have:=oN y;omega
 have b4:n=p.1.toNat+p.2.1.toNat:=by rw[<-hn,oN y];omega
 have c6:p.2.2=(w:Int):=k4
 have b6:1<=n:=k4
 have cd:n<=20:=k4
 obtain⟨U,dy,e4,cf⟩:=bF.jh hl;have ep:=bF.len hl;let d:List fu:=uV n seed syms;have ej:j9 d=j9 syms:=by simp[d,uV]
 have H:=ahg (seed:=seed) b6 cd bx hw;let u:Nat->bz:=λi=>(syms.take i).map λx=>dt n seed x.1;have ay:∀x:Int×Row,x∈syms->(bH p&&bW x.1)=eR:=λx hx=>by rw[y,(bx x hx).id];rfl
 refine(Sp.refl h).boxed λa1 K H1=>?_;have d8:Sp h K [al 275 ⟨eH,0,0⟩ 2 qv [],xo [],ao a1 24 [xb xi p.1,xb xi p.2.1,xb xi p.2.2]]:=((aa.abF H1).nil 275 2 qv).cD [2,1,0];refine aw (λt:Nat×Sl×List Sl=>(t.2.1,(t.1:Int))) (λt h'=>t.1<=j9 syms/\t.2.2.length=t.1/\Sp h h' [al 275 t.2.1 2 qv (t.2.2.zip (U.map zH)),xo (t.2.2.zip (u t.1)),ao a1 24 [xb xi p.1,xb xi p.2.1,xb xi p.2.2]]) (λt=>j9 syms-t.1) (0,⟨eH,0,0⟩,[]) k0 ⟨k9,k0,d8⟩ ?_;rintro⟨i,o,cr⟩ h2 ⟨hi,b2,H2⟩;dsimp only at*;have cl:j9 (u i)=i:=by simp[u];omega
 refine ai (λe=>?_) (λe=>?_)
 ·have V:i<j9 syms:=k4
  obtain⟨y1,y2⟩:=cf i k4 V;refine(Seq.up dy H2.aj).ey (g:=yv) i k0 k4 (U[i]'(by omega)) k0 ?_;refine H2.alloc ac k0 λa5 h3 H3=>?_;refine H3.storeAll ac 3 k0 k0 (yv (U[i]'(by omega))) k0 k0 k0 k0 λh4 T=>?_;refine⟨p,(T.box 2 k0).aS _ k0,(U[i]'(by omega)).1,(T.box 3 k0).cell0 k0,(U[i]'(by omega)).2,(T.box 3 k0).cell k0,?_⟩;refine(BL p seed (U[i]'(by omega)).1 h4).mono ?_;rintro _ h5 ⟨r,rfl,R5⟩;rw[y1,ay _ (qh V),j1 rfl,hn]at R5;have H5:=(T.comp R5).freeze 4 k0 λ_=>rfl;refine⟨r,k0,⟨(H5.box 3 k0).cell k0,trivial⟩,?_⟩;have H6:=aa.afr H5 1 4 k6 k0 k0;have d0:=H6.box 3 k0;refine H6.oT ac qv eQ k0 [(r,(U[i]'(by omega)).2)] k0 (show 1*2<=2^20 by decide) k0 ⟨d0.cell k0,trivial⟩ ?_;refine H6.push ac 0 k0 eQ k0 k6 (λ_=>rfl) abo (r,(U[i]'(by omega)).2) k0 k6 k8 λo' h7 H7=>?_;refine⟨⟨(H7.box 3 k0).cell k0,trivial⟩,?_⟩;refine⟨(i+1,o',cr++[r]),lb,⟨k7,by simp[b2],?_⟩,k7⟩;dsimp only;have e1:u (i+1)=u i++[dt n seed syms[i].1]:=by simp only[u];rw[aH _ _ V,qW];rfl
  have e2:(cr++[r]).zip (U.map zH)=cr.zip (U.map zH)++[(r,(U[i]'(by omega)).2)]:=by rw[Up cr r (U.map zH) k8,wo];simp only[b2]
  rw[e1,e2,List.zip_append (by rw[b2,cl])];exact H7.cD [0,1,2]
 have c8:i=j9 syms:=k4
 subst c8;have dk:u syms.length=syms.map λx=>dt n seed x.1:=by simp only[u];rw[qS]
 rw[dk]at H2;have d4:∀{h':hZ},(∀x∈cr.zip (syms.map λx=>dt n seed x.1),Vc.Seq h' (λb=>b<h'.size) x.1 1 aq x.2)->aX (λb=>b<h.size) h h'->Vc.Seq h' (λb=>b<h'.size) o 2 qv (cr.zip (U.map zH))->dS rC h' o d:=λ{h'} hp hpr hs=>by
  refine⟨_,hs,by simp[d,uV];omega,λk a b K h2=>?_⟩;have hk:k<j9 syms:=by have:=(qm.1 h2).1;omega
  rw[qd k8,List.getElem_zip,wo]at K;have e2:d[k]?=dB (dt n seed syms[k].1,syms[k].2):=by simp[d,uV,hk]
  rw[e2]at h2;simp only[Option.some.injEq]at K h2;subst K;subst h2;refine⟨hp (cr[k]'(by omega),dt n seed syms[k].1) (yE.2 ⟨k,?_⟩),Seq.up (cf k k4 hk).2 hpr⟩;rw[vj];exact⟨qd _,by simp[hk]⟩
 refine bO (λs h'=>∃(bb f:hU),s=dB bb/\Sp h h' [SA bb (gA f p ⟨eH,0,0⟩ ⟨eH,0,0⟩ ⟨eH,0,0⟩ ⟨eH,0,0⟩ ⟨eH,0,0⟩ ⟨eH,0,0⟩ ⟨eH,0,0⟩),al 275 o 2 qv (cr.zip (U.map zH)),xo (cr.zip (syms.map λx=>dt n seed x.1)),ao a1 24 [xb xi p.1,xb xi p.2.1,xb xi p.2.2],ao f 197 db]) ?_ ?_
 ·refine⟨p,(H2.box 2 k0).aS _ k0,(rq h2).mono ?_⟩;rintro _ h3 ⟨f,rfl,R3⟩;have H3:=H2.comp R3;refine⟨dB f,k0,⟨(H3.box 2 k0).cell0 k0,(H3.box 2 k0).cell k0,(H3.box 2 k0).cell k0,trivial⟩,?_⟩;refine H3.boxed λbb h4 T=>?_;exact⟨⟨(T.box 2 k0).cell0 k0,(T.box 2 k0).cell k0,(T.box 2 k0).cell k0,trivial⟩,bb,f,k0,T.cD [4,0,1,2,3]⟩
 rintro _ h3 ⟨s,f,rfl,H3⟩;refine⟨p,(H3.box 3 k0).aS _ k0,(ju p h3).mono ?_⟩;rintro _ h4 ⟨rfl,R4⟩;have T:=H3.up R4.aj;refine⟨_,k0,?_⟩;rw[eh];have ea:dS rC h4 o d:=d4 (T.at 2 k0) T.aj (T.seq 1 k0 λ_=>rfl);have b9:∀e∈d,j9 e.1<=2^20:=λe F=>by
  obtain⟨x,hx,rfl⟩:=qo.1 F;have:=Bh b6 cd seed x.1;dsimp only;omega
 refine(abt o d n w h4 ea (λe F=>⟨(H e F).1,YO (H e F).2⟩) k4 k4 ⟨k4,k4⟩ b9).mono ?_;have hA:aT n (bw p.1.toNat p.2.1.toNat):=by rw[b4];exact LH _ _
 have eA:=XR (seed:=seed) y hn bx;have eB:=XS (seed:=seed) (n:=n) (p:=p) (l:=syms) hw;rw[<-eA]at hr⊢;rw[<-eB];rintro _ h5 ⟨known,vals,hI,⟨ay,rfl,R5⟩|⟨ay,k,v,rs,rfl,R5⟩⟩
 ·refine⟨(⟨eH,0,0⟩,⟨eH,0,0⟩,⟨eH,0,0⟩,10),k0,bR (λ_=>?_) λe=>absurd e k6⟩;exact .inr ⟨aae (λe F=>(H e F).1) hA hI ay hr,k0,(T.up R5.aj).cD []⟩
 refine⟨(k,v,rs,0),k0,bR (λe=>absurd k0 e) λ_=>?_⟩;have S:=adi (λe F=>(H e F).1) hA hI ay;have z:=Ps (λe F=>(H e F).1) hI;obtain⟨f1,f2,f3,f4,f5⟩:=LL (λe F=>(H e F).1) hI;have I:=oY hI λe F=>(H e F).1;have bk:=afU (known:=known) (vals:=vals) λe F=>(H e F).2;have d2:=aaf (l:=d) (known:=known) (vals:=vals);have a9:=aag (known:=known) (vals:=vals) b9;have cp:=hI.vlen;have d9:=hI.klen;unfold Rq at S;obtain⟨R,a6⟩:∃R,R=bf known vals d:=⟨_,rfl⟩
 change gP n w d _ known vals _ _ _ _ at S;rw[<-a6]at S z f1 f2 f3 f4 f5 I bk d2 a9 R5;obtain⟨P,H6,d5,c7⟩:=aa.ahV (T.comp R5) 6 rfl;obtain⟨rr,H7⟩:=aa.RP H6 7 rfl λ_=>rfl;have H8:=aa.agr H7 8 k0;have H9:Sp h h5 [SA s (gA f p ⟨eH,0,0⟩ ⟨eH,0,0⟩ ⟨eH,0,0⟩ ⟨eH,0,0⟩ ⟨eH,0,0⟩ ⟨eH,0,0⟩ ⟨eH,0,0⟩),lA ((⟨eH,0,0⟩,[])::P.zip vals),HA v P,dg jK 2 qv rs rr R,al 4 k 1 fi known,ao f 197 db]:=aa.cD H8 [0,8,6,7,5,4];have b1:v.len=n:=by rw[(H9.own 2 k0).len];omega
 have hk:∀(c:Nat) (hc:c<j9 P),P[c].ptr.isNone=!(known.getD c eS):=λc hc=>by
  rw[c7 c hc k4];have K:=hI.row c k4;rw[mM (show c<j9 vals by omega)]at K;cases hkn:known.getD c eS with
  |true=>
   rw[hkn,j1 rfl]at K;cases hv:vals[c]'(by omega)with
   |nil=>rw[hv]at K;simp at K;omega
   |cons x t=>rfl
  |false=>
   rw[hkn,j3 k9]at K;rw[List.length_eq_zero_iff.1 K];rfl
 refine⟨s,k0,H9.store ac 0 k0 k0 4 [v] k0 k0 k0 pa λh6 ed=>?_⟩;refine⟨s,k0,ed.store ac 0 k0 k0 5 [rs] k0 k0 k0 pa λh7 ec=>?_⟩;have cq:=YP (known:=known) (n:=n) k4 λe F=>⟨(I e F).cZ,bk e F⟩
 have ap:=xV (rows:=rowsOf R known n) (n:=n) (by rw[a6];exact xB (a6▸I));have ew:j9 (rowsOf R known n)<=j9 R+n:=by rw[rowsOf,qy,qw];have:=EW known n;omega
 refine(VR s f p v rs _ _ _ _ _ k rr R known n (As:=[lA ((⟨eH,0,0⟩,[])::P.zip vals),HA v P,dg jK 2 qv rs rr R,al 4 k 1 fi known,ao f 197 db]) ec (St.mk' λh' H'=>⟨H'.gy 2 k0,H'.seq 3 k0 λ_=>rfl⟩) d9 k4 k4 a9 cq ⟨by have:=ap.1;omega,by have:=IQ (dN n (rowsOf R known n)).used (rowsOf R known n).length;omega⟩).mono ?_;rintro _ h8 ⟨rfl,st,Y,lf,d7⟩;refine⟨(),k0,?_⟩;obtain⟨D,hD⟩:∃D,D=(gJ R known n).dead:=⟨_,rfl⟩
 obtain⟨ST,b3⟩:∃ST,ST=nF R known n:=⟨_,rfl⟩
 obtain⟨L,hL⟩:∃L,L=Wl.leftOf R known n:=⟨_,rfl⟩
 have d3:Sp h h8 (SA s (gA f p v rs st Y lf ⟨eH,0,0⟩ ⟨eH,0,0⟩)::lA ((⟨eH,0,0⟩,[])::P.zip vals)::[HA v P,al 332 st 2 fM ST,al 3 Y 1 aq D,al 3 lf 1 aq L,dg jK 2 qv rs rr R,ao f 197 db]):=by rw[hD,b3,hL];exact aa.cD d7 [0,4,5,1,2,3,6,8]
 rw[<-hD]at S z f1 f2 f3 f5;rw[<-b3]at S z;rw[<-hL]at S f4;have c0:j9 ST<=2^20:=by rw[b3,nF,gJ];have:=qT (λx:Int×Int=>decide (x.1<j9 R)) (dN n (rowsOf R known n)).steps;have:=ap.1;omega
 have er:j9 L<=2^20-2^10:=by rw[hL,Wl.leftOf,gJ];have:=qT (λx:Int=>decide (x<j9 R)) (fF (dN n (rowsOf R known n)).used (rowsOf R known n).length);have:=IQ (dN n (rowsOf R known n)).used (rowsOf R known n).length;omega
 have B:St (λb=>b<h.size) h [HA v P,al 332 st 2 fM ST,al 3 Y 1 aq D,al 3 lf 1 aq L,dg jK 2 qv rs rr R,ao f 197 db] λh=>YI h f rs st Y lf rr R ST D L:=
  St.mk' λh' H'=>⟨H'.box 5 k0,H'.gy 4 k0,H'.seq 1 k0 λ_=>rfl,H'.seq 2 k0 λ_=>rfl,H'.seq 3 k0 λ_=>rfl⟩
 refine(YK s f p v rs st Y lf _ _ rr R ST D L n D.length w _ d3 B b1 k4 c6 k4 k0 k4 I f1 f2 z c0 a9 k9).mono ?_;rintro _ h9 ⟨rfl,wa,mo,wr,mr,pl,cs,bd⟩;refine⟨(),k0,?_⟩;have da:=(B.at [_,_,_,_] cs).dead.len;generalize ek:ST.foldl (ie R D.length) (fW n D.length w D)=S0 at bd S;have du:j9 S0.1=n:=by have:=S.lens.1;simpa[iI]using this
 have ei:j9 S0.2=n:=by have:=S.lens.2.1;simpa[iI]using this
 have hV:iu pl id P vals:=YQ d5 pl λx hx=>bd.sub x (qC _ hx);refine(abB s f p v rs st Y lf wa mo P wr mr pl known vals S0.1 S0.2 n D.length cs k4 da k4 ⟨λ_ h=>h,bd.way,bd.more⟩ hV cp du ei hk).mono ?_;rintro _ es ⟨rfl,ad,ar,Z,eg,N⟩;refine⟨(),k0,?_⟩;obtain⟨W,hW⟩:∃W,W=(iI D.length known vals S0).1:=⟨_,rfl⟩
 obtain⟨M,hM⟩:∃M,M=(iI D.length known vals S0).2:=⟨_,rfl⟩
 change mH pl Z ad ar (iI D.length known vals S0).1 (iI D.length known vals S0).2 at N;rw[<-hW,<-hM]at N S;have m:=S.lens;refine(YM s f p v rs st Y lf wa mo ad ar Z rr R ST D L W M n D.length w eg B b4 c6 k4 y k0 k4 I a9 f4 k4 ⟨λ_ h=>h,N.way,N.more⟩ m.1 m.2.1 m.2.2).mono ?_;rintro _ ax ⟨a,b,rfl,a0⟩;refine⟨(a,b),k0,s,k0,Y,show cellOf ax (s.add 7)=_ from(a0.box 2 k0).cell k0,?_⟩;have eb:iu Z id P vals:=hV.mono N.sub;obtain⟨e1,e2⟩:=pT S;have O:=Bv (n:=n) (w:=w) (ahead:=bw p.1.toNat p.2.1.toNat) (l:=d) (known:=known) (vals:=vals) (dead:=D) (left:=L) (W:=W) (M:=M);have a4:∀{X:aM},_->_:=λ{X} hs=>S.WH hr (D:=X) hs;have a7:=S.WI hr;have a2:=S.XT k4 hr;have a3:=S.NU k4 hr;rw[<-a6]at e1 e2 O a4 a7 a2 a3;obtain⟨dA,b5⟩:∃dA,dA=dF n D.length R W L (bw p.1.toNat p.2.1.toNat):=⟨_,rfl⟩
 obtain⟨G,dp⟩:∃G,G=fG n w R M L (bw p.1.toNat p.2.1.toNat):=⟨_,rfl⟩
 rw[<-b5]at e1 O a4 a7 a2 a3 a0;rw[<-dp]at e2 O a4 a7 a2 a0;have dx:j9 dA=j9 L+p.2.1.toNat:=by rw[b5];simp[dF,bw]
 have bl:∀{h':hZ} {pre:List HP} {dead:Sl} {dr:List Sl} {X:aM} {Q:HP},Sp h h' (Told s f p v rs st Y lf wa mo ad ar Z++HA v P::[al 332 st 2 fM ST,al 3 Y 1 aq D,al 3 lf 1 aq L,dg jK 2 qv rs rr R,ao f 197 db,Q])->(∀h',Q.p h' (λb=>b<h'.size)->iC h' (λb=>b<h'.size) dead 1 aD X dr)->fE D.length w dA G X->
   ab xm 222 #[xd (dB s),dead] h' λv' ah=>v'=.tuple #[]/\cellOf ah (s.add 4)=dB (xc v.ptr v.len v.cap)/\afs h ah (.tuple #[v,xb xi 0]) n (dI n d (bw p.1.toNat p.2.1.toNat)) (iD w d (bw p.1.toNat p.2.1.toNat)):=by
  intro h' pre dead dr X Q H' hQ hs;refine(abD s f p v rs st Y lf wa mo dead P ad ar dr Z known vals W M X n D.length w H' (St.mk' λah am=>⟨am.box 4 k0,hQ ah (am.at 5 k0)⟩) k4 k4 k4 ⟨λ_ h=>h,N.way,N.more⟩ eb cp m.1 m.2.1 m.2.2 hs.1 hs.2.1 hk).mono ?_;rintro _ ah ⟨rfl,et,eq,am,ip⟩;refine⟨k0,(am.box 0 k0).cell k0,?_⟩;obtain⟨c1,c2⟩:=a4 hs;refine .inl ⟨c1,v,k0,?_⟩;rw[<-c2];exact(am.adU 4 3 k6 k0 k0 ip.1 λk r l K h2=>ip.2 k r l K h2).cD [4]
 have J:Sp h ax (MA a dA::CA b G::(Told s f p v rs st Y lf wa mo ad ar Z++HA v P::[al 332 st 2 fM ST,al 3 Y 1 aq D,al 3 lf 1 aq L,dg jK 2 qv rs rr R,ao f 197 db])):=a0;have cn:=J.OX 1 k0 λ_=>rfl;have c5:fZ ax b 1 aD G:=bF.tofZ (by
  have:=bF.impl (α':=Sl) (E:=Ul) (E':=cF 1 aD) id (λ{h q a b} (hx:Ul.p h q a b)=>hx.1) cn
  rwa [List.map_id]at this)
 have d6:=c5.len;refine dD (λe0=>?_) (λe0=>?_)
 ·have c4:j9 D=0:=k4
  obtain⟨br,q1,q2,q3⟩:=bF.jh cn;refine aw (λi:Nat=>(i:Int)) (λi h'=>h'=ax/\i<=j9 G/\∀j (hj:j<j9 G),j<i->G[j]=aK w) (λi=>j9 G-i) 0 k0 ⟨k0,k4,λj _ hj=>k4⟩ ?_;rintro i a8 ⟨rfl,hi,hz⟩;have bq:fE D.length w dA G []↔∀r∈G,r=aK w:=by rw[c4];exact LM O
  refine ai (λe=>?_) (λe=>?_)
  ·have V:i<j9 G:=by have e':(i:Int)<(b.len:Int):=e;omega
   obtain⟨y1,y2⟩:=q3 i k4 V;have c9:G[i].length=w:=e2 _ (qh _);refine q1.md i k0 k4 ?_;refine(Qb (br[i]'(by omega)) G[i] _ k0 a8 y1 y2 k4).mono ?_;rintro _ cc ⟨⟨t,rfl,ht⟩,rfl⟩;refine⟨t,k0,ai (λe3=>?_) λe3=>?_⟩
   ·refine .inr ⟨λhc=>?_,k0,J.cD []⟩;have b7:=a7 hc;have ef:D=[]:=List.length_eq_zero_iff.1 c4;rw[ef]at b7;have:=(LM O).1 b7 _ (qh V);have h0:t.len=0:=ht.2 λx hx=>by rw[this]at hx;exact(wT.1 hx).2
    omega
   ·have h0:t.len=0:=k4
    refine⟨i+1,ld,⟨k0,k4,λj hj eo=>?_⟩,k4⟩;by_cases hh:j=i
    ·subst hh;exact List.eq_replicate_iff.2 ⟨c9,ht.1 h0⟩
    ·exact hz j hj k4
  ·have hs:fE D.length w dA G []:=bq.2 λr hr=>by
    obtain⟨j,hj,rfl⟩:=qK hr;have e':¬(i:Int)<(b.len:Int):=e;exact hz j hj k4
   have b0:=aa.comp (J.cD [2,3,4,5,6,7,8,9,10,11]) (Sp.one (h:=a8) (h':=a8) (A:=emp) (aX.refl _ _) trivial);refine(bl (pre:=[]) (dead:=⟨eH,0,0⟩) (dr:=[]) (X:=[]) (Q:=emp) ?_ (λh' _=>⟨Seq.nil _ _ _ _ _ _,k0,λk r l K _=>by cases K⟩) hs).mono ?_
   ·exact b0
   ·rintro _ cc ⟨rfl,hc,hm⟩;exact⟨(),k0,s,k0,v,hc,hm⟩
 ·have ds:1<=j9 D:=k4
  refine⟨s,k0,dB f,(J.box 2 k0).cell0 k0,?_⟩;refine(VS f a b dA G dA.length D.length w ax (J.box 11 k0) (J.Gb 0 k0) c5 k0 O.symm e1 e2 ds k4 k4 a3).mono ?_;rintro _ a8 (⟨hc,r,rfl,R12⟩|⟨hc,rfl,R12⟩)
  ·refine⟨(r,0),k0,bR (λe=>absurd k0 e) λ_=>?_⟩;have b0:=(J.comp R12).Ro 12 k0;obtain⟨dr,d1⟩:=aa.RP b0 12 rfl λ_=>rfl;have hs:=pO O e1 e2 a3 hc;refine(bl (pre:=[]) (dead:=r) (dr:=dr) (X:=gc D.length dA G) (Q:=dg (cF 1 aD) 1 bo r dr (gc D.length dA G)) (d1.cD [2,3,4,5,6,7,8,9,10,11,12]) (λh' x=>⟨x.1,x.2.1,x.2.2⟩) hs).mono ?_;rintro _ cc ⟨rfl,hc,hm⟩;exact⟨(),k0,s,k0,v,hc,hm⟩
  ·refine⟨(⟨eH,0,0⟩,10),k0,bR (λ_=>?_) λe=>absurd e k6⟩;exact .inr ⟨λhh=>hc (a2.2 hh),k0,(J.up R12.aj).cD []⟩
end Go.Qw
namespace Wl
def mV(p:Int×Int×Int)(x:Int×Row):Bool:=bW x.1&&decide ((j9 x.2:Int)=p.2.2)
theorem Uq{p:Int×Int×Int}{x:Int×Row}(c:bH p=eR):mV p x=eR↔Bx p x:=by have:=(bZ p).1 c;unfold mV;rw[qz,decide_eq_true_iff];exact⟨λ⟨a,b⟩=>⟨a,k4⟩,λh=>⟨h.id,by have:=h.len;omega⟩⟩
def uy(p:Int×Int×Int)(seed:Int)(X:aM)(i:Nat):Row:=(qx i).flatMap λj:Nat=>fS p.2.2.toNat X (dt (bD p).toNat seed (j:Int))
theorem Qg(p:Int×Int×Int)(seed:Int)(X:aM)(i:Nat):uy p seed X (i+1)=uy p seed X i++fS p.2.2.toNat X (dt (bD p).toNat seed (i:Int)):=by unfold uy;rw[zR,zj];simp
open Classical in
noncomputable def my(p:Int×Int×Int)(seed:Int)(l:List (Int×Row)):Row×Int:=
 if bH p&&l.all (mV p)then
  if eI p seed (l.map qM)then
   if ly (bD p).toNat (dR p seed (l.map qM)) (sn p l)then(uy p seed (gc (bD p).toNat (dR p seed (l.map qM)) (sn p l)) p.1.toNat,0)else([],10)
  else([],9)
 else([],1)
end Wl
namespace Go.Qw
open Go Go.Vc Go.Proofs Wl
theorem VT(p:Pm)(x:Int×Sl)(l:Row)(h:hZ)(e:Rd h x.2 1 aD l):ab xm 157 #[lN p,xh #[xb xi x.1,x.2]] h λv h'=>v=xg (mV p (x.1,l))/\Sp h h' []:=by
 refine KH p x ?_;unfold CZ;refine(Sp.refl h).boxed λg j d=>?_;refine d.boxed λa2 i a=>?_;have f:=e.len;refine⟨x.1,(a.box 1 k0).cell0 k0,ai (λb=>?_) λb=>?_⟩
 ·refine⟨x.1,(a.box 1 k0).cell0 k0,ai (λc=>?_) λc=>?_⟩
  ·refine⟨x.2,(a.box 1 k0).cell k0,p.2.2,(a.box 0 k0).cell k0,?_,.zip a.aj⟩;congr 1;unfold mV bW;rw[j6 (show 0<=x.1 from b),j6 (show x.1<=65535 from c),f];rw[Bool.eq_iff_iff];simp
  ·refine⟨?_,.zip a.aj⟩;unfold mV bW;rw[j7 (show¬x.1<=65535 from c)];simp
 ·refine⟨?_,.zip a.aj⟩;unfold mV bW;rw[j7 (show¬0<=x.1 from b)];simp
theorem VU(p:Pm)(b:hU)(x:Int×Sl)(l:Row)(h:hZ)(c:cA h b 24 [xb xi p.1,xb xi p.2.1,xb xi p.2.2])(e:Rd h x.2 1 aD l):ab xm 156 #[xh #[xb xi x.1,x.2],xd (dB b)] h λv h'=>v=xg (!mV p (x.1,l))/\Sp h h' []:=by refine GX x b ?_;unfold Ae;refine(Sp.refl h).boxed λa2 f a=>?_;refine⟨p,(c.aj a.aj c.lt).aS _ k0,x,(a.box 0 k0).aS _ k0,?_⟩;refine(VT p x l f (Seq.up e a.aj)).mono ?_;rintro _ g ⟨rfl,d⟩;exact⟨_,k0,k0,.zip (a.up d.aj).aj⟩
theorem VV(p:Pm)(d:hU)(l:Sl)(syms:List (Int×Row))(h:hZ)(o:cA h d 24 [xb xi p.1,xb xi p.2.1,xb xi p.2.2])(n:dS No h l syms)(B:j9 syms<=2^30):ab xm 155 #[l,.func (.func 156) #[] #[xd (dB d)]] h λv h'=>v=xg (!syms.all (mV p))/\Sp h h' []:=by
 refine kO l (156,#[],#[xd (dB d)]) ?_;unfold gC;refine(lL l (156,#[],#[xd (dB d)]) (R:=λv h'=>(∃i:Int,v=xb xi i/\(decide (i>=0)=!syms.all (mV p)))/\Sp h h' []) ?_).mono ?_
 ·unfold ij;obtain⟨j,s,z,x⟩:=bF.jh n;have t:=bF.len n;refine aw (λi:Nat=>(i:Int)) (λi h'=>i<=j9 syms/\(syms.take i).all (mV p)=eR/\Sp h h' []) (λi=>j9 syms-i) 0 k0 ⟨k4,k9,Sp.refl h⟩ ?_;rintro i q ⟨r,a,c⟩;refine ai (λe=>?_) (λe=>?_)
  ·have b:i<j9 syms:=k4
   obtain⟨w,u⟩:=x i k4 b;refine(Seq.up s c.aj).ey (g:=yv) i k0 k4 (j[i]'(by omega)) k0 ?_;refine fq m7 ?_;refine(VU p d (j[i]'(by omega)) syms[i].2 q (o.aj c.aj o.lt) (Seq.up u c.aj)).mono ?_;rintro _ A ⟨rfl,m⟩;have k:((j[i]'(by omega)).1,syms[i].2)=syms[i]:=by rw[w]
   rw[k];refine⟨_,k0,bj (λf=>?_) λf=>?_⟩
   ·refine⟨⟨i,k0,?_⟩,c.up m.aj⟩;rw[j6 (show(i:Int)>=0 by omega)];have:syms.all (mV p)=eS:=List.all_eq_false.2 ⟨_,qh b,by simpa using f⟩;rw[this];rfl
   ·refine⟨i+1,ld,⟨k4,?_,c.up m.aj⟩,k4⟩;rw[aH _ _ b,List.all_append,a];simpa using f
  ·refine⟨⟨-1,k0,?_⟩,c⟩;rw[qi k4]at a;rw[a];rfl
 ·rintro _ q ⟨⟨i,rfl,r⟩,y⟩;exact⟨i,k0,tp,y⟩
theorem abG(l:Sl)(syms:List (Int×Row))(h:hZ)(f:dS No h l syms)(D:j9 syms<=2^30):ab xm 159 #[l] h λv h'=>∃r:Sl,v=r/\Sp h h' [al 3 r 1 aq (syms.map qM)]:=by
 refine Oi l ?_;unfold GY;obtain⟨c,m,w,u⟩:=bF.jh f;have p:=bF.len f;refine aw (λt:Nat×Sl=>(t.2,(t.1:Int))) (λt h'=>t.1<=j9 syms/\Sp h h' [al 3 t.2 1 aq ((syms.take t.1).map qM)]) (λt=>j9 syms-t.1) (0,⟨eH,0,0⟩) k0 ⟨k9,(Sp.refl h).nil 3 1 aq⟩ ?_;rintro⟨i,o⟩ z ⟨B,d⟩;dsimp only at*;refine ai (λe=>?_) (λe=>?_)
 ·have b:i<j9 syms:=k4
  obtain⟨s,x⟩:=u i k4 b;refine(Seq.up m d.aj).ey (g:=yv) i k0 k4 (c[i]'(by omega)) k0 ?_;refine d.alloc ac k0 λa y n=>?_;refine n.storeAll ac 1 k0 k0 (yv (c[i]'(by omega))) k0 k0 k0 k0 λh3 j=>?_;refine⟨(c[i]'(by omega)).1,(j.box 1 k0).cell0 k0,?_⟩;refine j.push ac 0 k0 fN k0 k6 (λ_=>rfl) eT (c[i]'(by omega)).1 k0 k6 k8 λq A k=>?_;refine⟨(i+1,q),lb,⟨k7,?_⟩,k7⟩;dsimp only;rw[aH _ _ b,qW];rw[s]at k;exact k.cD [0]
 ·have:i=j9 syms:=k4
  subst this;rw[qS]at d;exact⟨o,k0,d⟩
theorem aed{B:aB}{q h:hZ}{As:List HP}(f b:Sl)(d c:Row)(H:aa B q h (al 5 b 1 aD c::As))(t:St B q As λh=>Rd h f 1 aD d)
  (z:j9 d=j9 c) (I:j9 d<=2^30) {K:hZ->Prop} (G:∀h',aa B q h' (al 5 b 1 aD (cY 1 d c)::As)->K h'):
  aJ (σ:=Int) (λa D g=>
 Br (decide (a<((f.len:Nat):Int)))
 (∃n:hU,(f.ptr=dB n/\0<=a/\a<((f.len:Nat):Int))/\
 ∃o:Int,cellOf g (n.add (a.toNat*1))=dB (xb xj o)/\
 ∃l:hU,(b.ptr=dB l/\0<=a/\a<((b.len:Nat):Int))/\
 ∃p:Int,cellOf g (l.add (a.toNat*1))=dB (xb xj p)/\
 ∃a28:hU,(b.ptr=dB a28/\0<=a/\a<((b.len:Nat):Int))/\
 af xm (qf 5 (xd (dB (a28.add (a.toNat*1)))) (xb xj (qc xj ((qF (qk xj) p^^^(qF (qk xj) o)).toNat:Nat)))) g λ_ s=>
 D (qc xi (a+(1:Int))) s) (K g)) (0:Int) h:=by
 have A:f.len=j9 d:=(t.at [al 5 b 1 aD c] H).len;refine aw (λk:Nat=>(k:Int)) (λk h'=>k<=j9 d/\aa B q h' (al 5 b 1 aD (zh (λx y=>y^^^x) (d.take k) (c.take k)++c.drop k)::As)) (λk=>j9 d-k) 0 k0 ⟨k4,n4⟩ ?_;rintro k F ⟨v,m⟩;have E:=t.at [_] m;refine ai (λe=>?_) (λe=>?_)
 ·have r:k<j9 d:=k4
  have j:j9 (zh (λx y=>y^^^x) (d.take k) (c.take k))=k:=k8
  have w:j9 (zh (λx y=>y^^^x) (d.take k) (c.take k)++c.drop k)=j9 c:=by rw[qy,j,List.length_drop];omega
  refine E.bC k k0 r _ k0 ?_;have i:(zh (λx y=>y^^^x) (d.take k) (c.take k)++c.drop k)[k]'(by omega)=c[k]:=by rw[zX k4];simp[j]
  refine(m.seq 0 k0 λ_=>rfl).bC k k0 k4 _ k0 ?_;rw[i,ow];refine m.set ac 0 k0 (λ_=>rfl) k0 k k0 k4 _ k0 k0 k0 λh3 u=>?_;rw[List.set_cons_zero,Ib z]at u;exact⟨k+1,ld,⟨k4,u⟩,k4⟩
 ·have:k=j9 d:=k4
  subst this;rw[qi (ql _),qi k4,zi k4,qL,<-WX]at m;exact G F m
theorem YR(p:Pm)(seed:Int)(l:Sl)(syms:List (Int×Row))(h:hZ)(hl:dS No h l syms)(U:j9 syms<=2^18):
  ab xm 93 #[lN p,xb xk seed,l] h λv h'=>∃r:Sl,v=.tuple #[r,xb xi (my p seed syms).2]/\Sp h h' [al 5 r 1 aD (my p seed syms).1]:=by
 refine KD p seed l ?_;unfold CU;refine(Sp.refl h).boxed λJ h1 H1=>?_;have k:∀{h':hZ} (e:Int),Sp h h' [ao J 24 [xb xi p.1,xb xi p.2.1,xb xi p.2.2]]->my p seed syms=([],e)->∃r:Sl,(.tuple #[xc eH 0 0,xb xi e]:Value)=.tuple #[r,xb xi (my p seed syms).2]/\Sp h h' [al 5 r 1 aD (my p seed syms).1]:=λe H' he=>by
  rw[he];exact⟨⟨eH,0,0⟩,k0,(H'.nil 5 1 aD).cD [1]⟩
 refine bi ⟨p,(H1.box 0 k0).aS _ k0,?_⟩;refine(fa p h1).mono ?_;rintro _ h2 ⟨rfl,R2⟩;have R:=H1.up R2.aj;refine⟨_,k0,bj (λe=>?_) λa=>?_⟩
 ·exact k 1 R (by unfold my;rw[e];rfl)
 refine(VV p J l syms h2 (R.box 0 k0) (dS.up hl R.aj) k4).mono ?_;rintro _ h3 ⟨rfl,R3⟩;have Q:=R.up R3.aj;refine⟨_,k0,bj (λe=>?_) λd=>?_⟩
 ·exact k 1 Q (by unfold my;rw[a,e];rfl)
 refine bi ⟨p,(Q.box 0 k0).aS _ k0,?_⟩;refine(abG l syms h3 (dS.up hl Q.aj) k4).mono ?_;rintro _ h4 ⟨r,rfl,R4⟩;have H4:=Q.comp R4;have G:=H4.box 0 k0;refine⟨r,k0,⟨G.cell0 k0,G.cell k0,G.cell k0,trivial⟩,?_⟩;refine(PL p seed r (syms.map qM) h4 (H4.seq 1 k0 λ_=>rfl) k8).mono ?_;rintro _ h5 ⟨rfl,R5⟩;have K:Sp h h5 [ao J 24 [xb xi p.1,xb xi p.2.1,xb xi p.2.2]]:=(H4.up R5.aj).cD [0];refine⟨_,k0,trivial,bj (λe=>?_) λb=>?_⟩
 ·exact k 9 K (by unfold my;rw[a,d,e];rfl)
 have A:∀x∈syms,Bx p x:=λx g=>(Uq a).1 (qU.1 d x g);have ap:=(bZ p).1 a;have a3:=oN a;have hr:ca (dR p seed (syms.map qM))=(bD p).toNat:=by have:=b;unfold eI nC at this;rw[a]at this;simp at this;omega
 refine⟨p,(K.box 0 k0).aS _ k0,?_⟩;refine(aec p seed l syms (bD p).toNat p.2.2.toNat h5 (dS.up hl K.aj) a A k0 k0 U hr).mono ?_;rintro _ h6 (⟨hc,m,rfl,R6⟩|⟨hc,rfl,R6⟩)
 rotate_left
 ·refine⟨(⟨eH,0,0⟩,10),k0,bR (λ_=>k 10 (K.up R6.aj) ?_) λe=>absurd e k6⟩;unfold my;rw[a,d,b,j3 hc];rfl
 refine⟨(m,0),k0,bR (λe=>absurd k0 e) λ_=>?_⟩;obtain⟨X,hX⟩:∃X,X=gc (bD p).toNat (dR p seed (syms.map qM)) (sn p syms):=⟨_,rfl⟩
 have L:my p seed syms=(uy p seed X p.1.toNat,0):=by unfold my;rw[a,d,b,j1 hc,hX];rfl
 have T:aT p.2.2.toNat (sn p syms):=λx g=>by
  rcases qA.1 g with g|g
  ·rw[(wT.1 g).2];simp[aK]
  ·obtain⟨y,hy,rfl⟩:=qo.1 g;exact(A y hy).len
 have W:j9 (dR p seed (syms.map qM))=j9 (sn p syms):=by rw[<-XR (n:=(bD p).toNat) (seed:=seed) a k0 A,<-XS (n:=(bD p).toNat) (seed:=seed) (p:=p) (l:=syms) rfl];exact xA
 obtain⟨w,s⟩:=xz W (jL p seed _) T hr;rw[<-hX]at R6 w s;have H6:=(K.comp R6).Ro 1 k0;obtain⟨P,O⟩:=aa.RP H6 1 rfl λ_=>rfl;have am:=(O.gy 1 k0).1.len;have ay:=(O.gy 1 k0).2.1;refine⟨p.1,(O.box 0 k0).cell0 k0,?_⟩;rw[L];have M:Sp h h6 [al 5 ⟨eH,0,0⟩ 1 aD [],ao J 24 [xb xi p.1,xb xi p.2.1,xb xi p.2.2],dg (cF 1 aD) 1 bo m P X]:=(O.nil 5 1 aD).cD [2,0,1];have N:∀j:Nat,j9 (fS p.2.2.toNat X (dt (bD p).toNat seed (j:Int)))=p.2.2.toNat:=λj=>WE s w λx g=>nc k4 k4 g;have I:∀i,j9 (uy p seed X i)=i*p.2.2.toNat:=λi=>by
  induction i with
  |zero=>simp[uy]
  |succ i ih=>rw[Qg,qy,ih,N,zO]
 refine aw (λt:Nat×Sl=>(t.2,(t.1:Int))) (λt h'=>t.1<=p.1.toNat/\Sp h h' [al 5 t.2 1 aD (uy p seed X t.1),ao J 24 [xb xi p.1,xb xi p.2.1,xb xi p.2.2],dg (cF 1 aD) 1 bo m P X]) (λt=>p.1.toNat-t.1) (0,⟨eH,0,0⟩) k0 ⟨k4,by simpa[uy]using M⟩ ?_;rintro⟨i,o⟩ h8 ⟨hi,M⟩;dsimp only at*;refine ai (λe=>?_) (λe=>?_)
 ·have ax:i<p.1.toNat:=k4
  refine⟨p.2.2,(M.box 1 k0).cell k0,?_⟩;refine M.make ac aD gM k6 0 k0 k0 p.2.2.toNat p.2.2.toNat k4 k4 (ql _) k4 λsm h9 _ _ H9=>?_;refine⟨p,(H9.box 1 k0).aS _ k0,(BL p seed (i:Int) h9).mono ?_⟩;rintro _ a0 ⟨c,rfl,z⟩;have V:(bH p&&bW (i:Int))=eR:=by rw[a];unfold bW;simp;omega
  rw[V,j1 rfl]at z;have H:=(H9.comp z).cD [3,0,1,2,4];refine⟨c,k0,?_⟩;generalize F:dt (bD p).toNat seed (i:Int)=cs at H z;have u:∀x∈cs,0<=x/\x<((bD p).toNat:Int):=λx g=>nc k4 k4 (F▸g);have a4:j9 cs<=20:=by have:=Bh (n:=(bD p).toNat) k4 k4 seed (i:Int);rw[F]at this;omega
  have ar:=(H.own 4 k0).len;refine aw (λj:Nat=>(j:Int)) (λj h'=>j<=j9 cs/\Sp h h' [al 5 sm 1 aD (fS p.2.2.toNat X (cs.take j)),al 5 o 1 aD (uy p seed X i),ao J 24 [xb xi p.1,xb xi p.2.1,xb xi p.2.2],dg (cF 1 aD) 1 bo m P X,al 3 c 1 aq cs]) (λj=>j9 cs-j) 0 k0 ⟨k4,H⟩ ?_;rintro j a2 ⟨hj,f⟩;have B:=pP s w u j hj;refine ai (λe2=>?_) (λe2=>?_)
  ·have E:j<j9 cs:=k4
   have ah:=u _ (qh E);refine(f.seq 4 k0 λ_=>rfl).bC j k0 E _ k0 ?_;have q:cs[j].toNat<j9 X:=k4
   refine(f.gy 3 k0).1.md cs[j].toNat k4 k4 ?_;have Z:j9 (X[cs[j].toNat]'q)=p.2.2.toNat:=s _ (qh _);refine aed (P[cs[j].toNat]'(by omega)) sm (X[cs[j].toNat]'q) _ f (St.mk' λh' H'=>Fix.row (H'.gy 2 k0) q) (by rw[Z,B]) k4 λad D=>?_;refine⟨j+1,ld,⟨k4,?_⟩,k4⟩;rw[aH _ _ E,DV,mM q];exact D
  ·have Y:j=j9 cs:=k4
   subst Y;rw[qS]at f B;refine f.append ac 1 k0 gM TG k0 k6 (λ_=>rfl) (f.seq 0 k0 λ_=>rfl) iK (by rw[I,B];have:i*p.2.2.toNat<=16*24:=Nat.mul_le_mul k4 k4;omega) λo' ad D=>?_;refine⟨(i+1,o'),lb,⟨k7,?_⟩,k7⟩;dsimp only;rw[Qg,F];exact D.cD [1,2,3]
 ·have S:i=p.1.toNat:=k4
  subst S;exact⟨o,k0,M.cD [0]⟩
end Go.Qw
namespace Wl
section
variable {p:Int×Int×Int} {seed:Int} {d:Row} {K H w n:Nat}
def mz(p:Int×Int×Int)(seed:Int)(X:aM)(ids:au):List (Int×Row):=ids.map λi=>(i,fS p.2.2.toNat X (dt (bD p).toNat seed i))
theorem cu.size(B:cu p seed d K H w n):p.2.2.toNat=w:=by have:=B.s;omega
theorem Ld(X:aM)(ids:au):(mz p seed X ids).map qM=ids:=by simp[mz,wQ,Function.comp_def]
theorem cu.Ur(B:cu p seed d K H w n){ids:au}(hid:∀i∈ids,bW i=eR):(mz p seed (dn p seed d) ids).all (mV p)=eR:=qU.2 λx b=>by
 obtain⟨i,a,rfl⟩:=qo.1 b;refine(Uq B.may).2 ⟨hid i a,?_⟩;dsimp only;rw[B.size,B.pQ];exact B.ZQ i
theorem Np{α β:Type}{f g:α->List β}:∀(l:List α),(∀x∈l,f x=g x)->l.flatMap f=l.flatMap g
 |[],_=>rfl
 |a::l,h=>by rw[zg,zg,h a k9,Np l λx b=>h x p0]
theorem Qh(d:Row)(w:Nat):∀i,i*w<=j9 d->(qx i).flatMap (Go.Vc.Gc d w)=d.take (i*w)
 |0,_=>k9
 |i+1,h=>by
  have e:(i+1)*w=i*w+w:=zO i w;rw[zR,zj,Qh d w i k4,e,List.take_add];simp[Go.Vc.Gc]
theorem cu.out(B:cu p seed d K H w n):uy p seed (dn p seed d) p.1.toNat=d:=by
 have a:p.1.toNat=K:=by have:=B.k;omega
 unfold uy;rw[a,B.size,B.pQ];have:(qx K).flatMap (λj:Nat=>fS w (dn p seed d) (dt n seed (j:Int)))=(qx K).flatMap (Go.Vc.Gc d w):=by exact Np _ λj b=>B.acY (qD.1 b)
 rw[this,Qh d w K (by rw[B.len];exact ql _),qi (by rw[B.len];exact ql _)]
theorem cu.abH(B:cu p seed d K H w n){ids:au}(hid:∀i∈ids,bW i=eR):Wl.fE n w (dR p seed ids) (sn p (mz p seed (dn p seed d) ids)) (dn p seed d):=by
 have l:ids.filter bW=ids:=zW.2 hid;have m:dR p seed ids=bw K H++ids.map (oH n seed):=by
  unfold dR;rw[B.may,j1 k0,l,B.pQ];have o:p.1.toNat=K:=by have:=B.k;omega
  have e:p.2.1.toNat=H:=by have:=B.h;omega
  rw[o,e]
 have j:sn p (mz p seed (dn p seed d) ids)=qg H (aK w)++ids.map λi=>fS w (dn p seed d) (dt n seed i):=by
  unfold sn mz;have e:p.2.1.toNat=H:=by have:=B.h;omega
  rw[e,B.size,B.pQ,wQ];rfl
 refine⟨B.oc.1,B.oc.2,λi g=>?_⟩;rw[m]at g⊢;rw[j];have b:j9 (bw K H)=H:=by simp[bw]
 simp only[qy,qw,b]at g;by_cases a:i<H
 ·have c:aC (bw K H++ids.map (oH n seed)) i=mf K H i:=by rw[bv k8,wN k4];simp[bw]
  have f:aC (qg H (aK w)++ids.map λi=>fS w (dn p seed d) (dt n seed i)) i=aK w:=by rw[bv k8,wN l7];simp
  rw[c,f];exact B.low a
 ·have c:aC (bw K H++ids.map (oH n seed)) i=oH n seed (ids[i-H]'(by omega)):=by rw[bv k8,zX k4];simp[b]
  have f:aC (qg H (aK w)++ids.map λi=>fS w (dn p seed d) (dt n seed i)) i=fS w (dn p seed d) (dt n seed (ids[i-H]'(by omega))):=by rw[bv k8,zX l7];simp
  rw[c,f,B.sym]
theorem abI{l:List (Int×Row)}(c:∀x∈l,Bx p x):aT p.2.2.toNat (sn p l):=λx a=>by
 rcases qA.1 a with a|a
 ·rw[(wT.1 a).2];simp[aK]
 ·obtain⟨y,b,rfl⟩:=qo.1 a;exact(c y b).len
theorem VW(a:bH p=eR){l:List (Int×Row)}(b:∀x∈l,Bx p x):j9 (dR p seed (l.map qM))=j9 (sn p l):=by rw[<-XR (n:=(bD p).toNat) (seed:=seed) a k0 b,<-XS (n:=(bD p).toNat) (seed:=seed) (p:=p) (l:=l) rfl];exact xA
theorem Ih(a:bH p=eR){ids:au}:eI p seed ids=eR↔ca (dR p seed ids)=(bD p).toNat:=by have:=oN a;have:=(bZ p).1 a;unfold eI nC;rw[a,zQ];simp;omega
theorem cu.dec(B:cu p seed d K H w n){ids:au}(hid:∀i∈ids,bW i=eR)(c:eI p seed ids=eR):my p seed (mz p seed (dn p seed d) ids)=(d,0):=by have a:∀x∈mz p seed (dn p seed d) ids,Bx p x:=λx g=>(Uq B.may).1 (qU.1 (B.Ur hid) x g);have h:=B.abH hid;have e:=VW (seed:=seed) B.may a;rw[Ld]at e;have f:=(Ih B.may).1 c;have b:=mi e (jL p seed ids) (abI a) f (by rw[B.pQ,B.size];exact h);unfold my;rw[B.may,B.Ur hid,Ld,c];simp only[Bool.and_self,if_true];rw[j1 b.2,<-b.1,B.out]
theorem aee(b:bH p=eR){l:List (Int×Row)}(c:l.all (mV p)=eR)(a:eI p seed (l.map qM)=eS):my p seed l=([],9):=by unfold my;rw[b,c,a];rfl
end
end Wl
namespace Go.Qw
open Go Go.Vc Go.Proofs Wl
theorem VX(l:Sl)(r:au)(c:hU)(x:Int)(h:hZ)(d:cA h c 3 [xb xi x])(b:Rd h l 1 aq r)(a:j9 r<=2^30):
  ab xm 299 #[l,xd (dB c)] h λv h'=>v=xg (decide (x∈r))/\h'=h:=by
 refine Bb l c ?_;unfold pv;refine⟨x,d.cell0 k0,(ux l r x h b a).mono ?_⟩;rintro _ _ ⟨rfl,rfl⟩;exact⟨_,k0,k0,k0⟩
theorem VY(s:Sl)(W:bz)(c:hU)(x:Int)(h:hZ)(n:cA h c 3 [xb xi x])(g:fZ h s 1 aq W)(q:j9 W<=2^20)(p:∀l∈W,j9 l<=2^20):
  ab xm 298 #[s,.func (.func 299) #[] #[xd (dB c)]] h λv h'=>v=xg (kt W x)/\h'=h:=by
 refine nT s (299,#[],#[xd (dB c)]) ?_;unfold kc;refine(pD s (299,#[],#[xd (dB c)]) (R:=λv h'=>(∃i:Int,v=xb xi i/\(decide (i>=0)=kt W x))/\h'=h) ?_).mono ?_
 ·unfold lq;have m:=g.len;refine aw (λi:Nat=>(i:Int)) (λi h'=>i<=j9 W/\kt (W.take i) x=eS/\h'=h) (λi=>j9 W-i) 0 k0 ⟨k4,by simp[kt],k0⟩ ?_;rintro i o ⟨j,b,rfl⟩;refine ai (λe=>?_) λe=>?_
  ·have a:i<j9 W:=by have k:(i:Int)<(s.len:Int):=e;omega
   refine g.get i k0 a λr f=>fq m7 ?_;refine(VX r W[i] c x o n f (by have:=p _ (qh a);omega)).mono ?_;rintro _ _ ⟨rfl,rfl⟩;refine⟨_,k0,ai (λd=>⟨⟨i,k0,?_⟩,k0⟩) λd=>?_⟩
   ·rw[j6 (show(i:Int)>=0 by omega)]
    symm
    unfold kt;rw[wc];exact⟨_,qh a,j6 d⟩
   ·refine⟨i+1,ld,⟨k4,?_,k0⟩,k4⟩;unfold kt at b⊢;rw[aH _ _ a,List.any_append,b,List.any_cons,List.any_nil,j7 d];rfl
  ·have k:¬(i:Int)<(s.len:Int):=e;rw[qi k4]at b;exact⟨⟨-1,k0,by rw[b];rfl⟩,k0⟩
 ·rintro _ _ ⟨⟨i,rfl,j⟩,rfl⟩;exact⟨i,k0,by rw[j],k0⟩
abbrev gf(x:gY)(a:aQ)(wS gS:Sl):ba:=[xb xi x.o,xb xi x.b,xb xk x.seed,.pointer a,wS,gS]
theorem VZ(b:hU)(x:gY)(r:aQ)(wS gS:Sl)(h:hZ)(k:cA h b 187 (gf x r wS gS))(p:fZ h wS 1 aq x.W)(o:j9 x.W<=2^20)(t:∀l∈x.W,j9 l<=2^20)(z:CB x.W<=2^40):
  ab xm 245 #[xd (dB b)] h λv h'=>v=xb xi (cP x.W)/\Sp h h' []:=by
 refine Di (dB b) ?_;unfold rV;refine(Sp.refl h).alloc ac k0 λc w q=>?_;refine q.storeAll ac 0 k0 k0 [xb xi 0] k0 k0 k0 k0 λu m=>?_;refine aw (λ_:Nat=>()) (λi h'=>i<=CB x.W+1/\(∀j,j<i->kt x.W (j:Int)=eR)/\Sp h h' [ao c 3 [xb xi i]]) (λi=>CB x.W+1-i) 0 k0 ⟨k4,λj n=>k4,m⟩ ?_;rintro i h3 ⟨y,a,d⟩;refine⟨b,k0,wS,(k.aj d.aj k.lt).cell k0,(VY wS x.W c i h3 (d.box 0 k0) (p.up d.aj) o t).mono ?_⟩;rintro _ _ ⟨rfl,rfl⟩;refine⟨_,k0,bQ (λe=>?_) λe=>?_⟩
 ·have:=OL e;refine⟨i,(d.box 0 k0).cell0 k0,d.storeAll ac 0 k0 k0 [xb xi (qc xi ((i:Int)+1))] k0 k0 k0 k0 λs f=>?_⟩;refine⟨i+1,k0,⟨k4,λj n=>?_,?_⟩,k4⟩
  ·by_cases g:j=i
   ·rw[g];exact e
   ·exact a j k4
  ·have f:Sp h s [ao c 3 [xb xi (qc xi ((i:Int)+1))]]:=f;rw[ag _]at f;exact f
 ·refine⟨i,(d.box 0 k0).cell0 k0,?_,.zip d.aj⟩;rw[Ni e a]
section
variable {B:aB} {h0 h:hZ} {As:List HP} {a pw:hU} {offs:Int} {da:List aQ} {w:Pow} {ds:aF} {m:aE}
theorem aef{k:Int}{d:bp}{b:hU}(y:cw)(n:Int)(l:aW ds k=dB d)(i:kd da k=dB b)(f:dV h y m)(j:dO m)(H:aa B h0 h (bL a pw da offs w ds m::As)):
  ab xm 118 #[xd (dB b),ge y,xb xi n] h λv h'=>v=xg (fy m d n)/\Sp h h' []:=by
 obtain⟨s,g,e,c,o⟩:=Ub l i H;exact HL s g y m n e c c.len o f j
theorem Qi{k:Int}{d:bp}{b:hU}(c:aW ds k=dB d)(j:kd da k=dB b)(H:aa B h0 h (bL a pw da offs w ds m::As)):
  ∃p A2:HP,aa B h0 h (mu pw b d::eE 92 pw w::p::A2::As)/\
   ∀h' l g,aa B h0 h' (mu pw b g::eE 92 pw l::p::A2::As)->aa B h0 h' (bL a pw da offs l (bT ds k g) m::As):=by
 obtain⟨y,H⟩:=jo H;obtain⟨n,rfl,v⟩:=ma c;have t:ds[n]?=dB (dB d):=by
  unfold aW at c;rw[j1 k4,qn]at c;cases hX:ds[n]? with
  |none=>rw[hX]at c;cases c
  |some o=>rw[hX]at c;exact congrArg dB c
 obtain⟨u,f,r⟩:=Go.Vc.aa.kP H t;have i:u=b:=by unfold kd at j;rw[j1 k4,qn,f]at j;injection j
 subst i;refine⟨_,_,r,λh' l g q=>?_⟩;have s:=Go.Vc.aa.Ao (k:=cm) (n:=n) f q;have e:bT ds (n:Int) g=ds.set n (dB g):=by simp only[bT,qn]
 rw[e];exact AE s
theorem aeg{k:Int}{d:bp}{b:hU}(y:cw)(n:Int)(f:St B h0 As λh=>dV h y m)(j:dO m)(l:aW ds k=dB d)(i:kd da k=dB b)(H:aa B h0 h (bL a pw da offs w ds m::As)):
  ab xm 119 #[xd (dB b),ge y,xb xi n] h λv h'=>v=xb xi (fY m w d n).1/\aa B h0 h' (bL a pw da offs (fY m w d n).2.1 (bT ds k (fY m w d n).2.2) m::As):=by
 obtain⟨o,A2,g,c⟩:=Qi l i H;refine(PM y m n f.cons.cons j g).mono ?_;rintro _ h' ⟨rfl,e⟩;exact⟨k0,c _ _ _ e⟩
theorem YS{k:Int}{d:bp}{b:hU}(x:Sl)(row:aY)(f:Rd h x 1 aD row)(l:j9 row<=2^20)(j:aW ds k=dB d)(i:kd da k=dB b)(H:aa B h0 h (bL a pw da offs w ds m::As)):
  ab xm 102 #[xd (dB b),x] h λv h'=>v=xb xi (d.append w row).1/\aa B h0 h' (bL a pw da offs (d.append w row).2.1 (bT ds k (d.append w row).2.2) m::As):=by
 obtain⟨n,A2,g,c⟩:=Qi j i H;refine(JM x row g f l).mono ?_;rintro _ h' ⟨rfl,e⟩;exact⟨k0,c _ _ _ e⟩
theorem aeh(s:Sl)(l:au)(d:St B h0 As λh=>Rd h s 1 aq l)(e:j9 l<=2^30)(b:∀x∈l,0<=x/\x<64)(H:aa B h0 h (bL a pw da offs w ds m::As)):
  ab xm 103 #[.func (.func 35) #[xd (dB a)] #[],s] h λv h'=>v=xb xi (eN (cI l) w ds).1/\aa B h0 h' (bL a pw da offs (eN (cI l) w ds).2.1 (eN (cI l) w ds).2.2 m::As):=by
 obtain⟨y,H⟩:=jo H;refine(MK s l d.cons e b H).mono ?_;rintro _ h' ⟨rfl,c⟩;exact⟨k0,AE c⟩
theorem Wa(y:cw)(s:Sl)(c:au)(o b:Int)(e:dV h y m)(i:dO m)(l:Rd h s 1 aq c)(g:j9 c<=2^10)(j:∀k∈c,∃d,aW ds k=dB d)(H:aa B h0 h (bL a pw da offs w ds m::As)):
  ab xm 63 #[.func (.func 35) #[xd (dB a)] #[],s,ge y,xb xi o,xb xi b] h λv h'=>∃(r:Sl) (f:List (Int×Sl)),v=r/\Sp h h' [dg jG 2 piv r f (fc m ds c o b)]:=by
 obtain⟨x,H⟩:=jo H;exact HR y m s c o b e i l g j H
end
end Go.Qw
namespace Wl
open Go Go.Qw Go.Vc
theorem rD(ds:aF)(k:Int)(d e:bp):bT (bT ds k d) k e=bT ds k e:=by unfold bT;rw[List.set_set]
theorem aei{live:au}{s i:Int}(m:0<=i↔s∈live)(f:0<=i->live[i.toNat]?=dB s/\∀j,j<i.toNat->live[j]?≠dB s)(h3:-1<=i):dG live s=i:=by
 unfold dG;by_cases c:0<=i
 ·obtain⟨a,b⟩:=f c;have e:live.idxOf? s=dB i.toNat:=by unfold List.idxOf?;rw[List.findIdx?_eq_some_iff_getElem];obtain⟨k,l⟩:=qm.1 a;refine⟨k,by rw[l];simp,λj g=>?_⟩;have:=b j g;rw[qd k4]at this;simpa using λh=>this (by rw[h])
  rw[e];dsimp only;omega
 ·have e:live.idxOf? s=eH:=by unfold List.idxOf?;rw[List.findIdx?_eq_none_iff];intro z d;have:s∉live:=λh=>c (m.2 h);simp only[beq_eq_false_iff_ne];rintro rfl;exact this d
  rw[e];dsimp only;omega
theorem Wb(k:Int)(b:aY):j9 (eG k b)<=64:=by
 by_cases h:1<=k/\k<=255/\b.length<=55
 ·rw[mI h.1 h.2.1 h.2.2];exact ql _
 ·unfold eG;rw[j3 h];exact zy _
theorem IX{o:au}{i:Int}(a:o≠[])(c:0<=i:=by omega):dK o i∈o:=by unfold dK;rw[j3 λh=>h.elim a λh=>k4];have e:0<j9 o:=List.length_pos_iff.2 a;have d:=Int.emod_nonneg i (show(j9 o:Int)≠0 by omega);have b:=Int.emod_lt_of_pos i (show(0:Int)<j9 o by omega);unfold IV;rw[qe,qd k4];exact qh _
theorem xp{o b s:Int}{l:au}(h:s∈cK o b l):s∈l:=by
 unfold cK at h;split at h
 ·exact((HQ _ _ _).1 h).1
 ·cases h
theorem aej(l:au):j9 (io l)<=j9 l:=by
 have:=TO l l.length
 rwa [qi (ql _)]at this
theorem YT(o b:Int)(l:au):j9 (cK o b l)<=j9 l:=by
 unfold cK;split
 ·rw[(Ez _ _).length_eq];exact aej l
 ·simp
structure kh (m:aE) (live:au) (x:gY):Prop where
 seed:0<=x.seed/\x.seed<4294967296
 ev:aT m.p.2.2.toNat x.M
 ml:j9 x.M=(bD m.p).toNat
 wl:j9 x.W=j9 live
 rl:∀l∈x.W,j9 l<=2^12+j9 x.got
 top:CB x.W<=2^20+j9 x.got
 gl:j9 x.got<=64
 gi:∀s∈x.got,s∈live
end Wl
namespace Go.Qw
open Go Go.Vc Go.Proofs Wl
theorem _root_.Go.Vc.Seq.agt{h:hZ}{p:aB}{s:Sl}{rs:List Sl}(g:Vc.Seq h p s 1 bo rs){n:Nat}(e:n<j9 rs){a:hU}(i:s.ptr=dB a):cellOf h (a.add (n*1))=dB (.slice rs[n].ptr rs[n].len rs[n].cap):=by
 obtain⟨b,o,c,j,f⟩:=g.elem n rs[n] (qd e);rw[i]at c;injection c with c
 subst c;have d:=f.1;rw[add_eq,Nat.add_zero]at d;rw[add_eq];exact d
def sE(s:Sl)(W:bz)(k:Nat)(rs:List Sl):HP:=HP.all (al 22 s 1 bo rs::(bA 3 1 aq rs W).set k emp)
section
variable {B:aB} {h0 h:hZ} {As:List HP} {s:Sl} {W:bz} {k:Nat}
theorem Us(H:aa B h0 h As):aa B h0 h (emp::As):=(H.comp (.one (A:=emp) (aX.refl _ _) trivial)).bu
theorem Ut(g:k<j9 W)(H:aa B h0 h (dh 22 s 3 1 aq W::As)):
  ∃(rs:List Sl) (p:hU) (b:j9 rs=j9 W),s.ptr=dB p/\s.len=j9 W/\aa B h0 h (al 3 (rs[k]'(by omega)) 1 aq W[k]::sE s W k rs::As):=by
 obtain⟨rs,b,a⟩:=H.Iz;have j:=(a.own 0 k0).len;obtain⟨p,o,e,_⟩:=(a.seq 0 rfl λ_=>rfl).elem k (rs[k]'(by omega)) (qd k4);have f:aa B h0 h (al 22 s 1 bo rs::emp::(bA 3 1 aq rs W++As)):=(Us a).bc 2 [1,0];have i:=(aa.WO k (iW b k g) f).bc 3 [0,2];have d:aa B h0 h ([al 3 (rs[k]'(by omega)) 1 aq W[k]]++((al 22 s 1 bo rs::(bA 3 1 aq rs W).set k emp)++As)):=i;have c:=d.front;rw[List.append_assoc]at c;exact⟨rs,_,b,e,k4,(aa.closeAll _ c).bu⟩
theorem WZ{rs:List Sl}{p:hU}(i:Nat){Bs:List HP}(d:j9 rs=j9 W)(e:k<j9 W)(a:s.ptr=dB p)(c:Bs[i]?=dB (sE s W k rs))(H:aa B h0 h Bs):cellOf h (p.add (k*1))=dB (.slice (rs[k]'(by omega)).ptr (rs[k]'(by omega)).len (rs[k]'(by omega)).cap):=by have b:=(H.cons i c).sg;exact(b.seq 0 k0 λ_=>rfl).agt k4 a
theorem Uu{rs:List Sl}{v:Sl}{l:au}{x:Int}(f:j9 rs=j9 W)(n:k<j9 W)(i:x=k)(H:aa B h0 h (al 3 v 1 aq l::sE s W k rs::As)){K:hZ->Prop}
  (m:∀h',aa B h0 h' (dh 22 s 3 1 aq (W.set k l)::As)->K h'):
  ∃a:hU,(s.ptr=dB a/\0<=x/\x<((s.len:Nat):Int))/\af xm (qf 22 (xd (dB (a.add (x.toNat*1)))) (xc v.ptr v.len v.cap)) h λ_ h'=>K h':=by
 have j:=H.nZ.sg;refine j.set ac 0 k0 (λ_=>rfl) k0 k i k4 v k0 k0 k0 λh' g=>m h' ?_;have b:j9 (bA 3 1 aq rs W)=j9 W:=by simp[bA];omega
 have d:=g.cons (j9 W+1) (A:=al 3 v 1 aq l) (by
  show((al 22 s 1 bo (rs.set k v)::((bA 3 1 aq rs W).set k emp++al 3 v 1 aq l::As)))[j9 W+1]?=_;rw[List.getElem?_cons_succ,qj p0];simp[b])
 have e:((al 22 s 1 bo (rs.set k v)::((bA 3 1 aq rs W).set k emp++al 3 v 1 aq l::As))).set (j9 W+1) emp=al 22 s 1 bo (rs.set k v)::((bA 3 1 aq rs W).set k emp++emp::As):=by rw[List.set_cons_succ,List.set_append_right _ _ p0];simp[b]
 have d:aa B h0 h' (al 3 v 1 aq l::al 22 s 1 bo (rs.set k v)::((bA 3 1 aq rs W).set k emp++emp::As)):=by rw[<-e];exact d
 have c:=(aa.OB k k4 ((Us d).bc 3 [1,0,2])).bc 2 [0];have c:aa B h0 h' (al 22 s 1 bo (rs.set k v)::((bA 3 1 aq rs W).set k (al 3 v 1 aq l)++emp::As)):=c;rw[kZ f]at c;exact(aa.Gh sb c).bc 2 [0]
end
def rE(b a:hU)(x:gY):HP:=HP.ex λp:Sl×Sl=>(ao b 187 (gf x (dB a) p.1 p.2)).sep ((dh 22 p.1 3 1 aq x.W).sep (al 3 p.2 1 aq x.got))
section
variable {B:aB} {h0 h:hZ} {As:List HP} {b cd:hU} {x:gY}
theorem IY(H:aa B h0 h (rE b cd x::As)):∃wS gS:Sl,aa B h0 h (al 3 gS 1 aq x.got::dh 22 wS 3 1 aq x.W::ao b 187 (gf x (dB cd) wS gS)::As):=by obtain⟨⟨wS,gS⟩,H⟩:=H.sK;exact⟨wS,gS,H.sZ.sZ⟩
theorem AH{wS gS:Sl}(H:aa B h0 h (al 3 gS 1 aq x.got::dh 22 wS 3 1 aq x.W::ao b 187 (gf x (dB cd) wS gS)::As)):aa B h0 h (rE b cd x::As):=
 aa.xI (F:=λp:Sl×Sl=>(ao b 187 (gf x (dB cd) p.1 p.2)).sep ((dh 22 p.1 3 1 aq x.W).sep (al 3 p.2 1 aq x.got))) (wS,gS) H.mb.mb
end
section
variable {B:aB} {h0 h:hZ} {As:List HP} {a pw:hU} {offs:Int} {da:List aQ} {w:Pow} {ds:aF} {m:aE}
theorem abJ{c b j:hU}(y:cw)(E g:Sl)(live set:au)(t most k:Int)(x:gY)(hm:bV m=eR)(hp:bH m.p=eR)(hl:j9 live<=64)(a8:∀k∈live,∃d,aW ds k=dB d)(hk:0<=k/\k<=2^40)(F:kh m live x)(ej:j9 set<=2^20)
  (hS:St B h0 As λh=>dV h y m/\Rd h E 1 aq live/\Rd h g 1 aq set/\Ax h j m.p x.seed x.M)
  (H:aa B h0 h (bL a pw da offs w ds m::ao c 109 (cT a y E t most k)::rE b j x::As)):
  ab xm 193 #[xd (dB c),xd (dB b),g] h λv h'=>v=xb xi (dc m live set w ds x).1/\
   aa B h0 h' (bL a pw da offs (dc m live set w ds x).2.1 (dc m live set w ds x).2.2.1 m::ao c 109 (cT a y E t most (if(dc m live set w ds x).1=0 then k+1 else k))::rE b j (dc m live set w ds x).2.2.2::As):=by
 refine AW (dB c) (dB b) g ?_;unfold pm;obtain⟨wS,gS,H1⟩:=IY (H.bc 3 [2,0,1]);have ax:=H1.box 2 k0;have cn:=H1.box 4 k0;have ec:fZ h wS 1 aq x.W:=aa.Gj (H1.bc 2 [1,0]) λ_=>rfl;have e5:=F.gl;have cs:∀l∈x.W,j9 l<=2^13:=λl hl=>by have:=F.rl l hl;omega
 obtain⟨id,hid⟩:∃id,id=cP x.W:=⟨_,rfl⟩
 have ed:id<=2^21:=by have:=Ug x.W;have:=F.top;omega
 refine(VZ b x (dB j) wS gS h ax ec qb (λl hl=>by have:=cs l hl;omega) (by have:=F.top;omega)).mono ?_;rintro _ h1 ⟨rfl,R1⟩;rw[<-hid];have H1:=H1.up R1.aj;have c2:=(hS.cons.cons.cons.cons.cons).here H1;obtain⟨ek,cl,e6,et⟩:=c2;have ax:=H1.box 2 k0;have cn:=H1.box 4 k0;refine⟨(id:Int),k0,b,k0,x.o,ax.cell0 k0,b,k0,x.b,ax.cell k0,c,k0,E,cn.cell k0,(JT x.o x.b E live h1 cl).mono ?_⟩;rintro _ h2 ⟨r8,rfl,R2⟩;obtain⟨o,ho⟩:∃o,o=cK x.o x.b live:=⟨_,rfl⟩
 rw[<-ho]at R2;have eo:j9 o<=64:=by rw[ho];exact zf (YT _ _ _) hl
 have H2:=H1.ck R2;have ei:=(H2.own 0 k0).len;refine⟨r8,k0,trivial,?_⟩;obtain⟨cell,O⟩:∃cell,cell=cL (x.Ia m id):=⟨_,rfl⟩
 have e0:dc m live set w ds x=(let r:=fJ m live set o cell id w ds (qx o.length);(r.1.1,r.1.2.1,r.1.2.2,if r.1.1=0 then x.nw id r.2.1 r.2.2 else x)):=by rw[ho,O,hid];rfl
 rw[e0];refine aw (λi:Nat=>(i:Int)) (λi h'=>i<=j9 o/\fJ m live set o cell id w ds (qx o.length)=fJ m live set o cell id w ds ((qx o.length).drop i)/\aa B h0 h' (al 3 r8 1 aq o::al 3 gS 1 aq x.got::dh 22 wS 3 1 aq x.W::ao b 187 (gf x (dB j) wS gS)::bL a pw da offs w ds m::ao c 109 (cT a y E t most k)::As)) (λi=>j9 o-i) 0 k0 ⟨k4,k0,H2⟩ ?_;rintro i h3 ⟨hi,b0,T⟩;refine ai (λe=>?_) λe=>?_
 rotate_left
 ·have e7:i=j9 o:=k4
  have hd:(qx o.length).drop i=[]:=List.drop_eq_nil_of_le k8;rw[b0,hd];refine⟨k0,?_⟩;have T:=T.rest;exact((AH (T.bc 5 [0,1,2,3,4])).bc 3 [1,2,0])
 have b2:i<j9 o:=k4
 have hd:(qx o.length).drop i=i::(qx o.length).drop (i+1):=by rw[qP k8,vx]
 rw[ag ((id:Int)+(i:Int))];refine(WT r8 o ((id:Int)+i) h3 (T.seq 0 k0 λ_=>rfl)).mono ?_;rintro _ _ ⟨rfl,rfl⟩;obtain⟨s,hs⟩:∃s,s=dK o ((id:Int)+i):=⟨_,rfl⟩
 rw[<-hs];have d5:s∈o:=by rw[hs];exact IX (by intro h;rw[h]at b2;simp at b2)
 have a3:s∈live:=xp (by rw[<-ho];exact d5);obtain⟨d,U⟩:=a8 s a3;have N:fJ m live set o cell id w ds (qx o.length)=(if dG live s∈set∨fy m d 1=eS then fJ m live set o cell id w ds ((qx o.length).drop (i+1))else(ir m cell w ds s d,dG live s,s)):=by rw[b0,hd,fJ,<-hs,U]
 obtain⟨du,br,c4,ep⟩:=(hS.cons.cons.cons.cons.cons.cons).here T;have Y:=T.box 5 k0;refine⟨_,k0,c,k0,E,Y.cell k0,(index_spec E live s _ br k4).mono ?_⟩;rintro _ _ ⟨⟨G,rfl,q1,q2,q3,q4⟩,rfl⟩;have a4:dG live s=G:=aei q1 q2 q4;have dk:0<=G:=q1.2 a3;refine⟨G,k0,c,k0,dB a,Y.cell0 k0,(PW s (T.bc 5 [4])).mono ?_⟩;rintro _ _ ⟨rfl,rfl⟩;obtain⟨dp,ay⟩:=WV U (T.bc 5 [4]);rw[ay];refine⟨_,k0,?_⟩;refine bO (λ(_:Unit) h'=>¬(dG live s∈set∨fy m d 1=eS)/\aa B h0 h' (al 3 r8 1 aq o::al 3 gS 1 aq x.got::dh 22 wS 3 1 aq x.W::ao b 187 (gf x (dB j) wS gS)::bL a pw da offs w ds m::ao c 109 (cT a y E t most k)::As)) ?_ ?_
 ·refine(ux g set G _ c4 k4).mono ?_;rintro _ _ ⟨rfl,rfl⟩;refine⟨_,k0,ai (λe1=>?_) λe1=>?_⟩
  ·refine⟨i+1,ld,⟨k4,?_,T⟩,k4⟩;rw[N,j1 (.inl (by rw[a4];exact e1))]
  ·refine⟨c,k0,y,Y.cells 1 _ k0,(aef y 1 U ay du (pC hm) (T.bc 5 [4])).mono ?_⟩;rintro _ h4 ⟨rfl,R4⟩;refine⟨_,k0,bj (λe2=>?_) λe2=>?_⟩
   ·refine⟨i+1,ld,⟨k4,?_,T.up R4.aj⟩,k4⟩;rw[N,j1 (.inr e2)]
   ·exact⟨λh=>h.elim (λh=>e1 (by rw[<-a4];exact h)) (λh=>by rw[h]at e2;cases e2),T.up R4.aj⟩
 rintro _ h5 ⟨c7,H5⟩;rw[N,j3 c7];dsimp only;have b9:=H5.box 5 k0;have H5:aa B h0 h5 (bL a pw da offs w ds m::al 3 gS 1 aq x.got::dh 22 wS 3 1 aq x.W::ao b 187 (gf x (dB j) wS gS)::ao c 109 (cT a y E t most k)::As):=H5.bc 6 [4,1,2,3,5];refine⟨c,k0,y,b9.cells 1 _ k0,(aeg y 1 (hS.cons.cons.cons.cons.mono λ_ q=>q.1) (pC hm) U ay H5).mono ?_⟩;rintro _ h6 ⟨rfl,H6⟩;obtain⟨mk,bq⟩:∃mk,mk=fY m w d 1:=⟨_,rfl⟩
 rw[<-bq]at H6⊢;refine⟨_,k0,bR (λe3=>?_) λe3=>?_⟩
 ·have ea:ir m cell w ds s d=(mk.1,mk.2.1,bT ds s mk.2.2):=by unfold ir;rw[<-bq];dsimp only;rw[j1 e3]
  rw[ea];dsimp only;rw[j3 e3,j3 e3];refine⟨k0,?_⟩;exact(AH (H6.bc 5 [1,2,3,0,4])).bc 3 [1,2,0]
 have c0:aW (bT ds s mk.2.2) s=dB mk.2.2:=by rw[gH (ry H).1 U,j1 rfl]
 obtain⟨n,cf⟩:∃n,n=mk.2.2.append mk.2.1 cell:=⟨_,rfl⟩
 have ea:ir m cell w ds s d=(n.1,n.2.1,bT (bT ds s mk.2.2) s n.2.2):=by unfold ir;rw[<-bq];dsimp only;rw[j3 λh=>h e3,<-cf,rD]
 rw[ea];dsimp only;obtain⟨c6,ef,eq,d1⟩:=(hS.cons.cons.cons.cons.cons).here H6;have P:=H6.box 3 k0;have bx:=H6.box 4 k0;have cc:∀{h':hZ},cA h' c 109 (cT a y E t most k)->dV h' y m->an h' ((c.add 1).add 2) 0 [xb xi m.p.1,xb xi m.p.2.1,xb xi m.p.2.2]:=λ{h'} hb hy=>by
  have d4:y.2.2.1=m.p.1:=congrArg (·.1) hy.p;have d9:y.2.2.2.1=m.p.2.1:=congrArg (·.2.1) hy.p;have d7:y.2.2.2.2.1=m.p.2.2:=congrArg (·.2.2) hy.p;rw[addr_add,<-d4,<-d9,<-d7];exact hb.cells 3 _ k0
 refine bO (λ(z:hU) h'=>∃D:Sl,aa B h0 h' (ao z 170 (bP (x.o,x.b,(id:Int),m.p.1,m.p.2.1,m.p.2.2,x.seed,D))::al 5 D 1 aD (x.Ia m id).data::bL a pw da offs mk.2.1 (bT ds s mk.2.2) m::al 3 gS 1 aq x.got::dh 22 wS 3 1 aq x.W::ao b 187 (gf x (dB j) wS gS)::ao c 109 (cT a y E t most k)::As)) ?_ ?_
 ·have d2:=cc bx c6;have K:∀{h':hZ},cA h' b 187 (gf x (dB j) wS gS)->cA h' c 109 (cT a y E t most k)->dV h' y m->av.ok [(b.add 2,xb xk x.seed),((c.add 1).add 2,xb xi m.p.1),(((c.add 1).add 2).add 1,xb xi m.p.2.1),(((c.add 1).add 2).add 2,xb xi m.p.2.2),(b.add 1,xb xi x.b),(b,xb xi x.o)] h':=λ{h'} hb hc hy=>by
   have q:=cc hc hy;exact⟨hb.cell k0,q.1,q.2.1,q.2.2.1,hb.cell k0,hb.cell0 k0,trivial⟩
  refine⟨b,k0,x.o,P.cell0 k0,b,k0,x.b,P.cell k0,c,k0,m.p,d2,b,k0,x.seed,P.cell k0,b,k0,dB j,P.cell k0,?_,?_⟩
  ·refine(Cx j m.p x.seed id x.M (bD m.p).toNat m.p.2.2.toNat h6 d1 hp (by have:=(bZ m.p).1 hp;omega) k0 F.ev F.ml).mono ?_;rintro _ h7 ⟨D,rfl,R7⟩;have H7:=H6.ck R7;refine⟨D,k0,K (H7.box 4 k0) (H7.box 5 k0) ((hS.cons.cons.cons.cons.cons.cons).here H7).1,H7.alloc ac k0 λdr h8 Q=>?_⟩;have Q:=Q.bu;refine⟨K (Q.box 5 k0) (Q.box 6 k0) ((hS.cons.cons.cons.cons.cons.cons.cons).here Q).1,?_⟩;refine Q.storeAll ac 0 k0 k0 (bP (x.o,x.b,(id:Int),m.p.1,m.p.2.1,m.p.2.2,x.seed,D)) k0 k0 k0 k0 λh9 H9=>⟨trivial,D,H9⟩
  ·refine H6.alloc ac k0 λdr h8 Q=>?_;have Q:=Q.bu;obtain⟨d3,_,_,c8⟩:=(hS.cons.cons.cons.cons.cons.cons).here Q;refine⟨⟨(Q.box 4 k0).cell k0,K (Q.box 4 k0) (Q.box 5 k0) d3⟩,?_⟩;refine(Cx j m.p x.seed id x.M (bD m.p).toNat m.p.2.2.toNat h8 c8 hp (by have:=(bZ m.p).1 hp;omega) k0 F.ev F.ml).mono ?_;rintro _ h7 ⟨D,rfl,R7⟩;have H7:=Q.ck R7;refine⟨D,k0,K (H7.box 5 k0) (H7.box 6 k0) ((hS.cons.cons.cons.cons.cons.cons.cons).here H7).1,?_⟩;refine H7.storeAll ac 1 k0 k0 (bP (x.o,x.b,(id:Int),m.p.1,m.p.2.1,m.p.2.2,x.seed,D)) k0 k0 k0 k0 λh9 H9=>⟨trivial,D,H9.nZ⟩
 rintro z d0 ⟨D,bk⟩;have b1:=bk.box 0 k0;refine⟨(x.o,x.b,(id:Int),m.p.1,m.p.2.1,m.p.2.2,x.seed,D),b1.aS _ k0,?_⟩;have a7:=bk.seq 1 k0 λ_=>rfl;refine(sS (x.o,x.b,(id:Int),m.p.1,m.p.2.1,m.p.2.2,x.seed,D) (x.Ia m id) d0 ⟨⟨k0,k0,k0,k0,k0,F.seed⟩,a7⟩).mono ?_;rintro _ d6 ⟨bl,rfl,cp⟩;rw[<-O]at cp;have a1:=bk.ck cp;have eb:j9 cell<=2^20:=by
  rw[O];unfold cL;split
  ·exact zf (Wb _ _) k6
  ·simp
 have a1:aa B h0 d6 (bL a pw da offs mk.2.1 (bT ds s mk.2.2) m::al 5 bl 1 aD cell::al 3 gS 1 aq x.got::dh 22 wS 3 1 aq x.W::ao b 187 (gf x (dB j) wS gS)::ao c 109 (cT a y E t most k)::As):=a1.bc 8 [3,0,4,5,6,7];refine⟨bl,k0,(YS bl cell (a1.seq 1 k0 λ_=>rfl) eb c0 ay a1).mono ?_⟩;rintro _ c1 ⟨rfl,X⟩;rw[<-cf]at X⊢;have X:aa B h0 c1 (al 3 gS 1 aq x.got::dh 22 wS 3 1 aq x.W::ao b 187 (gf x (dB j) wS gS)::bL a pw da offs n.2.1 (bT (bT ds s mk.2.2) s n.2.2) m::ao c 109 (cT a y E t most k)::As):=X.bc 6 [2,3,4,0,5];refine⟨_,k0,bR (λe4=>?_) λe4=>?_⟩
 ·rw[j3 e4,j3 e4];refine⟨k0,?_⟩;exact(AH X).bc 3 [1,2,0]
 rw[e4,j1 k0,j1 rfl];obtain⟨f,a0⟩:∃f:Nat,G=(f:Int):=⟨G.toNat,k4⟩
 have J:f<j9 x.W:=qb
 have a6:x.nw id (dG live s) s={x with W:=x.W.set f (x.W[f]++[(id:Int)]),got:=x.got++[s]}:=by unfold gY.nw;rw[a4,a0,qn,qe,qd J];rfl
 rw[a6];refine bO (λ(_:Unit) h'=>aa B h0 h' (bL a pw da offs n.2.1 (bT (bT ds s mk.2.2) s n.2.2) m::ao c 109 (cT a y E t most k)::rE b j {x with W:=x.W.set f (x.W[f]++[(id:Int)]),got:=x.got++[s]}::As)) ?_ ?_
 ·obtain⟨rs,pp,b7,b4,c5,S⟩:=Ut J (X.bc 2 [1,0]);have eg:=cs _ (qh J);have S:aa B h0 c1 (al 3 (rs[f]'(by omega)) 1 aq x.W[f]::sE wS x.W f rs::al 3 gS 1 aq x.got::ao b 187 (gf x (dB j) wS gS)::bL a pw da offs n.2.1 (bT (bT ds s mk.2.2) s n.2.2) m::ao c 109 (cT a y E t most k)::As):=S;have L:∀{h':hZ} {r r':HP} {Cs:List HP},aa B h0 h' (r::sE wS x.W f rs::r'::ao b 187 (gf x (dB j) wS gS)::Cs)->cA h' b 187 (gf x (dB j) wS gS)/\cellOf h' (pp.add (G.toNat*1))=dB (.slice (rs[f]'(by omega)).ptr (rs[f]'(by omega)).len (rs[f]'(by omega)).cap):=λ{h' r r' Cs} R=>
   ⟨R.box 3 k0,by rw[a0,qn];exact WZ 1 b7 J b4 k0 R⟩
  have V:=S.box 3 k0;have fin:∀{h':hZ} {v v':Sl} {Cs:List HP},aa B h0 h' (al 3 v 1 aq (x.W[f]++[(id:Int)])::sE wS x.W f rs::al 3 v' 1 aq (x.got++[s])::ao b 187 (gf x (dB j) wS gS)::bL a pw da offs n.2.1 (bT (bT ds s mk.2.2) s n.2.2) m::ao c 109 (cT a y E t most k)::As)->
    av.ok [(b.add 4,xc wS.ptr wS.len wS.cap),(b.add 4,xc wS.ptr wS.len wS.cap)] h'/\∃a55:hU,(wS.ptr=dB a55/\0<=G/\G<(wS.len:Int))/\af xm (qf 22 (xd (dB (a55.add (G.toNat*1)))) (xc v.ptr v.len v.cap)) h' λ_ a5=>
     av.ok [] a5/\∃b6:hU,(dB b=dB b6)/\af xm (qf 22 (xd (dB (b6.add 5))) (xc v'.ptr v'.len v'.cap)) a5 λ_ a2=>av.ok [] a2/\
      aa B h0 a2 (bL a pw da offs n.2.1 (bT (bT ds s mk.2.2) s n.2.2) m::ao c 109 (cT a y E t most k)::rE b j {x with W:=x.W.set f (x.W[f]++[(id:Int)]),got:=x.got++[s]}::As):=λ{h' v v' Cs} R=>by
   have cq:=(L R).1;refine⟨⟨cq.cell k0,cq.cell k0,trivial⟩,Uu b7 J a0 R λa5 dx=>⟨trivial,b,k0,dx.storeAt ac 2 k0 k0 k0 k0 k0 (show 5<6 by decide) λa2 a9=>⟨trivial,?_⟩⟩⟩;have a9:aa B h0 a2 (dh 22 wS 3 1 aq (x.W.set f (x.W[f]++[(id:Int)]))::al 3 v' 1 aq (x.got++[s])::ao b 187 (gf x (dB j) wS v')::bL a pw da offs n.2.1 (bT (bT ds s mk.2.2) s n.2.2) m::ao c 109 (cT a y E t most k)::As):=a9;exact(AH (x:={x with W:=x.W.set f (x.W[f]++[(id:Int)]),got:=x.got++[s]}) (wS:=wS) (gS:=v') (a9.bc 5 [1,0,2,3,4])).bc 3 [1,2,0]
  have ar:∀{h':hZ} {r r':HP} {Cs:List HP},aa B h0 h' (r::sE wS x.W f rs::r'::ao b 187 (gf x (dB j) wS gS)::Cs)->
    av.ok [(b.add 5,xc gS.ptr gS.len gS.cap),(b.add 4,xc wS.ptr wS.len wS.cap),(b.add 4,xc wS.ptr wS.len wS.cap)] h':=λR=>⟨(L R).1.cell k0,(L R).1.cell k0,(L R).1.cell k0,trivial⟩
  have ah:∀{h':hZ} {r r':HP} {Cs:List HP},aa B h0 h' (r::sE wS x.W f rs::r'::ao b 187 (gf x (dB j) wS gS)::Cs)->
    av.ok [(b.add 5,xc gS.ptr gS.len gS.cap),(pp.add (G.toNat*1),.slice (rs[f]'(by omega)).ptr (rs[f]'(by omega)).len (rs[f]'(by omega)).cap),(b.add 4,xc wS.ptr wS.len wS.cap),(b.add 4,xc wS.ptr wS.len wS.cap)] h':=λR=>⟨(L R).1.cell k0,(L R).2,(L R).1.cell k0,(L R).1.cell k0,trivial⟩
  refine⟨b,k0,wS,V.cell k0,b,k0,wS,V.cell k0,pp,⟨b4,dk,(by rw[a0,c5];exact Int.ofNat_lt.2 J)⟩,rs[f]'(by omega),(L S).2,b,k0,gS,V.cell k0,?_,?_⟩
  ·refine S.lit ac aq fN k0 [(id:Int)] k0 (show 1*1<=2^20 by decide) k0 λv51 bb I=>?_;have I:aa B h0 bb (al 3 v51 1 aq [(id:Int)]::al 3 (rs[f]'(by omega)) 1 aq x.W[f]::sE wS x.W f rs::al 3 gS 1 aq x.got::ao b 187 (gf x (dB j) wS gS)::bL a pw da offs n.2.1 (bT (bT ds s mk.2.2) s n.2.2) m::ao c 109 (cT a y E t most k)::As):=I.bu;refine⟨ah I.rest,?_,?_⟩
   ·refine I.append ac 1 k0 fN ⟨_,_,k0,k0⟩ k0 k6 (λ_=>rfl) (I.seq 0 k0 λ_=>rfl) eT k8 λdy am u=>⟨ar u.rest,?_⟩
    refine u.lit ac aq fN k0 [s] k0 (show 1*1<=2^20 by decide) k0 λv53 bd A=>?_;have A:aa B h0 bd (al 3 v53 1 aq [s]::al 3 dy 1 aq (x.W[f]++[(id:Int)])::sE wS x.W f rs::al 3 gS 1 aq x.got::ao b 187 (gf x (dB j) wS gS)::bL a pw da offs n.2.1 (bT (bT ds s mk.2.2) s n.2.2) m::ao c 109 (cT a y E t most k)::As):=(A.bu).bc 3 [0,2];refine⟨ar A.rest,?_⟩;refine A.append ac 3 k0 fN ⟨_,_,k0,k0⟩ k0 k6 (λ_=>rfl) (A.seq 0 k0 λ_=>rfl) eT k8 λen b3 Z=>?_;exact fin (Cs:=[]) Z.rest
   ·refine I.lit ac aq fN k0 [s] k0 (show 1*1<=2^20 by decide) k0 λd8 am u=>?_;have u:aa B h0 am (al 3 d8 1 aq [s]::al 3 v51 1 aq [(id:Int)]::al 3 (rs[f]'(by omega)) 1 aq x.W[f]::sE wS x.W f rs::al 3 gS 1 aq x.got::ao b 187 (gf x (dB j) wS gS)::bL a pw da offs n.2.1 (bT (bT ds s mk.2.2) s n.2.2) m::ao c 109 (cT a y E t most k)::As):=u.bu;refine⟨ah u.rest.rest,?_⟩;refine u.append ac 2 k0 fN ⟨_,_,k0,k0⟩ k0 k6 (λ_=>rfl) (u.seq 1 k0 λ_=>rfl) eT k8 λel bd A=>⟨ar A.rest.rest,?_⟩
    refine A.append ac 4 k0 fN ⟨_,_,k0,k0⟩ k0 k6 (λ_=>rfl) (A.seq 0 k0 λ_=>rfl) eT k8 λer b3 Z=>?_;exact fin (Cs:=[]) Z.rest.rest
  ·refine S.lit ac aq fN k0 [s] k0 (show 1*1<=2^20 by decide) k0 λcr bb I=>?_;have I:aa B h0 bb (al 3 cr 1 aq [s]::al 3 (rs[f]'(by omega)) 1 aq x.W[f]::sE wS x.W f rs::al 3 gS 1 aq x.got::ao b 187 (gf x (dB j) wS gS)::bL a pw da offs n.2.1 (bT (bT ds s mk.2.2) s n.2.2) m::ao c 109 (cT a y E t most k)::As):=I.bu;refine⟨ah I.rest,?_⟩;refine I.lit ac aq fN k0 [(id:Int)] k0 (show 1*1<=2^20 by decide) k0 λc9 am u=>?_;have u:aa B h0 am (al 3 c9 1 aq [(id:Int)]::al 3 cr 1 aq [s]::al 3 (rs[f]'(by omega)) 1 aq x.W[f]::sE wS x.W f rs::al 3 gS 1 aq x.got::ao b 187 (gf x (dB j) wS gS)::bL a pw da offs n.2.1 (bT (bT ds s mk.2.2) s n.2.2) m::ao c 109 (cT a y E t most k)::As):=u.bu;refine⟨ah u.rest.rest,?_⟩;refine u.append ac 2 k0 fN ⟨_,_,k0,k0⟩ k0 k6 (λ_=>rfl) (u.seq 0 k0 λ_=>rfl) eT k8 λes bd A=>⟨ar A.rest.rest,?_⟩
   refine A.append ac 4 k0 fN ⟨_,_,k0,k0⟩ k0 k6 (λ_=>rfl) (A.seq 1 k0 λ_=>rfl) eT k8 λew b3 Z=>?_;exact fin (Cs:=[]) Z.rest.rest
 rintro _ eh b5;refine⟨c,k0,k,(b5.box 1 k0).cell k0,c,k0,b5.storeAt ac 1 k0 k0 k0 k0 k0 (show 12<13 by decide) λdd ad=>⟨k0,?_⟩⟩;have ad:aa B h0 dd (bL a pw da offs n.2.1 (bT (bT ds s mk.2.2) s n.2.2) m::ao c 109 (cT a y E t most (qc xi (k+1)))::rE b j {x with W:=x.W.set f (x.W[f]++[(id:Int)]),got:=x.got++[s]}::As):=ad;rw[ag _]at ad;exact ad
end
end Go.Qw
namespace Wl
open Go Go.Qw Go.Vc
theorem Le{m:aE}{live set order:au}{c:aY}{id:Nat}{w:Pow}{ds:aF}:∀{l:List Nat},(fJ m live set order c id w ds l).1.1=0->
  ∃i∈l,∃d,aW ds (dK order ((id:Int)+i))=dB d/\dG live (dK order ((id:Int)+i))∉set/\fy m d 1=eR/\fJ m live set order c id w ds l=(ir m c w ds (dK order ((id:Int)+i)) d,dG live (dK order ((id:Int)+i)),dK order ((id:Int)+i))
 |[],h=>l9
 |i::l,h=>by
  unfold fJ at h⊢;dsimp only at h⊢;cases hd:aW ds (dK order ((id:Int)+i))with
  |none=>
   rw[hd]at h;obtain⟨j,b,r⟩:=Le h;exact⟨j,qC _ b,r⟩
  |some d=>
   rw[hd]at h;dsimp only at h⊢;by_cases a:dG live (dK order ((id:Int)+i))∈set∨fy m d 1=eS
   ·rw[j1 a]at h⊢;obtain⟨j,b,r⟩:=Le h;exact⟨j,qC _ b,r⟩
   ·rw[j3 a];exact⟨i,qI,d,hd,λh=>a (.inl h),by cases hf:fy m d 1 with|true=>rfl|false=>exact absurd (.inr hf) a,rfl⟩
theorem abK{m:aE}{c:aY}{w:Pow}{ds:aF}{s:Int}{d:bp}:∃a,(ir m c w ds s d).2.2=bT ds s a:=by
 unfold ir;dsimp only;split
 ·exact⟨_,k0⟩
 ·exact⟨_,rD _ _ _ _⟩
theorem Lf{m:aE}{live set order:au}{c:aY}{id:Nat}{w:Pow}{ds:aF}(a:j9 ds=64){P:Int->Prop}(b:∀k,P k->∃d,aW ds k=dB d):∀{l:List Nat},∀k,P k->∃d,aW (fJ m live set order c id w ds l).1.2.2 k=dB d
 |[],k,hk=>b k hk
 |i::l,k,hk=>by
  unfold fJ;dsimp only;cases hd:aW ds (dK order ((id:Int)+i))with
  |none=>exact Lf a b k hk
  |some d=>
   dsimp only;split
   ·exact Lf a b k hk
   ·obtain⟨f,e⟩:=abK (m:=m) (c:=c) (w:=w) (ds:=ds) (s:=dK order ((id:Int)+i)) (d:=d);dsimp only;rw[e,gH a hd];split
    ·exact⟨_,k0⟩
    ·exact b k hk
theorem Uv{W:bz}{n:Nat}(h:∀l∈W,∀x∈l,x.toNat<=n):CB W<=n:=by
 have b:∀l:au,(∀x∈l,x.toNat<=n)->l.foldr (λx a=>max a x.toNat) 0<=n:=by
  intro l
  induction l with
  |nil=>intro _;exact zy _
  |cons x l ih=>
   intro h;rw[List.foldr_cons];have g:=ih λy d=>h y (qC _ d);have f:=h x qI;omega
 exact b _ λx c=>by
  obtain⟨l,e,c⟩:=wY.1 c;exact h l e x c
theorem AI{m:aE}{live set:au}{w:Pow}{ds:aF}{x:gY}(F:kh m live x)(D:j9 x.got<64):kh m live (dc m live set w ds x).2.2.2/\((dc m live set w ds x).1=0->∃s,s∈live/\(dc m live set w ds x).2.2.2=x.nw (cP x.W) (dG live s) s)/\((dc m live set w ds x).1≠0->(dc m live set w ds x).2.2.2=x):=by
 unfold dc;dsimp only;obtain⟨r,t⟩:∃r,r=fJ m live set (cK x.o x.b live) (cL (x.Ia m (cP x.W))) (cP x.W) w ds (qx (cK x.o x.b live).length):=⟨_,rfl⟩
 rw[<-t];by_cases h:r.1.1=0
 ·rw[j1 h];obtain⟨i,n,d,G,E,h3,q⟩:=Le (by rw[<-t];exact h);rw[<-t]at q;have n:=qD.1 n;have y:dK (cK x.o x.b live) ((cP x.W:Int)+i)∈live:=xp (IX (by intro h;rw[h]at n;simp at n));have A:r.2.1=dG live (dK (cK x.o x.b live) ((cP x.W:Int)+i)):=by rw[q]
  have u:r.2.2=dK (cK x.o x.b live) ((cP x.W:Int)+i):=by rw[q]
  refine⟨?_,λ_=>⟨_,y,by rw[A,u]⟩,λp=>absurd h p⟩;have g:(x.nw (cP x.W) r.2.1 r.2.2).got.length=j9 x.got+1:=by simp[gY.nw]
  have a:∀l∈(x.nw (cP x.W) r.2.1 r.2.2).W,l∈x.W∨l=x.W.getD r.2.1.toNat []++[(cP x.W:Int)]:=λl j=>List.mem_or_eq_of_mem_set j;have c:∀k,x.W.getD k []∈x.W∨x.W.getD k []=[]:=λk=>by
   by_cases v:k<j9 x.W
   ·rw[dT [] v];exact .inl (qh v)
   ·exact .inr (by rw[qe,qQ k4];rfl)
  have B:=Ug x.W;have H:=F.top;refine⟨F.seed,F.ev,F.ml,by show(x.W.set _ _).length=_;rw[List.length_set];exact F.wl,λl j=>?_,?_,k4,λs f=>?_⟩
  ·rw[g];rcases a l j with h|rfl
   ·have:=F.rl l h;omega
   ·rw[qy,List.length_singleton];rcases c r.2.1.toNat with h|h
    ·have:=F.rl _ h;omega
    ·rw[h,List.length_nil];omega
  ·rw[g];refine Uv λl j z e=>?_;rcases a l j with h|rfl
   ·have:=OK (wY.2 ⟨l,h,e⟩);omega
   ·rcases qA.1 e with e|e
    ·rcases c r.2.1.toNat with h|h
     ·have:=OK (wY.2 ⟨_,h,e⟩);omega
     ·rw[h]at e;cases e
    ·rw[qB.1 e];omega
  ·have f:s∈x.got++[r.2.2]:=f;rcases qA.1 f with h|h
   ·exact F.gi s h
   ·rw[qB.1 h,u];exact y
 ·rw[j3 h];exact⟨F,λp=>absurd p h,λ_=>rfl⟩
theorem abL(p:Pm)(seed:Int)(W:bz)(t:Int):(gU p seed W t).1.length<=64:=by
 unfold gU;split
 ·split
  ·split
   ·exact zy _
   ·rename_i h _;split
    ·rename_i g b;obtain⟨y,a,rfl⟩:=qo.1 (List.mem_of_find?_eq_some b);dsimp only;rw[lj,(xT a).1];omega
    ·exact zy _
  ·exact zy _
 ·exact zy _
end Wl
namespace Go.Qw
open Go Go.Vc Go.Proofs Wl
section
variable {B:aB} {h0 h:hZ} {As:List HP} {a pw:hU} {offs:Int} {da:List aQ} {w:Pow} {ds:aF} {m:aE}
theorem YU{c b O:hU}(y:cw)(D:Sl)(live:au)(t most k:Int)(x:gY)(hm:bV m=eR)(hp:bH m.p=eR)(hl:j9 live<=64)(I:∀k∈live,∃d,aW ds k=dB d)(hk:0<=k/\k<=2^39)(F:kh m live x)(L:x.got=[])(J:0<=most/\most<=64)
  (hS:St B h0 As λh=>dV h y m/\Rd h D 1 aq live/\Ax h O m.p x.seed x.M)
  (H:aa B h0 h (bL a pw da offs w ds m::ao c 109 (cT a y D t most k)::rE b O x::As)):
  ab xm 127 #[xd (dB c),xd (dB b)] h λv h'=>v=xb xi (cj m live t most 65 w ds x).1/\
   aa B h0 h' (bL a pw da offs (cj m live t most 65 w ds x).2.1 (cj m live t most 65 w ds x).2.2.1 m::ao c 109 (cT a y D t most (k+(cj m live t most 65 w ds x).2.2.2.got.length))::rE b O (cj m live t most 65 w ds x).2.2.2::As):=by
 refine AU (dB c) (dB b) ?_;unfold pj;obtain⟨G,hG⟩:∃G,G=cj m live t most 65 w ds x:=⟨_,rfl⟩
 rw[<-hG];refine aw (λ_:Nat×Pow×aF×gY=>()) (λz h'=>z.1+j9 z.2.2.2.got=65/\(j9 z.2.2.2.got:Int)<=most/\G=cj m live t most z.1 z.2.1 z.2.2.1 z.2.2.2/\kh m live z.2.2.2/\z.2.2.2.seed=x.seed/\z.2.2.2.M=x.M/\(∀k∈live,∃d,aW z.2.2.1 k=dB d)/\
  aa B h0 h' (bL a pw da offs z.2.1 z.2.2.1 m::ao c 109 (cT a y D t most (k+j9 z.2.2.2.got))::rE b O z.2.2.2::As)) (λz=>z.1) (65,w,ds,x) k0 ⟨by rw[L];rfl,by rw[L];exact J.1,hG,F,k0,k0,I,by rw[L];show aa B h0 h (_::ao c _ (cT a y D t most (k+0))::_);rw[Int.add_zero];exact H⟩ ?_
 rintro⟨f,w1,n,j⟩ h1 ⟨hf,ah,g,E,es,eM,i,N⟩;dsimp only at hf ah g E es eM i N⊢;obtain⟨f',rfl⟩:∃f',f=f'+1:=⟨f-1,k4⟩
 have Y:=N.box 1 k0;obtain⟨wS,gS,H2⟩:=IY (N.bc 3 [2,0,1]);have V:=H2.box 2 k0;have a3:fZ h1 wS 1 aq j.W:=aa.Gj (H2.bc 2 [1,0]) λ_=>rfl;have am:dS (bF (cF 1 aq) 1 bo) h1 wS j.W:=by obtain⟨rs,q1,q2,q3⟩:=a3;exact⟨rs,q1,q2,q3⟩
 obtain⟨hy,a5,hM⟩:=(hS.cons.cons.cons).here N;have ax:y.2.2.1=m.p.1:=congrArg (·.1) hy.p;have a1:y.2.2.2.1=m.p.2.1:=congrArg (·.2.1) hy.p;have a0:y.2.2.2.2.1=m.p.2.2:=congrArg (·.2.2) hy.p;have ar:an h1 ((c.add 1).add 2) 0 [xb xi m.p.1,xb xi m.p.2.1,xb xi m.p.2.2]:=by rw[addr_add,<-ax,<-a1,<-a0];exact Y.cells 3 _ k0
 refine⟨c,k0,m.p,ar,b,k0,j.seed,V.cell k0,b,k0,wS,V.cell k0,c,k0,t,Y.cell k0,?_⟩;refine(BP m.p j.seed wS j.W t h1 am (by rw[E.wl];omega) (λl hl=>by have:=E.rl l hl;have:=E.gl;omega) (Int.le_refl _)).mono ?_;rintro _ h2 ⟨r,rfl,R2⟩;obtain⟨q,Z⟩:∃q,q=gU m.p j.seed j.W t:=⟨_,rfl⟩
 rw[<-Z]at R2⊢;rw[cj]at g;dsimp only at g;rw[<-Z]at g;have U:=N.up R2.aj;refine⟨(r,q.2.1,q.2.2),k0,trivial,?_⟩;dsimp only;refine bR (λe=>?_) λe=>?_
 ·rw[j1 e]at g;rw[g];exact⟨k0,U⟩
 rw[j3 λh=>h e]at g;refine bj (λe1=>?_) λe1=>?_
 ·rw[j1 e1]at g;rw[g];exact⟨k0,U⟩
 rw[j3 u9]at g;obtain⟨a4,ay,H4⟩:=IY (U.bc 3 [2,0,1]);have R:=H4.box 2 k0;have u:=(H4.own 0 k0).len;have X:=U.box 1 k0;refine⟨b,k0,ay,R.cell k0,c,k0,most,X.cell k0,ai (λT=>?_) λT=>?_⟩
 ·rw[u]at T;rw[j1 T]at g;rw[g];exact⟨k0,U⟩
 rw[u]at T;rw[j3 T]at g;have H5:aa B h0 h2 (bL a pw da offs w1 n m::ao c 109 (cT a y D t most (k+j9 j.got))::rE b O j::EA (cF 1 aq) r q.1::As):=(N.ck R2).bc 4 [1,2,3,0];have ap:j9 q.1<=2^20:=by have:=abL m.p j.seed j.W t;rw[Z];omega
 have a2:St B h0 (EA (cF 1 aq) r q.1::As) λh=>dV h y m/\Rd h D 1 aq live/\Rd h r 1 aq q.1/\Ax h O m.p j.seed j.M:=λBs h' H'=>by
  obtain⟨z1,z2,z3⟩:=hS.cons Bs h' H';rw[es,eM];exact⟨z1,z2,(St.fw (A:=EA (cF 1 aq) r q.1) (Q:=λh=>Rd h r 1 aq q.1) 0 k0 λh' Z=>Z) Bs h' H',z3⟩
 refine(abJ y D r live q.1 t most (k+j9 j.got) j hm hp hl i (by have:=E.gl;omega) E ap a2 H5).mono ?_;rintro _ h6 ⟨rfl,o⟩;obtain⟨g1,g2,g3⟩:=AI (set:=q.1) (w:=w1) (ds:=n) E k4;have ad:∀k∈live,∃d,aW (dc m live q.1 w1 n j).2.2.1 k=dB d:=λk hk=>Lf (P:=λk=>k∈live) (ry N).1 i k hk;obtain⟨Q,hQ⟩:∃Q,Q=dc m live q.1 w1 n j:=⟨_,rfl⟩
 rw[<-hQ]at o g1 g2 g3 ad g⊢;have o:=o.bc 4 [0,1,2];refine⟨_,k0,bR (λK=>?_) λK=>?_⟩
 ·rw[j1 K]at g;rw[g];refine⟨k0,?_⟩;rw[j3 K]at o;rw[g3 K]at o⊢;exact o
 ·rw[j3 λh=>h K]at g;rw[j1 K]at o;obtain⟨s,hs,eg⟩:=g2 K;have S:j9 Q.2.2.2.got=j9 j.got+1:=by rw[eg];simp[gY.nw]
  refine⟨(f',Q.2.1,Q.2.2.1,Q.2.2.2),k0,⟨?_,?_,g,g1,?_,?_,ad,?_⟩,k7⟩
  ·dsimp only;omega
  ·dsimp only;omega
  ·dsimp only;rw[eg];exact es
  ·dsimp only;rw[eg];exact eM
  ·dsimp only;rw[S,Int.natCast_add,<-Int.add_assoc];exact o
end
end Go.Qw
namespace Wl
open Go
structure Pg where
 seq:Int
 num:Int
 many:Int
 bears:aY
 cell:aY
def ahW(x c:aY):Pg:=⟨dv (x.take 4),((x.getD 4 0).toNat:Int),((x.getD 5 0).toNat:Int),(x.drop 7).take (x.getD 6 0).toNat,c⟩
def DD(c:aY):Option Pg:=
 match kD c with
 |some (k,x)=>if k=2/\(x.getD 6 0).toNat<=48/\(x.drop (7+(x.getD 6 0).toNat)).all (λb=>decide (b=0))=eR then dB (ahW x c)else eH
 |none=>eH
theorem YV{seq c a:Int}{b:aY}(i:0<=seq/\seq<4294967296)(q:0<=c/\c<256)(h3:0<=a/\a<256)(r:j9 b<=48):DD (kw seq c a b)=dB ⟨seq,c,a,b,kw seq c a b⟩:=by
 have p:j9 (cb seq 4++([b8 c,b8 a,b8 b.length]++b))=7+j9 b:=n7
 obtain⟨x,e⟩:∃x,x=cb seq 4++([b8 c,b8 a,b8 b.length]++b)++qg (55-j9 (cb seq 4++([b8 c,b8 a,b8 b.length]++b))) 0:=⟨_,rfl⟩
 have j:kD (kw seq c a b)=dB (2,x):=by unfold kw;rw[Bl,e]
 have d:=LB seq;have f:x.getD 6 0=b8 b.length:=by rw[e,d];rfl
 have n:x.getD 5 0=b8 a:=by rw[e,d];rfl
 have o:x.getD 4 0=b8 c:=by rw[e,d];rfl
 have m:x.take 4=cb seq 4:=by rw[e,d];rfl
 have h:x.drop 7=b++qg (55-(7+j9 b)) 0:=by rw[e,p,d];rfl
 have g:((b8 (j9 b:Int)).toNat)=j9 b:=by have:=td (j9 b:Int);omega
 unfold DD;rw[j];dsimp only;have l:(b8 (j9 b:Int)).toNat<=48:=k4
 rw[j1 ⟨k0,by rw[f];exact l,by
  rw[f,g,<-List.drop_drop,h,List.drop_left];exact qU.2 λy k=>j6 (vn k)⟩]
 unfold ahW;rw[m,o,n,f,h,Pc i.1 i.2,g,List.take_left];have:=td c;have:=td a;congr 2<;>omega
def pgN(m:aE)(i:Nat):Pg:=⟨m.seq,i,iH (gO m),((gO m).drop (48*i)).take 48,kw m.seq i (iH (gO m)) (((gO m).drop (48*i)).take 48)⟩
theorem Qj(m:aE):bs m=(qx (iH (gO m))).map λi=>(pgN m i).cell:=rfl
theorem agu{m:aE}(a:bV m=eR):iH (gO m)<=9:=by
 have:=Go.Qw.HV a;unfold bs at this
 rwa [qw,List.length_range]at this
theorem YW{m:aE}(a:bV m=eR){i:Nat}(b:i<iH (gO m)):DD (pgN m i).cell=dB (pgN m i):=by have d:=agu a;have c:=((fB m).1 ((cM m).1 a).1).1;exact YV ⟨k4,k4⟩ ⟨k4,k4⟩ ⟨k4,k4⟩ k8
section
variable {p:Int×Int×Int} {seed:Int} {d:Row} {K H w n:Nat}
end
theorem Wc{n:Nat}{A:aM}(l:aT n A)(d:ca A=n){y:Nat->UInt8}(q:∀r∈A,bU (λj=>aN r j) y n=0):∀i,i<n->y i=0:=by
 intro i p;let Y:aM:=(qx n).map λc=>[y c]
 have o:aT 1 (qg A.length (aK 1)):=λr d=>by rw[(wT.1 d).2];rfl
 have a:j9 A=j9 (qg A.length (aK 1)):=k9
 have f:∀j,j<j9 A->aC (qg A.length (aK 1)) j=aK 1:=λj g=>by rw[bv nn];simp
 have e:∀z:Nat->UInt8,(∀r∈A,bU (λj=>aN r j) z n=0)->fE n 1 A (qg A.length (aK 1)) ((qx n).map λc=>[z c]):=λz v=>by
  have b:aT 1 ((qx n).map λc=>[z c]):=λr d=>by obtain⟨c,_,rfl⟩:=qo.1 d;rfl
  refine⟨k9,b,λj g=>?_⟩;rw[f j g];refine eZ (n:=1) (iO b k9 _ n (ql _)) k0 λk w=>?_;obtain rfl:k=0:=k4
  rw[ia b k9 _ 0 n (ql _),cz,<-v _ (mem_row g)];refine fV n (λ_ _=>rfl) λc s=>?_;rw[bv v6];simp[aN]
 have t:=(mi a l o d (e (λ_=>0) λr _=>dot_zero' r n)).1;have u:=(mi a l o d (e y q)).1;have h:aN (aC ((qx n).map λc=>[y c]) i) 0=aN (aC ((qx n).map λ_=>[(0:UInt8)]) i) 0:=congrArg (λm=>aN (aC m i) 0) (u.trans t.symm);rw[bv n9,bv n9]at h;simpa[aN]using h
where
 dot_zero' (r:Row):∀n,bU (λj=>aN r j) (λ_=>(0:UInt8)) n=0
  |0=>rfl
  |n+1=>by rw[bU,dot_zero' r n,Gf.mul_zero];rfl
section
variable {p:Int×Int×Int} {seed:Int} {d:Row} {K H w n:Nat}
theorem agv{ids c:au}(h:∀i∈ids,i∈c):∀r∈dR p seed ids,r∈dR p seed c:=λr a=>by
 unfold dR at*;cases hm:bH p
 ·rw[hm]at a;simp at a
 ·rw[hm,j1 rfl,qA]at a;rw[j1 k0,qA];rcases a with a|a
  ·exact .inl a
  ·obtain⟨i,b,rfl⟩:=qo.1 a;rw[qH]at b;exact .inr (qo.2 ⟨i,qH.2 ⟨h i b.1,b.2⟩,k0⟩)
theorem ua(d:bH p=eR){ids a:au}(h:∀i∈ids,i∈a)(j:eI p seed ids=eR):eI p seed a=eR:=by
 have c:=(Ih d).1 j;refine(Ih d).2 ?_;have f:=lG (jL p seed a);by_cases b:ca (dR p seed a)<(bD p).toNat
 ·exfalso;obtain⟨y,⟨i,k,g⟩,e⟩:=kernel (jL p seed a) b;exact g (Wc (jL p seed ids) c (λr c=>e r (agv h r c)) i k)
 ·omega
end
end Wl
namespace Go.Qw
open Go Go.Vc Go.Proofs Wl
theorem kU(a b:cX):nB a b=eR↔a.object=b.object/\a.block=b.block/\a.id=b.id:=by unfold nB;rw[decide_eq_true_eq]
theorem Xa{l:List cX}{i:Nat}(a:i<j9 l)(b:pK l i=eR):l[i]∈pL l:=by unfold pL;exact qo.2 ⟨i,qH.2 ⟨qD.2 a,b⟩,dT _ a⟩
theorem aek{l:List cX}{r:cX}(h:r∈l):∃c∈pL l,nB c r=eR:=by
 have e:∀i (a:i<j9 l),∃c∈pL l,nB c l[i]=eR:=by
  intro i
  induction i with
  |zero=>intro a;exact⟨l[0],Xa a (by unfold pK;simp),(kU _ _).2 ⟨k0,k0,k0⟩⟩
  |succ i ih=>
   intro a;cases hk:pK l (i+1)with
   |true=>exact⟨_,Xa a hk,(kU _ _).2 ⟨k0,k0,k0⟩⟩
   |false=>
    obtain⟨c,f,d⟩:=ih k4;unfold pK at hk;rw[Bool.or_eq_false_iff,Bool.not_eq_false']at hk;have b:=hk.2;rw[Nat.add_sub_cancel,dT _ a,dT _ (show i<j9 l by omega)]at b;rw[kU]at d b;exact⟨c,f,(kU _ _).2 ⟨by rw[d.1,b.1],by rw[d.2.1,b.2.1],by rw[d.2.2,b.2.2]⟩⟩
 obtain⟨i,a,rfl⟩:=qK h;exact e i a
theorem gB{m:aE}{r:cX}:dH m r=eR↔jt r=eR/\r.p=m.p/\∃x∈m.aG,x.object=r.object/\r.block<(x.tries.length:Int)/\r.seed=bI r.object r.block (x.tries.getD r.block.toNat 0):=by unfold dH;rw[qz,qz,decide_eq_true_eq,wc];simp only[qz,decide_eq_true_eq]
theorem Uw{m:aE}(f:bV m=eR){x y:Wl.bK}(e:x∈m.aG)(d:y∈m.aG)(h:x.object=y.object):x=y:=by
 have c:=zd.1 ((cM m).1 f).2.2.2.2.2.2;obtain⟨i,a,rfl⟩:=qK e;obtain⟨j,b,rfl⟩:=qK d;rcases Nat.lt_trichotomy i j with hl|rfl|hl
 ·exact absurd h (c i j a b hl)
 ·rfl
 ·exact absurd h.symm (c j i b a hl)
def fo(m:aE)(C:Int->aY)(o b:Int):aY:=(splitB m.p (C o)).getD b.toNat []
def EI(m:aE)(C:Int->aY)(r:cX):Prop:=r.data=uv m.p r.seed (fo m C r.object r.block) r.id
theorem ael{m:aE}{C:Int->aY}{r a:cX}(p:bV m=eR)(v:dH m r=eR)(t:dH m a=eR)(g:EI m C r)(f:EI m C a)(h:nB a r=eR):a=r:=by
 obtain⟨_,l,s,d,j,_,i⟩:=gB.1 v;obtain⟨_,q,x2,c,w,_,o⟩:=gB.1 t;rw[kU]at h;obtain⟨b,e,u⟩:=h;have n:s=x2:=Uw p d c (by rw[j,w,b]);subst n;have k:a.seed=r.seed:=by rw[i,o,b,e]
 unfold EI at g f;cases r;cases a;simp only at*;subst b e u k;rw[l,q,g,f]
structure dY (m:aE) (C:Int->aY) (c:aY):Prop where
 old:∀r,dJ c=dB r->r.object<m.next
 tru:∀r,dJ c=dB r->dH m r=eR->EI m C r
 page:∀g,DD c=dB g->g.seq<=m.seq/\(g.seq=m.seq->c∈bs m)
theorem lm{m:aE}{C:Int->aY}{l:cC}(p:bV m=eR)(h:∀c∈l,dY m C c){c:aY}(g:c∈l){r:cX}(i:dJ c=dB r)(d:dH m r=eR):r∈cS m l:=by have b:r∈(l.filterMap (jl m)).mergeSort rL:=List.mem_mergeSort.2 (List.mem_filterMap.2 ⟨c,g,by unfold jl;rw[i];dsimp only;rw[j1 d]⟩);obtain⟨k,j,n⟩:=aek b;obtain⟨o,f,e,a⟩:=wn (m:=m) (l:=l) (r:=k) j;have:=ael p d a ((h c g).tru r i d) ((h o f).tru k e a) n;rw[<-this];exact j
theorem gu{m:aE}{l:cC}{r:cX}(h:r∈cS m l):cL r∈l/\dJ (cL r)=dB r/\dH m r=eR:=by obtain⟨c,d,a,b⟩:=wn h;rw[(XA a).1];exact⟨d,a,b⟩
theorem OP{n:aE}(C:Int->aY){c:aY}(e:bV n=eR)(h:c∈bs n):dY n C c:=by
 have h0:=iX h;refine⟨λr a=>(by rw[h0]at a;cases a),λr a _=>(by rw[h0]at a;cases a),λg b=>?_⟩;rw[Qj]at h;obtain⟨i,d,rfl⟩:=qo.1 h;rw[YW e (qD.1 d)]at b;injection b with b
 subst b;exact⟨Int.le_refl _,λ_=>by rw[Qj];exact qo.2 ⟨i,d,k0⟩⟩
theorem IZ{m:aE}{C:Int->aY}{l:cC}(e:bV m=eR)(d:∀c∈l,dY m C c):∀c∈bM m l,dY m C c:=λc b=>by
 rcases qA.1 b with h|h
 ·exact OP C e h
 ·obtain⟨r,a,rfl⟩:=qo.1 h;exact d _ (gu a).1
theorem Ja{m:aE}{C:Int->aY}{d:bp}{N:Int}(e:bV m=eR)(b:∀c∈d.l,dY m C c):∀c∈(cE m d N).l,dY m C c:=λc a=>by
 unfold cE at a;split at a
 ·exact b c a
 ·exact IZ e b c a
theorem aem{m:aE}{C:Int->aY}{d:bp}{N:Int}(g:bV m=eR)(e:∀c∈d.l,dY m C c){r:cX}(a:cL r∈d.l)(f:dJ (cL r)=dB r)(b:dH m r=eR):cL r∈(cE m d N).l:=by
 unfold cE;split
 ·exact a
 ·exact zE _ (qo.2 ⟨r,lm g e a f b,k0⟩)
theorem Nq{r:cX}(h:jt r=eR):DD (cL r)=eH:=by have a:=oV h;unfold DD cL;rw[j1 h,Bl];dsimp only;rw[j3 (by rintro⟨h,_⟩;exact absurd h k6)]
theorem Nr{m n:aE}{C D:Int->aY}{o b:Int}(a:n.p=m.p)(h:D o=C o):fo n D o b=fo m C o b:=by unfold fo;rw[a,h]
theorem EI.congr{m n:aE}{C D:Int->aY}{r:cX}(a:n.p=m.p)(b:D r.object=C r.object)(h:EI m C r):EI n D r:=by unfold EI at h⊢;rw[Nr a b,a];exact h
def ku(C:Int->aY)(o:Int)(b:aY):Int->aY:=λk=>if k=o then b else C k
theorem dY.with{m:aE}{C:Int->aY}{e:Wl.bK}{b c:aY}(h:dY m C c)(o:e.object=m.next):dY (dw m e) (ku C m.next b) c:=by
 refine⟨λr a=>?_,λr a f=>?_,λg i=>?_⟩
 ·have:=h.old r a;show r.object<m.next+1;omega
 ·have j:=h.old r a;obtain⟨l,k,x,d,h3,n⟩:=gB.1 f;rcases sC.1 d with d|rfl
  ·refine(h.tru r a (gB.2 ⟨l,k,x,d,h3,n⟩)).congr (m:=m) k0 ?_;unfold ku;rw[j3 k4]
  ·omega
 ·have:=(h.page g i).1;show g.seq<=m.seq+1/\(g.seq=m.seq+1->_)
  exact⟨k4,λe=>k4⟩
theorem ahY{m:aE}{C:Int->aY}{e:Wl.bK}{b:aY}{seed:Int}{i id:Nat}(f:0<=seed/\seed<4294967296)(a:jt (ke m m.next i seed ((splitB m.p b).getD i []) id)=eR):
  dY (dw m e) (ku C m.next b) (cL (ke m m.next i seed ((splitB m.p b).getD i []) id)):=by
 have c:=kE a f;refine⟨λr h=>?_,λr h j=>?_,λg h=>?_⟩
 ·rw[c]at h;injection h with h;subst h
  show m.next<m.next+1;omega
 ·rw[c]at h;injection h with h;subst h
  have d:fo (dw m e) (ku C m.next b) m.next (i:Int)=(splitB m.p b).getD i []:=by unfold fo ku;rw[j1 k0,qn];rfl
  show uv m.p seed ((splitB m.p b).getD i []) id=uv (dw m e).p seed (fo (dw m e) (ku C m.next b) m.next (i:Int)) id;rw[d];rfl
 ·rw[Nq a]at h;cases h
structure ee (m:aE) (C:Int->aY) (ds:aF):Prop where
 may:bV m=eR
 len:ds.length=64
 cells:∀k d,aW ds k=dB d->∀c∈d.l,dY m C c
 ents:∀e∈m.aG,((C e.object).length:Int)=e.length/\cR m.p e.object (splitB m.p (C e.object)).length=dB e.tries
theorem ee.old{m:aE}{C:Int->aY}{ds:aF}(S:ee m C ds){e:Wl.bK}(a:e∈m.aG):e.object<m.next:=((iP m e).1 (((cM m).1 S.may).2.2.2.2.1 e a)).2.1.2
theorem EJ{ds ds':aF}{f:Int->bp->bp}(h:∀k,aW ds' k=(aW ds k).map (f k)){k:Int}{d:bp}(a:aW ds' k=dB d):∃b,aW ds k=dB b/\d=f k b:=by
 rw[h]at a;cases h0:aW ds k with
 |none=>rw[h0]at a;cases a
 |some b=>rw[h0]at a;injection a with a;exact⟨b,k0,a.symm⟩
theorem agw{n:aE}{C:Int->aY}{a:cC}{d:bp}(f:∀c∈d.l,dY n C c)(e:∀c∈a,dY n C c):∀c∈(gq a d).l,dY n C c:=λc b=>by
 rw[Nc]at b;rcases qA.1 b with h|h
 ·exact f c h
 ·exact e c h
def kV(m:aE)(ds:aF)(t:au)(b:aY)(n:aE)(k:Int)(d:bp):bp:=
 if k∈be ds m.drives then gq ((gN m m.next t (splitB m.p b) (be ds m.drives) k (splitB m.p b).length).map cL++bs n) (cE m d (kS (bs n).length (dL m m.next t (splitB m.p b) (be ds m.drives) (splitB m.p b).length) k))else d
theorem Xb{m:aE}{offs:Int}{w:Pow}{ds:aF}{C:Int->aY}{name:ByteArray}{b:aY}(B:w.calm)(S:ee m C ds):
  ((∃e,e≠0/\gW m offs w ds name b=(e,m,w,ds))/\((gW m offs w ds name b).1=dE m (gT w offs) ds name b.length∨(dE m (gT w offs) ds name b.length=0/\((gW m offs w ds name b).1=8/\cR m.p m.next (splitB m.p b).length=eH∨(gW m offs w ds name b).1=7/\∃t,cR m.p m.next (splitB m.p b).length=dB t/\iy m ds (be ds m.drives) (kS (bs (dw m ⟨name,m.next,b.length,t⟩)).length (dL m m.next t (splitB m.p b) (be ds m.drives) (splitB m.p b).length))=eS))))∨
  (dE m (gT w offs) ds name b.length=0/\∃t ds',cR m.p m.next (splitB m.p b).length=dB t/\gW m offs w ds name b=(0,dw m ⟨name,m.next,b.length,t⟩,w,ds')/\ee (dw m ⟨name,m.next,b.length,t⟩) (ku C m.next b) ds'/\
   ∀k,aW ds' k=(aW ds k).map (kV m ds t b (dw m ⟨name,m.next,b.length,t⟩) k)):=by
 obtain⟨u,s⟩:=abd (offs:=offs) (name:=name) (b:=b) B S.len S.may;by_cases a:dE m (gT w offs) ds name b.length=0
 ·obtain⟨H,z⟩:=s a;cases ht:cR m.p m.next (splitB m.p b).length with
  |none=>rw[H ht];exact .inl ⟨⟨8,k6,k0⟩,.inr ⟨a,.inl ⟨k0,k0⟩⟩⟩
  |some t=>
   obtain⟨j,A,x⟩:=z t ht;cases hf:iy m ds (be ds m.drives) (kS (bs (dw m ⟨name,m.next,b.length,t⟩)).length (dL m m.next t (splitB m.p b) (be ds m.drives) (splitB m.p b).length))with
   |false=>rw[A hf];exact .inl ⟨⟨7,k6,k0⟩,.inr ⟨a,.inr ⟨k0,t,k0,hf⟩⟩⟩
   |true=>
    obtain⟨ds',v,y,E⟩:=x hf;have g:∀k,aW ds' k=(aW ds k).map (kV m ds t b (dw m ⟨name,m.next,b.length,t⟩) k):=E;refine .inr ⟨a,t,ds',k0,v,⟨j,y,λk d F=>?_,λe l=>?_⟩,g⟩
    ·obtain⟨q,h0,rfl⟩:=EJ g F;unfold kV;split
     ·refine agw (λc f=>(Ja S.may (S.cells k q h0) c f).with k0) λc f=>?_;rcases qA.1 f with h|h
      ·obtain⟨r,o,rfl⟩:=qo.1 h;obtain⟨i,id,rfl,G,hid⟩:=Na o;obtain⟨I,J,z3,z4,z5⟩:=kf a;have n:=((fB m).1 ((cM m).1 S.may).1)
       have h8:=xD n.2.2.1 λh=>z4 (.inl h);exact ahY (gx _ _ _) (IW S.may (by have:¬16777215<m.next:=λh=>z5 (.inr (.inl h));omega) h8 ht G hid)
      ·exact OP _ j h
     ·exactλc f=>(S.cells k q h0 c f).with k0
    ·rcases sC.1 l with l|rfl
     ·have D:=S.old l;have:ku C m.next b e.object=C e.object:=by unfold ku;rw[j3 k4]
      rw[this];exact S.ents e l
     ·have:ku C m.next b m.next=b:=by unfold ku;rw[j1 rfl]
      show((ku C m.next b m.next).length:Int)=(b.length:Int)/\cR m.p m.next (splitB m.p (ku C m.next b m.next)).length=dB t;rw[this];exact⟨k0,ht⟩
 ·rw[u a];exact .inl ⟨⟨_,a,k0⟩,.inl k0⟩
end Go.Qw
namespace Wl
open Go Go.Qw Go.Vc
noncomputable def AJ(m:aE)(ds:aF)(o:Int)(tries:au)(k:Nat):aY×Int:=my m.p (bI o k (tries.getD k 0)) (fc m ds (be ds m.drives) o k)
def abM(m:aE)(ds:aF)(k:Int):Bool:=match aW ds k with|some d=>oz m d.l|none=>eS
def Ux(m:aE)(ds:aF):Bool:=(be ds m.drives).any (abM m ds)
def iT(m:aE)(ds:aF)(o b:Int):au:=(fc m ds (be ds m.drives) o b).map qM
def aen(m:aE)(ds:aF)(e:bK):Bool:=Ux m ds&&(qx e.tries.length).all λk=>eI m.p (bI e.object k (e.tries.getD k 0)) (iT m ds e.object k)
end Wl
namespace Go.Qw
open Go Go.Vc Go.Proofs Wl
section
variable {m:aE} {C:Int->aY} {ds:aF} {offs:Int} {w:Pow}
theorem kW{o b k:Int}{x:Int×aY}(h:x∈dM m ds o b k):∃d r,aW ds k=dB d/\r∈cS m d.l/\r.object=o/\r.block=b/\x=(r.id,r.data):=by
 unfold dM at h;cases hd:aW ds k with
 |none=>rw[hd]at h;cases h
 |some d=>
  rw[hd]at h;unfold Dx at h;obtain⟨r,c,rfl⟩:=qo.1 h;obtain⟨e,a⟩:=qH.1 c;rw[qz,decide_eq_true_eq,decide_eq_true_eq]at a;exact⟨d,r,k0,e,a.1,a.2,k0⟩
theorem ee.entry(S:ee m C ds){e:Wl.bK}(a:e∈m.aG):hO m e=eR:=((cM m).1 S.may).2.2.2.2.1 e a
theorem ee.ny(S:ee m C ds):bH m.p=eR:=((fB m).1 ((cM m).1 S.may).1).2.2.1
theorem ee.blocks(S:ee m C ds){e:Wl.bK}(a:e∈m.aG):(splitB m.p (C e.object)).length=e.tries.length:=(iZ (S.ents e a).2).symm
theorem ee.fO(S:ee m C ds){e:Wl.bK}(a:e∈m.aG){k:Nat}(b:k<e.tries.length):∃K H w n,cu m.p (bI e.object k (e.tries.getD k 0)) (fo m C e.object k) K H w n:=by have h:=WU S.ny (S.ents e a).2 (i:=k) (by rw[S.blocks a];exact b);unfold fo;rw[qn];exact h
theorem ee.sym(S:ee m C ds){e:Wl.bK}(u:e∈m.aG){k:Nat}(A:k<e.tries.length){s:Int}{x:Int×aY}(h:x∈dM m ds e.object k s):
  bW x.1=eR/\x.2=fS m.p.2.2.toNat (dn m.p (bI e.object k (e.tries.getD k 0)) (fo m C e.object k)) (dt (bD m.p).toNat (bI e.object k (e.tries.getD k 0)) x.1):=by
 obtain⟨d,r,v,w,c,i,rfl⟩:=kW h;obtain⟨n,l,j⟩:=gu w;obtain⟨t,z,y,o,q,_,g⟩:=gB.1 j;have b:y=e:=Uw S.may o u (by rw[q,c]);subst b;have hid:=((jX r).1 t).2.2.1;have a:bW r.id=eR:=by unfold bW;simp;omega
 have f:=(S.cells s d v _ n).tru r l j;unfold EI at f;rw[c,i]at f;rw[c,i,qn]at g;refine⟨a,?_⟩;show r.data=_;rw[f,g];unfold uv;rw[j1 a]
theorem Ns{α β:Type}{f:α->β}:∀{l:List (α×β)},(∀x∈l,x.2=f x.1)->l=(l.map qM).map λi=>(i,f i)
 |[],_=>rfl
 |x::l,h=>by
  have c:=h x qI;have b:=Ns (l:=l) λy a=>h y (qC _ a);rw[yj,yj,<-b,<-c]
theorem ee.syms(S:ee m C ds){e:Wl.bK}(f:e∈m.aG){k:Nat}(g:k<e.tries.length)(a:au):
  fc m ds a e.object k=mz m.p (bI e.object k (e.tries.getD k 0)) (dn m.p (bI e.object k (e.tries.getD k 0)) (fo m C e.object k)) ((fc m ds a e.object k).map qM)/\∀i∈(fc m ds a e.object k).map qM,bW i=eR:=by
 have c:∀x∈fc m ds a e.object k,bW x.1=eR/\x.2=fS m.p.2.2.toNat (dn m.p (bI e.object k (e.tries.getD k 0)) (fo m C e.object k)) (dt (bD m.p).toNat (bI e.object k (e.tries.getD k 0)) x.1):=λx b=>by
  unfold fc at b;obtain⟨s,_,b⟩:=zB.1 b;exact S.sym f g b
 refine⟨Ns λx b=>(c x b).2,λi d=>?_⟩;obtain⟨x,b,rfl⟩:=qo.1 d;exact(c x b).1
theorem ee.AJ(S:ee m C ds){e:Wl.bK}(c:e∈m.aG){k:Nat}(d:k<e.tries.length):
  Wl.AJ m ds e.object e.tries k=if eI m.p (bI e.object k (e.tries.getD k 0)) (iT m ds e.object k)=eR then(fo m C e.object k,0)else([],9):=by
 obtain⟨K,H,w,n,B⟩:=S.fO c d;obtain⟨f,b⟩:=S.syms c d (be ds m.drives);unfold Wl.AJ;rw[f];by_cases a:eI m.p (bI e.object k (e.tries.getD k 0)) (iT m ds e.object k)=eR
 ·rw[j1 a];exact B.dec b a
 ·rw[j3 a];refine aee B.may (B.Ur b) ?_;rw[Ld];exact eq_false_of_ne_true a
end
end Go.Qw
namespace Wl
open Go Go.Qw Go.Vc
end Wl
namespace Go.Qw
open Go Go.Vc Go.Proofs Wl
section
variable {B:aB} {h0 h:hZ} {As:List HP} {a pw:hU} {offs:Int} {da:List aQ} {w:Pow} {ds:aF} {m:aE}
end
end Go.Qw
namespace Wl
open Go Go.Qw Go.Vc
noncomputable def dZ(m:aE)(live:au)(ds:aF)(o:Int)(tries:au)(i:Nat):Int×gY:=
 let seed:=bI o i (tries.getD i 0);let r:=my m.p seed (fc m ds live o i)
 if r.2≠0 then(11,⟨o,i,seed,[],[],[]⟩)else if im m.p seed r.1.length≠0 then(11,⟨o,i,seed,[],[],[]⟩)else(0,⟨o,i,seed,dn m.p seed r.1,cv m ds o i (be ds m.drives),[]⟩)
theorem abN{p:Pm}{seed:Int}{l:Nat}(h:im p seed l=0):bH p=eR/\eI p seed (fg p)=eR/\(l:Int)=p.1*p.2.2:=by
 unfold im at h;split at h
 ·rename_i a;rw[qz,decide_eq_true_eq]at a;split at h
  ·rename_i b;exact⟨a.1,b,a.2⟩
  ·cases h
 ·cases h
theorem Nt{m:aE}{ds:aF}{o b k:Int}(a:∀k d,aW ds k=dB d->j9 d.l<=512):j9 (dM m ds o b k)<=512:=by
 unfold dM;cases hd:aW ds k with
 |none=>exact zy _
 |some d=>exact zf (MX m o b d.l) (a k d hd)
theorem abO{m:aE}{ds:aF}{o b:Int}{live:au}(e:j9 live<=64)(a:∀k d,aW ds k=dB d->j9 d.l<=512):j9 (fc m ds live o b)<=64*512:=by unfold fc;exact zf (Dy (c:=512) λj _=>Nt a) (Nat.mul_le_mul_right _ e)
theorem abP{m:aE}{ds:aF}{o b k:Int}{x:Int×aY}(h:x∈dM m ds o b k):0<=x.1/\x.1<=65535:=by obtain⟨d,r,_,c,_,_,rfl⟩:=kW h;obtain⟨_,_,_,e⟩:=wn c;have a:=(gB.1 e).1;unfold jt at a;rw[qz,qz,qz]at a;have:=a.1.2.2;unfold bW at this;rw[qz,decide_eq_true_eq,decide_eq_true_eq]at this;exact this
theorem BR{m:aE}{ds:aF}{o b:Int}{live l:au}(h:l∈cv m ds o b live):∃k∈live,l=(dM m ds o b k).map qM:=by unfold cv at h;obtain⟨k,a,rfl⟩:=qo.1 h;refine⟨k,a,?_⟩;unfold fc;rw[zg,List.flatMap_nil,qL]
theorem AK{m:aE}{live:au}{ds:aF}{o:Int}{tries:au}{i:Nat}(e:∀k d,aW ds k=dB d->j9 d.l<=512)(v:j9 (be ds m.drives)=j9 live)(h:(dZ m live ds o tries i).1=0):kh m live (dZ m live ds o tries i).2/\(dZ m live ds o tries i).2.got=[]:=by
 unfold dZ at h⊢;dsimp only at h⊢;obtain⟨r,A⟩:∃r,r=my m.p (bI o i (tries.getD i 0)) (fc m ds live o i):=⟨_,rfl⟩
 rw[<-A]at h⊢;by_cases j:r.2≠0
 ·rw[j1 j]at h;cases h
 rw[j3 j]at h⊢;by_cases g:im m.p (bI o i (tries.getD i 0)) r.1.length≠0
 ·rw[j1 g]at h;cases h
 rw[j3 g]at h⊢;obtain⟨a,b,c⟩:=abN nn;obtain⟨K,H,w,n,B⟩:=XG a b c;have u:m.p.2.2.toNat=w:=B.size;have q:(bD m.p).toNat=n:=by have:=B.k;have:=B.h;have:=B.n;rw[bD,j1 a];omega
 refine⟨⟨gx _ _ _,by rw[u];exact B.oc.2,by rw[q];exact B.oc.1,by show(cv _ _ _ _ _).length=_;unfold cv;rw[qw];exact v,λl f=>?_,?_,zy _,λs D=>by cases D⟩,k0⟩
 ·obtain⟨k,_,rfl⟩:=BR f;rw[qw];have:=Nt (m:=m) (ds:=ds) (o:=o) (b:=i) (k:=k) e;omega
 ·refine zf (Uv (n:=65535) λl f x t=>?_) (by show(65535:Nat)<=2^20+0;decide);obtain⟨k,_,rfl⟩:=BR f;obtain⟨z,y,rfl⟩:=qo.1 t;have:=abP y;omega
end Wl
namespace Go.Qw
open Go Go.Vc Go.Proofs Wl
def AL(a:hU)(p:Pm)(seed:Int)(M:aM):HP:=HP.ex λm:Sl=>(ao a 234 (Cw p seed m)).sep (fP 34 m 1 aD M)
section
variable {B:aB} {h0 h:hZ} {As:List HP} {a pw:hU} {offs:Int} {da:List aQ} {w:Pow} {ds:aF} {m:aE}
theorem ait{a:hU}{p:Pm}{seed:Int}{M:aM}:St B h0 (AL a p seed M::As) λh=>Ax h a p seed M:=λBs h' e=>by
 have d:=e.cons Bs.length (A:=AL a p seed M) (by rw[qj (ql _),Nat.sub_self];rfl);obtain⟨q,c⟩:=d.sK;have b:=c.sZ;exact⟨q,b.box 1 k0,b.Gb 0 k0⟩
theorem YX{c:hU}(y:cw)(f:Sl)(live:au)(t most k:Int)(x:eF)(e:Wl.bK)(i:Nat)(hm:bV m=eR)(hl:live.length<=64)(K:∀k∈live,∃d,aW ds k=dB d)(hi:i<e.tries.length)(bk:e.tries.length<=2^20)
  (hS:St B h0 As λh=>dV h y m/\Rd h f 1 aq live/\dS jA h x e)
  (H:aa B h0 h (bL a pw da offs w ds m::ao c 109 (cT a y f t most k)::As)):
  ab xm 126 #[xd (dB c),xh (bN x).toArray,xb xi i] h λv h'=>
   ((dZ m live ds e.object e.tries i).1≠0->v=.tuple #[xd eH,xb xi (dZ m live ds e.object e.tries i).1]/\aa B h0 h' (bL a pw da offs w ds m::ao c 109 (cT a y f t most k)::As))/\
   ((dZ m live ds e.object e.tries i).1=0->∃b cd:hU,v=.tuple #[xd (dB b),xb xi 0]/\aa B h0 h' (bL a pw da offs w ds m::ao c 109 (cT a y f t most k)::rE b cd (dZ m live ds e.object e.tries i).2::AL cd m.p (dZ m live ds e.object e.tries i).2.seed (dZ m live ds e.object e.tries i).2.M::As)):=by
 have hz:=pC hm;have am:=(ry H).2;have P:∀k d,aW ds k=dB d->d.l.length<=512:=λk d hd=>by have:=am k d hd;omega
 obtain⟨seed,X⟩:∃seed,seed=bI e.object i (e.tries.getD i 0):=⟨_,rfl⟩
 obtain⟨r,hr⟩:∃r,r=my m.p seed (fc m ds live e.object i):=⟨_,rfl⟩
 have eP:dZ m live ds e.object e.tries i=(if r.2≠0 then(11,⟨e.object,i,seed,[],[],[]⟩)else if im m.p seed r.1.length≠0 then(11,⟨e.object,i,seed,[],[],[]⟩)else(0,⟨e.object,i,seed,dn m.p seed r.1,cv m ds e.object i (be ds m.drives),[]⟩)):=by rw[hr,X];rfl
 refine AT (dB c) x i ?_;unfold pi;refine H.boxed λg h1 Z=>?_;have Z:aa B h0 h1 (ao g 94 (bN x)::bL a pw da offs w ds m::ao c 109 (cT a y f t most k)::As):=Z.bu;obtain⟨hy,b2,hx⟩:=(hS.cons.cons.cons).here Z;have n:=Z.box 0 k0;obtain⟨⟨x1,x2,x3⟩,x4⟩:=id hx;have bq:=x4.len;have no:∀{h':hZ} {Cs:List HP},aa B h0 h' (ao g 94 (bN x)::bL a pw da offs w ds m::ao c 109 (cT a y f t most k)::As)->(dZ m live ds e.object e.tries i).1=11->
   ((dZ m live ds e.object e.tries i).1≠0->Value.tuple #[xd eH,xb xi 11]=.tuple #[xd eH,xb xi (dZ m live ds e.object e.tries i).1]/\aa B h0 h' (bL a pw da offs w ds m::ao c 109 (cT a y f t most k)::As))/\
   ((dZ m live ds e.object e.tries i).1=0->∃b cd:hU,Value.tuple #[xd eH,xb xi 11]=.tuple #[xd (dB b),xb xi 0]/\aa B h0 h' (bL a pw da offs w ds m::ao c 109 (cT a y f t most k)::rE b cd (dZ m live ds e.object e.tries i).2::AL cd m.p (dZ m live ds e.object e.tries i).2.seed (dZ m live ds e.object e.tries i).2.M::As)):=λ{h' Cs} H' he=>by
  rw[he];exact⟨λ_=>⟨k0,H'.rest⟩,λh=>absurd h k6⟩
 have R:∀{h':hZ},dV h' y m->cA h' c 109 (cT a y f t most k)->an h' ((c.add 1).add 2) 0 [xb xi m.p.1,xb xi m.p.2.1,xb xi m.p.2.2]:=λ{h'} hy hc=>by
  have a0:y.2.2.1=m.p.1:=congrArg (·.1) hy.p;have bb:y.2.2.2.1=m.p.2.1:=congrArg (·.2.1) hy.p;have a7:y.2.2.2.2.1=m.p.2.2:=congrArg (·.2.2) hy.p;rw[addr_add,<-a0,<-bb,<-a7];exact hc.cells 3 _ k0
 obtain⟨j,I⟩:∃j:gY,j=⟨e.object,i,seed,[],[],[]⟩:=⟨_,rfl⟩
 refine bO (λ(z:aQ) h'=>∃b:hU,z=dB b/\aa B h0 h' (ao b 187 (gf j eH ⟨eH,0,0⟩ ⟨eH,0,0⟩)::ao g 94 (bN x)::bL a pw da offs w ds m::ao c 109 (cT a y f t most k)::As)) ?_ ?_
 ·refine⟨x.2.1,n.cell k0,x.2.1,n.cell k0,x.2.2.2,n.cell k0,?_⟩;refine x4.bC i k0 hi e.tries[i] k0 ?_;refine(rk x.2.1 i e.tries[i] h1).mono ?_;rintro _ _ ⟨rfl,rfl⟩;refine⟨_,k0,⟨n.cell k0,n.cell k0,trivial⟩,?_⟩;refine Z.boxed λa8 h3 S=>?_;have S:=S.bu;refine⟨⟨(S.box 1 k0).cell k0,(S.box 1 k0).cell k0,trivial⟩,a8,k0,?_⟩;have es:bI x.2.1 i e.tries[i]=seed:=by rw[X,x2,dT 0 hi]
  rw[es,x2]at S;rw[I];exact S
 rintro _ h4 ⟨b,rfl,T⟩;have ax:=T.box 0 k0;have E:=T.box 3 k0;have a2:=T.box 1 k0;obtain⟨V,W,bx⟩:=(hS.cons.cons.cons.cons).here T;have N:j.seed=seed:=by rw[I]
 have b0:j.o=e.object:=by rw[I]
 refine bO (λ(z:Sl×Int) h'=>z.2=r.2/\aa B h0 h' (al 5 z.1 1 aD r.1::ao b 187 (gf j eH ⟨eH,0,0⟩ ⟨eH,0,0⟩)::ao g 94 (bN x)::bL a pw da offs w ds m::ao c 109 (cT a y f t most k)::As)) ?_ ?_
 ·refine⟨c,k0,m.p,R V E,b,k0,seed,by rw[<-N];exact ax.cell k0,c,k0,dB a,E.cell0 k0,c,k0,f,E.cell k0,c,k0,y,E.cells 1 _ k0,x.2.1,a2.cell k0,?_⟩;rw[x2];refine(Wa y f live e.object i V hz W k4 K (T.bc 3 [2])).mono ?_;rintro _ h5 ⟨A,ss,rfl,R5⟩;have U:=T.up R5.aj;have O:Fix jG 2 piv h5 (λb=>b<h5.size) A ss (fc m ds live e.object i):=R5.at 0 k0;have ay:dS No h5 A (fc m ds live e.object i):=⟨ss,O.1,O.2.1,O.2.2⟩
  have bl:=abO (m:=m) (o:=e.object) (b:=i) hl P;obtain⟨a3,_,_⟩:=(hS.cons.cons.cons.cons).here U;have q5:=R a3 (U.box 3 k0);refine⟨A,k0,⟨(U.box 3 k0).cell0 k0,by rw[<-N];exact(U.box 0 k0).cell k0,q5.1,q5.2.1,q5.2.2.1,trivial⟩,?_⟩;refine(YR m.p seed A _ h5 ay k4).mono ?_;rintro _ h6 ⟨a9,rfl,R6⟩;rw[<-hr]at R6⊢;have H6:=U.ck R6;refine⟨(a9,r.2),k0,⟨(H6.box 4 k0).cell0 k0,trivial⟩,k0,?_⟩;exact H6
 rintro⟨z,_⟩ h7 ⟨rfl,s⟩;dsimp only at s⊢;refine bR (λe1=>?_) λe1=>?_
 ·exact no (Cs:=[]) s.rest.rest (by rw[eP,j1 e1])
 have a5:=s.own 0 k0;refine bO (λ(_:Unit) h'=>im m.p seed r.1.length=0/\∃cd:hU,aa B h0 h' (ao b 187 (gf j (dB cd) ⟨eH,0,0⟩ ⟨eH,0,0⟩)::AL cd m.p seed (dn m.p seed r.1)::ao g 94 (bN x)::bL a pw da offs w ds m::ao c 109 (cT a y f t most k)::As)) ?_ ?_
 ·refine bO (λ(z:Int) h'=>(z≠0->im m.p seed r.1.length≠0/\aa B h0 h' (ao g 94 (bN x)::bL a pw da offs w ds m::ao c 109 (cT a y f t most k)::As))/\(z=0->im m.p seed r.1.length=0/\∃cd:hU,aa B h0 h' (ao b 187 (gf j (dB cd) ⟨eH,0,0⟩ ⟨eH,0,0⟩)::AL cd m.p seed (dn m.p seed r.1)::ao g 94 (bN x)::bL a pw da offs w ds m::ao c 109 (cT a y f t most k)::As))) ?_ ?_
  ·obtain⟨ad,_,_⟩:=(hS.cons.cons.cons.cons.cons).here s;refine⟨c,k0,m.p,R ad (s.box 4 k0),b,k0,seed,by rw[<-N];exact(s.box 1 k0).cell k0,?_⟩;refine(TH m.p seed z r.1 h7 (s.seq 0 k0 λ_=>rfl) a5.cap).mono ?_;rintro _ h8 ⟨n1,n2⟩;by_cases D:im m.p seed r.1.length=0
   ·obtain⟨cd,mm,rfl,R8⟩:=n1 D;have H8:=(s.comp R8).front;refine⟨(dB cd,0),k0,trivial,b,k0,?_⟩;refine H8.storeAt ac 3 k0 k0 k0 k0 k0 (show 3<6 by decide) λY J=>⟨trivial,?_⟩
    have J:aa B h0 Y (fP 34 mm 1 aD (dn m.p seed r.1)::ao cd 234 (Cw m.p seed mm)::al 5 z 1 aD r.1::ao b 187 (gf j (dB cd) ⟨eH,0,0⟩ ⟨eH,0,0⟩)::ao g 94 (bN x)::bL a pw da offs w ds m::ao c 109 (cT a y f t most k)::As):=J;have a4:aa B h0 Y (AL cd m.p seed (dn m.p seed r.1)::al 5 z 1 aD r.1::ao b 187 (gf j (dB cd) ⟨eH,0,0⟩ ⟨eH,0,0⟩)::ao g 94 (bN x)::bL a pw da offs w ds m::ao c 109 (cT a y f t most k)::As):=
     aa.xI (F:=λq:Sl=>(ao cd 234 (Cw m.p seed q)).sep (fP 34 q 1 aD (dn m.p seed r.1))) mm J.mb
    exact⟨λh=>absurd k0 h,λ_=>⟨D,cd,a4.bc 3 [2,0]⟩⟩
   ·obtain⟨rfl,R8⟩:=n2 D;have H8:=s.up R8.aj;refine⟨(eH,im m.p seed r.1.length),k0,trivial,b,k0,?_⟩;refine H8.storeAt ac 1 k0 k0 k0 k0 k0 (show 3<6 by decide) λY J=>⟨trivial,?_⟩
    have J:aa B h0 Y (al 5 z 1 aD r.1::ao b 187 (gf j eH ⟨eH,0,0⟩ ⟨eH,0,0⟩)::ao g 94 (bN x)::bL a pw da offs w ds m::ao c 109 (cT a y f t most k)::As):=J;exact⟨λ_=>⟨D,J.rest.rest⟩,λh=>absurd h D⟩
  ·rintro z Y ⟨n1,n2⟩;refine bR (λe2=>?_) λe2=>n2 e2;obtain⟨D,J⟩:=n1 e2;exact no (Cs:=[]) J (by rw[eP,j3 λh=>h e1,j1 D])
 rintro _ b1 ⟨D,cd,G⟩;have ar:dZ m live ds e.object e.tries i=(0,⟨e.object,i,seed,dn m.p seed r.1,cv m ds e.object i (be ds m.drives),[]⟩):=by rw[eP,j3 λh=>h e1,j3 λh=>h D]
 rw[ar];dsimp only;refine bO (λ(_:Unit) h'=>aa B h0 h' (bL a pw da offs w ds m::ao c 109 (cT a y f t most k)::rE b cd ⟨e.object,i,seed,dn m.p seed r.1,cv m ds e.object i (be ds m.drives),[]⟩::AL cd m.p seed (dn m.p seed r.1)::As)) ?_ ?_
 ·refine⟨c,k0,dB a,(G.box 4 k0).cell0 k0,x.2.1,(G.box 2 k0).cell k0,?_⟩;rw[x2];refine(PX e.object i hm (G.bc 4 [3])).mono ?_;rintro _ b3 ⟨L,rfl,a6⟩;have ap:=G.ck a6;refine⟨L,k0,trivial,b,k0,?_⟩;refine ap.storeAt ac 1 k0 k0 k0 k0 k0 (show 4<6 by decide) λah u=>⟨trivial,?_⟩
  have u:aa B h0 ah (dh 22 L 3 1 aq (cv m ds e.object i (be ds m.drives))::ao b 187 (gf ⟨e.object,i,seed,dn m.p seed r.1,cv m ds e.object i (be ds m.drives),[]⟩ (dB cd) L ⟨eH,0,0⟩)::AL cd m.p seed (dn m.p seed r.1)::ao g 94 (bN x)::bL a pw da offs w ds m::ao c 109 (cT a y f t most k)::As):=by rw[I]at u;exact u
  have Q:=(u.nil 3 1 aq).bu;have bd:=AH (x:=⟨e.object,i,seed,dn m.p seed r.1,cv m ds e.object i (be ds m.drives),[]⟩) Q;exact bd.bc 5 [3,4,0,1]
 ·rintro _ br Q;exact⟨λh=>absurd k0 h,λ_=>⟨b,cd,k0,Q⟩⟩
end
end Go.Qw
namespace Wl
open Go Go.Qw Go.Vc
theorem Wd(w:Pow)(d:bp)(b:aY):(d.append w b).2.2.lost=d.lost:=by unfold bp.append;(repeat' split)<;>rfl
theorem Ii(w:Pow)(d:bp)(l:cC):(d.rewrite w l).2.2.lost=d.lost:=by unfold bp.rewrite;(repeat' split)<;>rfl
theorem abQ(w:Pow)(d:bp):(d.sync w).2.2.lost=d.lost:=by unfold bp.sync;(repeat' split)<;>rfl
theorem Nu(m:aE)(w:Pow)(d:bp)(n:Int):(fY m w d n).2.2.lost=d.lost:=by
 unfold fY;split
 ·rfl
 ·split
  ·rfl
  ·split
   ·rfl
   ·exact Ii _ _ _
structure iJ (ds ds':aF):Prop where
 len:j9 ds'=j9 ds
 at_:∀k,(aW ds' k).map bp.lost=(aW ds k).map bp.lost
theorem iJ.refl(ds:aF):iJ ds ds:=⟨k0,λ_=>rfl⟩
theorem iJ.trans{a b c:aF}(e:iJ a b)(d:iJ b c):iJ a c:=⟨d.len.trans e.len,λk=>(d.at_ k).trans (e.at_ k)⟩
theorem iJ.set{ds:aF}{k:Int}{d e:bp}(a:j9 ds=64)(b:aW ds k=dB d)(c:e.lost=d.lost):iJ ds (bT ds k e):=⟨AD _ _ _,λs=>by
 rw[gH a b];split
 ·rename_i h;subst h;rw[b];simp[c]
 ·rfl⟩
theorem iJ.live{ds ds':aF}(h:iJ ds ds')(l:au):be ds' l=be ds l:=by unfold be;refine List.filter_congr λx _=>?_;unfold isLive;have:=h.at_ x;cases h1:aW ds' x<;>cases h2:aW ds x<;>rw[h1,h2]at this<;>first|rfl|cases this|(injection this with this;simp only[this])
theorem We{m:aE}{c:aY}{w:Pow}{ds:aF}{s:Int}{d:bp}(a:j9 ds=64)(b:aW ds s=dB d):iJ ds (ir m c w ds s d).2.2:=by
 unfold ir;dsimp only;split
 ·exact .set a b (Nu _ _ _ _)
 ·rw[rD];exact .set a b ((Wd _ _ _).trans (Nu _ _ _ _))
theorem EK{m:aE}{live set order:au}{c:aY}{id:Nat}{w:Pow}{ds:aF}(a:j9 ds=64):∀{l:List Nat},iJ ds (fJ m live set order c id w ds l).1.2.2
 |[]=>.refl _
 |i::l=>by
  unfold fJ;dsimp only;cases hd:aW ds (dK order ((id:Int)+i))with
  |none=>exact EK a
  |some d=>
   dsimp only;split
   ·exact EK a
   ·exact We a hd
theorem abR{m:aE}{live set:au}{w:Pow}{ds:aF}{x:gY}(a:j9 ds=64):iJ ds (dc m live set w ds x).2.2.1:=EK a
theorem Nv{m:aE}{live:au}{t most:Int}:∀{f:Nat} {w:Pow} {ds:aF} {x:gY},j9 ds=64->iJ ds (cj m live t most f w ds x).2.2.1
 |0,_,_,_,_=>.refl _
 |f+1,w,ds,x,h64=>by
  unfold cj;dsimp only;split
  ·exact .refl _
  ·split
   ·exact .refl _
   ·split
    ·exact .refl _
    ·have a:=abR (m:=m) (live:=live) (set:=(gU m.p x.seed x.W t).1) (w:=w) (x:=x) h64;split
     ·exact a
     ·exact a.trans (Nv (a.len.trans h64))
theorem Ij{m:aE}{live:au}{t most:Int}(i:most<=64):∀{f:Nat} {w:Pow} {ds:aF} {x:gY},kh m live x->kh m live (cj m live t most f w ds x).2.2.2/\(cj m live t most f w ds x).2.2.2.seed=x.seed/\(cj m live t most f w ds x).2.2.2.M=x.M
 |0,_,_,_,F=>⟨F,k0,k0⟩
 |f+1,w,ds,x,F=>by
  unfold cj;dsimp only;split
  ·exact⟨F,k0,k0⟩
  ·split
   ·exact⟨F,k0,k0⟩
   ·split
    ·exact⟨F,k0,k0⟩
    ·rename_i k;obtain⟨g,j,h3⟩:=AI (set:=(gU m.p x.seed x.W t).1) (w:=w) (ds:=ds) F k4;have d:(dc m live (gU m.p x.seed x.W t).1 w ds x).2.2.2.seed=x.seed/\(dc m live (gU m.p x.seed x.W t).1 w ds x).2.2.2.M=x.M:=by
      by_cases h:(dc m live (gU m.p x.seed x.W t).1 w ds x).1=0
      ·obtain⟨s,_,e⟩:=j h;rw[e];exact⟨k0,k0⟩
      ·rw[h3 h];exact⟨k0,k0⟩
     split
     ·exact⟨g,d⟩
     ·obtain⟨a,b,c⟩:=Ij i (f:=f) (w:=(dc m live (gU m.p x.seed x.W t).1 w ds x).2.1) (ds:=(dc m live (gU m.p x.seed x.W t).1 w ds x).2.2.1) g;exact⟨a,b.trans d.1,c.trans d.2⟩
theorem Nw:∀{l:au} {w:Pow} {ds:aF},j9 ds=64->iJ ds (eN l w ds).2.2
 |[],_,_,_=>.refl _
 |x::l,w,ds,h64=>by
  have a:iJ ds (gI w ds x).2.2:=by
   unfold gI;cases hd:aW ds x with
   |none=>exact .refl _
   |some d=>exact .set h64 hd (abQ _ _)
  rw[uO];split
  ·exact a.trans (Nw (a.len.trans h64))
  ·exact a
theorem xq{m:aE}:∀{l:au} {w:Pow} {ds:aF},j9 ds=64->iJ ds (cO m l w ds).2.2
 |[],_,_,_=>.refl _
 |k::l,w,ds,h64=>by
  unfold cO;cases hd:aW ds k with
  |none=>exact xq h64
  |some d=>
   dsimp only;split
   ·exact xq h64
   ·have a:iJ ds (bT ds k (d.rewrite w (bM m d.l)).2.2):=.set h64 hd (Ii _ _ _);split
    ·exact a.trans (xq (a.len.trans h64))
    ·exact a
noncomputable def bY(m:aE)(live:au)(t most:Int)(w:Pow)(ds:aF)(e:bK)(i:Nat):Int×Pow×aF×Nat:=
 let p:=dZ m live ds e.object e.tries i
 if p.1≠0 then(p.1,w,ds,0)else
  let q:=cj m live t most 65 w ds p.2
  if q.1=14 then(14,q.2.1,q.2.2.1,q.2.2.2.got.length)else
   let z:=eN (cI q.2.2.2.got) q.2.1 q.2.2.1
   (if z.1≠0 then z.1 else q.1,z.2.1,z.2.2,q.2.2.2.got.length)
theorem Wf{m:aE}{live:au}{t most:Int}{w:Pow}{ds:aF}{e:bK}{i:Nat}(a:ds.length=64):iJ ds (bY m live t most w ds e i).2.2.1:=by
 unfold bY;dsimp only;split
 ·exact .refl _
 ·have b:=Nv (m:=m) (live:=live) (t:=t) (most:=most) (f:=65) (w:=w) (x:=(dZ m live ds e.object e.tries i).2) a;split
  ·exact b
  ·exact b.trans (Nw (b.len.trans a))
theorem YY{m:aE}{live:au}{t most:Int}{w:Pow}{ds:aF}{e:bK}{i:Nat}(c:most<=64)(a:∀k d,aW ds k=dB d->j9 d.l<=512)(b:j9 (be ds m.drives)=j9 live):(bY m live t most w ds e i).2.2.2<=64:=by
 unfold bY;dsimp only;split
 ·exact zy _
 ·rename_i h;have F:=(AK a b l6).1;have:=(Ij (t:=t) (most:=most) c (f:=65) (w:=w) (ds:=ds) F).1.gl;split<;>exact this
noncomputable def dU(m:aE)(live:au)(t most:Int)(e:bK):List Nat->Pow->aF->Nat->Int×Pow×aF×Nat
 |[],w,ds,k=>(0,w,ds,k)
 |i::l,w,ds,k=>
  let q:=bY m live t most w ds e i
  if q.1≠0 then(q.1,q.2.1,q.2.2.1,k+q.2.2.2)else dU m live t most e l q.2.1 q.2.2.1 (k+q.2.2.2)
noncomputable def ga(m:aE)(live:au)(t most:Int):List bK->Pow->aF->Nat->Int×Pow×aF×Nat
 |[],w,ds,k=>(0,w,ds,k)
 |e::l,w,ds,k=>
  let q:=dU m live t most e (qx e.tries.length) w ds k
  if q.1≠0 then q else ga m live t most l q.2.1 q.2.2.1 q.2.2.2
noncomputable def eK(m:aE)(offs:Int)(w:Pow)(ds:aF)(t most:Int):Nat×Int×Pow×aF:=
 if gT w offs then(0,14,w,ds)else if t<0∨t>=(j9 (be ds m.drives):Int)∨most<0∨most>64 then(0,1,w,ds)else if gw (j9 (be ds m.drives):Int) t>4096 then(0,13,w,ds)else
 let c:=cO m (be ds m.drives) w ds
 if c.1≠0 then(0,c.1,c.2.1,c.2.2)else
  let q:=ga m (be ds m.drives) t most m.aG c.2.1 c.2.2 0
  (q.2.2.2,q.1,q.2.1,q.2.2.1)
end Wl
namespace Go.Qw
open Go Go.Vc Go.Proofs Wl
section
variable {B:aB} {h0 h:hZ} {As:List HP} {a pw:hU} {offs:Int} {da:List aQ} {w:Pow} {ds:aF} {m:aE}
theorem Wg{c:hU}(y:cw)(u:Sl)(live:au)(t most:Int)(k:Nat)(x:eF)(e:Wl.bK)(i:Nat)(I:bV m=eR)(r:live=be ds m.drives)(hk:k<=2^30)(n:0<=most/\most<=64)(hi:i<e.tries.length)(R:e.tries.length<=2^20)
  (Z:St B h0 As λh=>dV h y m/\Rd h u 1 aq live/\dS jA h x e)
  (H:aa B h0 h (bL a pw da offs w ds m::ao c 109 (cT a y u t most k)::As)):
  ab xm 60 #[xd (dB c),xh (bN x).toArray,xb xi i] h λv h'=>v=xb xi (bY m live t most w ds e i).1/\
   aa B h0 h' (bL a pw da offs (bY m live t most w ds e i).2.1 (bY m live t most w ds e i).2.2.1 m::ao c 109 (cT a y u t most ((k+(bY m live t most w ds e i).2.2.2:Nat):Int))::As):=by
 refine ym (dB c) x i ?_;unfold ol;have hp:bH m.p=eR:=((fB m).1 ((cM m).1 I).1).2.2.1;have T:=nh I;have hl:live.length<=64:=by rw[r];exact zf (qT _ _) T
 have j:∀k∈live,∃d,aW ds k=dB d:=λk hk=>by obtain⟨_,d,V,_⟩:=mw (show k∈be ds m.drives by rw[<-r];exact hk);exact⟨d,V⟩
 have W:=(ry H).2;have ad:=(ry H).1;have z:∀k d,aW ds k=dB d->d.l.length<=512:=λk d V=>by have:=W k d V;omega
 obtain⟨p,g⟩:∃p,p=dZ m live ds e.object e.tries i:=⟨_,rfl⟩
 refine H.boxed λQ h1 L=>?_;have L:aa B h0 h1 (bL a pw da offs w ds m::ao c 109 (cT a y u t most k)::ao Q 94 (bN x)::As):=L.bu.bc 3 [1,2,0];refine⟨x,(L.box 2 k0).aS _ k0,(YX y u live t most k x e i I hl j hi R Z.cons L).mono ?_⟩;rw[<-g];rintro _ h2 ⟨n1,n2⟩;by_cases D:p.1=0
 rotate_left
 ·obtain⟨rfl,P⟩:=n1 D;have K:bY m live t most w ds e i=(p.1,w,ds,0):=by unfold bY;dsimp only;rw[<-g,j1 D]
  rw[K];exact⟨(eH,p.1),k0,bR (λ_=>⟨k0,P.bc 3 [0,1]⟩) λh=>absurd h D⟩
 obtain⟨b,cd,rfl,P⟩:=n2 D;have F:=AK (m:=m) (live:=live) (ds:=ds) (o:=e.object) (tries:=e.tries) (i:=i) z tp (by rw[<-g];exact D);rw[<-g]at F;obtain⟨q,E⟩:∃q,q=cj m live t most 65 w ds p.2:=⟨_,rfl⟩
 have K:bY m live t most w ds e i=(if q.1=14 then(14,q.2.1,q.2.2.1,q.2.2.2.got.length)else
   (if(eN (cI q.2.2.2.got) q.2.1 q.2.2.1).1≠0 then(eN (cI q.2.2.2.got) q.2.1 q.2.2.1).1 else q.1,(eN (cI q.2.2.2.got) q.2.1 q.2.2.1).2.1,(eN (cI q.2.2.2.got) q.2.1 q.2.2.1).2.2,q.2.2.2.got.length)):=by
  unfold bY;dsimp only;rw[<-g,j3 λh=>h D,<-E]
 refine⟨(dB b,0),k0,bR (λh=>absurd k0 h) λ_=>?_⟩;have X:St B h0 (AL cd m.p p.2.seed p.2.M::ao Q 94 (bN x)::As) λh=>dV h y m/\Rd h u 1 aq live/\Ax h cd m.p p.2.seed p.2.M:=λBs h' H'=>by
  obtain⟨z1,z2,_⟩:=Z.cons.cons Bs h' H';exact⟨z1,z2,ait Bs h' H'⟩
 refine(YU y u live t most k p.2 I hp hl j k4 F.1 F.2 n X P).mono ?_;rw[<-E];rintro _ h3 ⟨rfl,H3⟩;refine⟨_,k0,dD (λJ=>?_) λJ=>?_⟩
 ·rw[K,j1 J];exact⟨by rw[J],H3.bc 5 [0,1]⟩
 rw[K,j3 J];have S:=(Ij (m:=m) (live:=live) (t:=t) (most:=most) n.2 (f:=65) (w:=w) (ds:=ds) F.1).1;rw[<-E]at S;obtain⟨wS,gS,G⟩:=IY (H3.bc 3 [2,0,1]);have ah:=G.box 4 k0;have G:aa B h0 h3 (bL a pw da offs q.2.1 q.2.2.1 m::ao c 109 (cT a y u t most ((k:Int)+q.2.2.2.got.length))::al 3 gS 1 aq q.2.2.2.got::ao b 187 (gf q.2.2.2 (dB cd) wS gS)::AL cd m.p p.2.seed p.2.M::ao Q 94 (bN x)::As):=G.bc 5 [3,4,0,2];have Y:∀s∈q.2.2.2.got,0<=s/\s<64:=λs N=>by
  have N:=S.gi s N;rw[r]at N;exact od I s (mw N).1
 refine⟨c,k0,dB a,(G.box 1 k0).cell0 k0,b,k0,gS,(G.box 3 k0).cell k0,?_⟩;refine(aeh gS q.2.2.2.got (St.fw (A:=al 3 gS 1 aq q.2.2.2.got) 1 k0 λh' E=>E.1.seq (λ_=>rfl) E.2) (by have:=S.gl;omega) Y G).mono ?_;rintro _ h5 ⟨rfl,U⟩;refine⟨_,k0,⟨(U.box 1 k0).cell0 k0,trivial⟩,bR (λO=>?_) λO=>?_⟩
 ·rw[j1 O];exact⟨k0,U.bc 6 [0,1]⟩
 ·rw[j3 λh=>h O];exact⟨k0,U.bc 6 [0,1]⟩
def Ik(y:cw)(m:aE)(i:Nat)(e:Wl.bK)(x:eF):HP:=
 ⟨λh q=>(dC y m).p h q/\jA.p h q x e/\∃d,Vc.Seq h q y.2.2.2.2.2.2.2 4 bN d/\d[i]?=dB x,
  λa g=>⟨(dC y m).loc a.1 g,jA.loc a.2.1 g,by obtain⟨d,b,c⟩:=a.2.2;exact⟨d,b.aj g,c⟩⟩,
  λa f=>⟨(dC y m).mono a.1 f,jA.mono a.2.1 f,by obtain⟨d,b,c⟩:=a.2.2;exact⟨d,b.mono f,c⟩⟩⟩
theorem ahZ{y:cw}{i:Nat}(e:i<j9 m.aG)(H:aa B h0 h (dC y m::As)):∃x,aa B h0 h (Ik y m i m.aG[i] x::As):=
 aa.sK (F:=λx=>Ik y m i m.aG[i] x) (H.gF 0 k0 λq c=>by
  have a:sP h q y m:=c;obtain⟨b,d,g,f⟩:=bF.jh a.aG;exact⟨b[i]'(by omega),c,f i k4 e,b,d,qd k4⟩)
theorem aiu{y:cw}{i:Nat}{e:Wl.bK}{x:eF}(H:aa B h0 h (Ik y m i e x::As)):aa B h0 h (dC y m::As):=H.gF 0 k0 λq a=>a.1
theorem YZ(t most:Int)(R:bV m=eR)(ht:-(2^62)<=t/\t<=2^62)(H:aa B h0 h (bL a pw da offs w ds m::As)):
  ab xm 15 #[xd (dB a),xb xi t,xb xi most] h λv h'=>v=.tuple #[xb xi ((eK m offs w ds t most).1:Nat),xb xi (eK m offs w ds t most).2.1]/\aa B h0 h' (bL a pw da offs (eK m offs w ds t most).2.2.1 (eK m offs w ds t most).2.2.2 m::As):=by
 refine By (dB a) t most ?_;unfold um;have a9:=nh R;have ah:=(ry H).1;obtain⟨live,f⟩:∃live,live=be ds m.drives:=⟨_,rfl⟩
 have ay:live.length<=64:=by rw[f];exact zf (qT _ _) a9
 obtain⟨G,l⟩:∃G,G=eK m offs w ds t most:=⟨_,rfl⟩
 rw[<-l];unfold eK at l;rw[<-f]at l;refine bi (bQ (λe=>ln) λ_=>(Uc H).mono ?_);rintro _ h1 ⟨rfl,rfl⟩;refine⟨_,k0,bQ (λe=>?_) λe1=>?_⟩
 ·rw[j1 e]at l;rw[l];exact⟨k0,H⟩
 rw[j3 u9]at l;refine(KY R H).mono ?_;rintro _ h2 ⟨y,rfl,R2⟩;have H2:=H.ck R2;refine⟨y,k0,(Ua R (H2.bc 2 [1,0])).mono ?_⟩;rintro _ h3 ⟨c,rfl,R3⟩;rw[<-f]at R3;have H3:=H2.ck R3;refine⟨c,k0,H3.boxed λa5 h5 N=>?_⟩;have N:aa B h0 h5 (bL a pw da offs w ds m::ao a5 109 (cT a y c t most 0)::al 3 c 1 aq live::dC y m::As):=(N.bu).bc 4 [3,0,1,2];have Y:=(N.own 2 k0).len;have X:=N.box 1 k0;refine bi (bO (λ(b:Bool) h'=>b=decide (t<0∨t>=(live.length:Int)∨most<0∨most>64)/\h'=h5) ?_ ?_)
 ·refine ai (λe=>⟨by rw[j6 (.inl e)],k0⟩) λea=>⟨a5,k0,c,X.cell k0,ai (λe=>⟨by rw[j6 (.inr (.inl k4))],k0⟩) λeb=>ai (λe=>⟨by rw[j6 (.inr (.inr (.inl e)))],k0⟩) λec=>⟨?_,k0⟩⟩
  rw[decide_eq_decide];omega
 rintro b h6 ⟨rfl,rfl⟩;refine ai (λe=>by rw[j1 e]at l;rw[l];exact⟨k0,N.bc 4 [0]⟩) λe2=>?_;rw[j3 e2]at l;have s:0<=most/\most<=64:=k4
 refine⟨a5,k0,c,X.cell k0,(sD ((c.len:Nat):Int) t h6 k4 ht).mono ?_⟩;rintro _ h7 ⟨rfl,rfl⟩;rw[Y];refine⟨_,k0,ai (λe=>by rw[j1 e]at l;rw[l];exact⟨k0,N.bc 4 [0]⟩) λe3=>?_⟩;rw[j3 e3]at l;dsimp only at l;have hS:St B h0 (ao a5 109 (cT a y c t most 0)::al 3 c 1 aq live::dC y m::As) λh=>cA h a5 109 (cT a y c t most 0)/\dV h y m/\Rd h c 1 aq live:=λBs h' I=>
  ⟨(St.fw (A:=ao a5 109 (cT a y c t most 0)) 0 k0 λ_ o=>o.1) Bs h' I,(St.fw (A:=dC y m) 2 k0 λ_ o=>o) Bs h' I,(St.fw (A:=al 3 c 1 aq live) (Q:=λh=>Rd h c 1 aq live) 1 k0 λh' o=>o.1.seq (λ_=>rfl) o.2) Bs h' I⟩
 refine(Ng y c live t most 0 R ay (λk hk=>by obtain⟨_,d,Z,_⟩:=mw (show k∈be ds m.drives by rw[<-f];exact hk);exact⟨d,Z⟩) hS N).mono ?_;rintro _ h8 ⟨rfl,H8⟩;obtain⟨L,ap⟩:∃L,L=cO m live w ds:=⟨_,rfl⟩
 have S:iJ ds L.2.2:=by rw[ap];exact xq ah
 rw[<-ap]at H8 l⊢;refine⟨_,k0,bR (λe=>by rw[j1 e]at l;rw[l];exact⟨k0,H8.bc 4 [0]⟩) λe4=>?_⟩;rw[j3 λh=>h e4]at l;have a3:=H8.box 1 k0;have a7:dV h8 y m:=H8.at 3 k0;refine⟨a5,k0,y.2.2.2.2.2.2.2,n5,?_⟩;have b0:m.aG.length<=12:=((cM m).1 R).2.2.2.1;have a2:∀e∈m.aG,e.tries.length<=8:=λe he=>by
  have h1:=(iP m e).1 (((cM m).1 R).2.2.2.2.1 e he);have h2:=rx h1.2.2.1.2;omega
 have b4:=bF.len a7.aG;have b7:St B h0 (al 3 c 1 aq live::dC y m::As) λh=>dV h y m/\Rd h c 1 aq live:=λBs h' I=>
  ⟨(St.fw (A:=dC y m) 1 k0 λ_ o=>o) Bs h' I,(St.fw (A:=al 3 c 1 aq live) (Q:=λh=>Rd h c 1 aq live) 0 k0 λh' o=>o.1.seq (λ_=>rfl) o.2) Bs h' I⟩
 refine aw (λz:Nat×Pow×aF×Nat=>(z.1:Int)) (λz h'=>z.1<=m.aG.length/\z.2.2.2<=z.1*512/\iJ ds z.2.2.1/\ga m live t most m.aG L.2.1 L.2.2 0=ga m live t most (m.aG.drop z.1) z.2.1 z.2.2.1 z.2.2.2/\
  aa B h0 h' (bL a pw da offs z.2.1 z.2.2.1 m::ao a5 109 (cT a y c t most (z.2.2.2:Nat))::al 3 c 1 aq live::dC y m::As)) (λz=>m.aG.length-z.1) (0,L.2.1,L.2.2,0) k0 ⟨zy _,zy _,S,k0,H8⟩ ?_
 rintro⟨i,w1,T,k⟩ h9 ⟨hi,hk,W,F,H9⟩;dsimp only at hi hk W F H9⊢;refine ai (λe5=>?_) λe5=>?_
 rotate_left
 ·have bq:i=m.aG.length:=k4
  rw[bq,List.drop_length]at F;rw[F]at l;rw[l];exact⟨a5,k0,(k:Int),(H9.box 1 k0).cell k0,k0,H9.bc 4 [0]⟩
 have O:i<m.aG.length:=by have cc:(i:Int)<(y.2.2.2.2.2.2.2.len:Int):=e5;omega
 obtain⟨x,V⟩:=ahZ O (H9.bc 4 [3,0,1,2]);obtain⟨E,M⟩:∃E,E=m.aG[i]:=⟨_,rfl⟩
 rw[<-M]at V;obtain⟨br,bx,ys,ar,a4⟩:=V.at 0 rfl;obtain⟨a1,bb⟩:=qm.1 a4;have b6:E.tries.length<=8:=a2 E (by rw[M];exact qh O);refine ar.ey (g:=bN) i k0 a1 x (by rw[bb]) ?_;refine V.alloc ac k0 λP b9 U=>?_;have U:=U.bu;refine U.storeAll ac 0 k0 k0 (bN x) k0 k0 k0 k0 λbk u=>?_;have u:aa B h0 bk (bL a pw da offs w1 T m::ao a5 109 (cT a y c t most (k:Nat))::ao P 94 (bN x)::Ik y m i E x::al 3 c 1 aq live::As):=u.bc 5 [2,3,0,1,4];have b3:=(u.at 3 k0).2.1.2.len;refine⟨x.2.2.2,(u.box 2 k0).cell k0,?_⟩;have bd:St B h0 (ao P 94 (bN x)::Ik y m i E x::al 3 c 1 aq live::As) λh=>dV h y m/\Rd h c 1 aq live/\dS jA h x E:=λBs h' I=>by
  obtain⟨z1,z2,_⟩:=(St.fw (A:=Ik y m i E x) (Q:=λh=>(Ik y m i E x).p h λb=>b<h.size) 1 rfl λ_ o=>o) Bs h' I;exact⟨z1,(St.fw (A:=al 3 c 1 aq live) (Q:=λh=>Rd h c 1 aq live) 2 k0 λh' o=>o.1.seq (λ_=>rfl) o.2) Bs h' I,z2⟩
 have e0:m.aG.drop i=E::m.aG.drop (i+1):=by rw[M];exact qP O
 rw[e0,ga]at F;obtain⟨Q,hQ⟩:∃Q,Q=dU m live t most E (qx E.tries.length) w1 T k:=⟨_,rfl⟩
 rw[<-hQ]at F;refine aw (λz:Nat×Pow×aF×Nat=>(z.1:Int)) (λz h'=>z.1<=E.tries.length/\z.2.2.2<=k+z.1*64/\iJ ds z.2.2.1/\Q=dU m live t most E ((qx E.tries.length).drop z.1) z.2.1 z.2.2.1 z.2.2.2/\
  aa B h0 h' (bL a pw da offs z.2.1 z.2.2.1 m::ao a5 109 (cT a y c t most (z.2.2.2:Nat))::ao P 94 (bN x)::Ik y m i E x::al 3 c 1 aq live::As)) (λz=>E.tries.length-z.1) (0,w1,T,k) k0 ⟨zy _,ql _,W,hQ,u⟩ ?_
 rintro⟨j,w2,D,k2⟩ b2 ⟨hj,ax,r,n,q⟩;dsimp only at hj ax r n q⊢;have b1:i<=12:=k4
 refine ai (λe6=>?_) λe6=>?_
 ·have a8:j<E.tries.length:=by have a6:(j:Int)<(x.2.2.2.len:Int):=e6;omega
  have Z:(qx E.tries.length).drop j=j::(qx E.tries.length).drop (j+1):=by rw[qP k8,vx]
  rw[Z,dU]at n;have K:live=be D m.drives:=by rw[r.live];exact f
  refine⟨x,(q.box 2 k0).aS _ k0,(Wg y c live t most k2 x E j R K k4 s a8 k4 bd q).mono ?_⟩;rintro _ b5 ⟨rfl,J⟩;have am:=YY (m:=m) (live:=live) (t:=t) (most:=most) (w:=w2) (ds:=D) (e:=E) (i:=j) s.2 (λk d Z=>by have:=(ry q).2 k d Z;omega) (by rw[<-K]);have ad:=Wf (m:=m) (live:=live) (t:=t) (most:=most) (w:=w2) (ds:=D) (e:=E) (i:=j) (r.len.trans ah);obtain⟨b,hb⟩:∃b,b=bY m live t most w2 D E j:=⟨_,rfl⟩
  rw[<-hb]at J n am ad⊢;refine⟨_,k0,bR (λe7=>?_) λe7=>?_⟩
  ·rw[j1 e7]at n;rw[n,j1 e7]at F;rw[F]at l;rw[l];exact⟨a5,k0,((k2+b.2.2.2:Nat):Int),(J.box 1 k0).cell k0,k0,J.bc 5 [0]⟩
  ·rw[j3 λh=>h e7]at n;refine⟨(j+1,b.2.1,b.2.2.1,k2+b.2.2.2),lb,⟨k7,k7,r.trans ad,n,J⟩,k7⟩
 ·have a0:j=E.tries.length:=by have a6:¬(j:Int)<(x.2.2.2.len:Int):=e6;omega
  rw[a0,zi k9,dU]at n;rw[n,j3 λh=>h rfl]at F;have bl:=(aiu (q.bc 4 [3,0,1])).bc 3 [1,2,0];refine⟨(i+1,w2,D,k2),lb,⟨k7,k7,r,F,?_⟩,k7⟩;exact bl.bc 4 [0,1,3,2]
end
theorem Nx{o b:Int}{live:au}(g:0<=o/\o<=16777215)(i:0<=b/\b<8)(d:live.Nodup)(c:∀k∈live,0<=k/\k<64):(cK o b live).Nodup/\(cK o b live).Perm live:=by
 have e:cK o b live=tU ((8*o+b)%64).toNat live:=by unfold cK;rw[j1 k4]
 rw[e];have f:=adJ ((8*o+b)%64).toNat live;refine⟨f,(List.perm_ext_iff_of_nodup f d).2 λa=>?_⟩;rw[HQ];exact⟨λh=>h.1,λh=>⟨h,c a h⟩⟩
theorem aeo{a b:cX}(c:rL a b=eR)(d:rL b a=eR):nB a b=eR:=by unfold rL at c d;rw[decide_eq_true_eq]at c d;rw[kU];omega
theorem aep{a b c:cX}(h:rL a b=eR)(d:nB a c=eR):rL c b=eR:=by rw[kU]at d;unfold rL at h⊢;rw[decide_eq_true_eq]at h⊢;omega
theorem Za{l:List cX}(h:l.Pairwise λa b=>rL a b=eR):(pL l).Pairwise λa b=>nB a b=eS:=by
 unfold pL;rw[List.pairwise_map];have g:((qx l.length).filter (pK l)).Pairwise (·<·):=(List.pairwise_lt_range (n:=j9 l)).filter _;refine g.imp_of_mem λ{i j} hi hj hlt=>?_;have c:=qD.1 (qH.1 hj).1;have d:=(qH.1 hj).2;rw[dT _ (show i<j9 l by omega),dT _ c];refine eq_false_of_ne_true λm=>?_;unfold pK at d;rw[j7 k4,Bool.false_or,Bool.not_eq_true',dT _ c,dT _ (show j-1<j9 l by omega)]at d;have f:=zd.1 h;have o:rL l[i] l[j-1]=eR:=by
  by_cases e:i=j-1
  ·subst e;unfold rL;rw[decide_eq_true_eq];omega
  ·exact f i (j-1) k4 k4 k4
 have k:rL l[j-1] l[j]=eR:=f (j-1) j k4 c k4;have:=aeo (aep o m) k;rw[d]at this;cases this
theorem JY(m:aE)(l:cC):(cS m l).Pairwise λa b=>nB a b=eS:=Za (yo agU.1 agU.2 _)
theorem nz{α:Type}[DecidableEq α]:∀{l m:List α},l.Nodup->(∀x∈l,x∈m)->j9 l<=j9 m
 |[],m,_,_=>zy _
 |x::l,m,h,hs=>by
  obtain⟨f,d⟩:=List.nodup_cons.1 h;have c:=hs x qI;have:=nz (l:=l) (m:=m.erase x) d λy b=>by
   have a:y≠x:=λe=>f (e▸b);exact(List.mem_erase_of_ne a).2 (hs y (qC _ b))
  rw[List.length_erase_of_mem c]at this;have:=List.length_pos_of_mem c;rw[List.length_cons];omega
def Ny(r:cX):Int×Int×Int:=(r.object,r.block,r.id)
section
variable {m:aE} {C:Int->aY} {ds:aF} {offs:Int} {w:Pow}
def Qk(m:aE)(ds:aF):Prop:=∀k d,aW ds k=dB d->∀c∈d.l,∀r,dJ c=dB r->dH m r=eR->r.id<m.p.1+m.extra
structure Full (m:aE) (C:Int->aY) (ds:aF):Prop where
 live:∀k∈m.drives,∃d,aW ds k=dB d/\d.lost=eS/\oz m d.l=eR
 all:∀e∈m.aG,∀i:Nat,i<e.tries.length->∀id:Nat,id<(m.p.1+m.extra).toNat->∃k∈m.drives,∃d,aW ds k=dB d/\cL (ke m e.object i (bI e.object i (e.tries.getD i 0)) (fo m C e.object i) id)∈d.l
theorem Full.be(F:Full m C ds):Wl.be ds m.drives=m.drives:=zW.2 λk c=>by
 obtain⟨d,b,a,_⟩:=F.live k c;unfold isLive;rw[b];simp[a]
theorem ee.abS(S:ee m C ds){e:Wl.bK}(a:e∈m.aG):e.tries.length<=8:=by obtain⟨_,_,h3,_,b⟩:=(iP m e).1 (S.entry a);have:=rx h3.2;omega
theorem ee.ub(S:ee m C ds){e:Wl.bK}(a:e∈m.aG){i:Nat}(c:i<e.tries.length){id:Nat}(hid:id<=65535):jt (ke m e.object i (bI e.object i (e.tries.getD i 0)) (fo m C e.object i) id)=eR:=by obtain⟨K,H,w,n,B⟩:=S.fO a c;have h8:=S.abS a;have b:=((iP m e).1 (S.entry a)).2.1;have d:=((fB m).1 ((cM m).1 S.may).1).2.1;exact TQ B ⟨b.1,k4⟩ ⟨k4,k4⟩ ⟨k4,k4⟩
theorem ee.counts(S:ee m C ds){e:Wl.bK}(a:e∈m.aG){i:Nat}(b:i<e.tries.length){id:Nat}(hid:id<=65535):dH m (ke m e.object i (bI e.object i (e.tries.getD i 0)) (fo m C e.object i) id)=eR:=
 gB.2 ⟨S.ub a b hid,k0,e,a,k0,by show(i:Int)<_;omega,by show bI e.object i _=bI e.object (i:Int) (e.tries.getD (i:Int).toNat 0);rw[qn]⟩
theorem ee.Uy(S:ee m C ds){id:Nat}(h:id<(m.p.1+m.extra).toNat):id<=65535:=by obtain⟨_,_,a,b⟩:=(fB m).1 ((cM m).1 S.may).1;have:=(bZ m.p).1 a;omega
theorem ee.aiv(S:ee m C ds){e:Wl.bK}(c:e∈m.aG){i:Nat}(b:i<e.tries.length){id:Nat}(hid:id<=65535){k:Int}(h:k∈be ds m.drives){d:bp}(a:aW ds k=dB d)
  (g:cL (ke m e.object i (bI e.object i (e.tries.getD i 0)) (fo m C e.object i) id)∈d.l):(id:Int)∈iT m ds e.object i:=by
 have f:=lm S.may (S.cells k d a) g (kE (S.ub c b hid) (gx _ _ _)) (S.counts c b hid);unfold iT fc;refine qo.2 ⟨((id:Int),(ke m e.object i (bI e.object i (e.tries.getD i 0)) (fo m C e.object i) id).data),zB.2 ⟨k,h,?_⟩,k0⟩;unfold dM;rw[a];exact qo.2 ⟨_,qH.2 ⟨f,by simp[ke]⟩,k0⟩
theorem abT{p:Pm}(a:bH p=eR){i:Int}(h:i∈fg p):∃id:Nat,i=id/\(id:Int)<p.1:=by have:=(bZ p).1 a;unfold fg upto at h;obtain⟨id,hid,rfl⟩:=qo.1 h;have:=qD.1 hid;exact⟨id,k0,k4⟩
theorem Full.can(F:Full m C ds)(S:ee m C ds)(g:m.drives≠[]){e:Wl.bK}(f:e∈m.aG):aen m ds e=eR:=by
 unfold aen;rw[qz];constructor
 ·unfold Ux;rw[F.be];obtain⟨k,c⟩:=List.exists_mem_of_ne_nil _ g;obtain⟨d,o,_,h3⟩:=F.live k c;exact wc.2 ⟨k,c,by unfold abM;rw[o];exact h3⟩
 ·refine qU.2 λi b=>?_;have b:=qD.1 b;obtain⟨K,H,w,n,B⟩:=S.fO f b;refine ua B.may (ids:=fg m.p) (λj l=>?_) B.full;obtain⟨id,rfl,hid⟩:=abT S.ny l;have r:=((fB m).1 ((cM m).1 S.may).1).2.2.2;have a:id<(m.p.1+m.extra).toNat:=k4
  obtain⟨k,c,d,q,h⟩:=F.all e f i b id a;exact S.aiv f b (S.Uy a) (by rw[F.be];exact c) q h
theorem Ql(m:aE)(d:bp)(N:Int):(cE m d N).lost=d.lost/\(cE m d N).room=d.room:=by unfold cE;split<;>exact⟨k0,k0⟩
theorem oA{t:au}{b:aY}{n:aE}{k:Int}{d:bp}(a:k∈be ds m.drives):
  (kV m ds t b n k d).lost=d.lost/\(kV m ds t b n k d).room=d.room/\∃N,(kV m ds t b n k d).l=(cE m d N).l++((gN m m.next t (splitB m.p b) (be ds m.drives) k (splitB m.p b).length).map cL++bs n):=by
 unfold kV;rw[j1 a];refine⟨by rw[(tW _ _).1,(Ql _ _ _).1],by rw[(tW _ _).2,(Ql _ _ _).2],_,Nc _ _⟩
theorem abU{n:aE}(a:bV n=eR){l1 l2:cC}(h:∀c∈bs n,c∈l2):oz n (l1++l2)=eR:=by unfold oz;rw[a,zQ];exact qU.2 λc b=>j6 (zE _ (h c b))
theorem Full.put(F:Full m C ds)(S:ee m C ds){name:ByteArray}{b:aY}{t:au}{ds':aF}(L:dE m (gT w offs) ds name b.length=0)(K:cR m.p m.next (splitB m.p b).length=dB t)
  (M:ee (dw m ⟨name,m.next,b.length,t⟩) (ku C m.next b) ds') (f:∀k,aW ds' k=(aW ds k).map (kV m ds t b (dw m ⟨name,m.next,b.length,t⟩) k)):Full (dw m ⟨name,m.next,b.length,t⟩) (ku C m.next b) ds':=by
 have a:=F.be;obtain⟨Q,R,z3,z4,z5⟩:=kf L;have x:m.drives≠[]:=by rw[<-a];exactλh=>z5 (.inl h)
 have v:m.next<=16777215:=by have:¬16777215<m.next:=λh=>z5 (.inr (.inl h));omega
 refine⟨λk g=>?_,λe l i r id hid=>?_⟩
 ·have g:k∈m.drives:=g;obtain⟨d,z,D,h3⟩:=F.live k g;obtain⟨y,E,N,q⟩:=oA (m:=m) (t:=t) (b:=b) (n:=dw m ⟨name,m.next,b.length,t⟩) (d:=d) (show k∈Wl.be ds m.drives by rw[a];exact g);refine⟨_,by rw[f,z,qY],by rw[y];exact D,?_⟩;rw[q];exact abU M.may λc s=>zE _ s
 ·have hid:id<(m.p.1+m.extra).toNat:=hid;rcases sC.1 l with l|rfl
  ·have J:=S.old l;obtain⟨k,g,d,G,s⟩:=F.all e l i r id hid;obtain⟨y,E,N,q⟩:=oA (m:=m) (t:=t) (b:=b) (n:=dw m ⟨name,m.next,b.length,t⟩) (d:=d) (show k∈Wl.be ds m.drives by rw[a];exact g);refine⟨k,g,_,by rw[f,G,qY],?_⟩;rw[q];have u:fo (dw m ⟨name,m.next,b.length,t⟩) (ku C m.next b) e.object i=fo m C e.object i:=Nr k0 (by unfold ku;rw[j3 k4]);rw[u];exact zn _ (aem S.may (S.cells k d G) s (kE (S.ub l r (S.Uy hid)) (gx _ _ _)) (S.counts l r (S.Uy hid)))
  ·have r:i<t.length:=r;have O:=iZ K;have h8:=xD S.ny λh=>z4 (.inl h);have A:=((fB m).1 ((cM m).1 S.may).1).2.1.1;have I:(0:Int)<=(i:Int)/\(i:Int)<8:=⟨k4,k4⟩
   have H:=Nx (o:=m.next) (b:=(i:Int)) (live:=m.drives) ⟨A,v⟩ I (kG S.may) (od S.may);obtain⟨P,B⟩:=H;have one:cK m.next i m.drives≠[]:=λh=>by rw[h]at B;exact x (List.nil_perm.1 B)
   have j:dK (cK m.next i m.drives) id∈m.drives:=by rw[ahQ one];exact B.mem_iff.1 (qh _)
   obtain⟨d,z,D,h3⟩:=F.live _ j;obtain⟨y,E,N,q⟩:=oA (m:=m) (t:=t) (b:=b) (n:=dw m ⟨name,m.next,b.length,t⟩) (d:=d) (show dK (cK m.next i m.drives) id∈Wl.be ds m.drives by rw[a];exact j);refine⟨_,j,_,by rw[f,z,qY],?_⟩;rw[q];refine zE _ (zn _ (qo.2 ⟨_,?_,k0⟩));have u:fo (dw m ⟨name,m.next,b.length,t⟩) (ku C m.next b) m.next i=(splitB m.p b).getD i []:=by unfold fo ku;rw[j1 k0,qn];rfl
   show ke m m.next i (bI m.next i (t.getD i 0)) (fo (dw m ⟨name,m.next,b.length,t⟩) (ku C m.next b) m.next i) id∈_;rw[u,a];unfold gN;refine zB.2 ⟨i,qD.2 k4,?_⟩;unfold pB;exact qo.2 ⟨id,qH.2 ⟨qD.2 hid,j6 k0⟩,k0⟩
end
section
variable {m:aE} {C:Int->aY} {ds:aF} {offs:Int} {w:Pow}
theorem Uz{d:bp}{N:Int}{c:aY}(h:c∈(cE m d N).l):c∈d.l∨c∈bs m:=by
 unfold cE at h;split at h
 ·exact .inl h
 ·rcases qA.1 h with h|h
  ·exact .inr h
  ·obtain⟨r,a,rfl⟩:=qo.1 h;exact .inl (gu a).1
theorem Qk.put(L:Qk m ds)(S:ee m C ds){name:ByteArray}{b:aY}{t:au}{ds':aF}(G:dE m (gT w offs) ds name b.length=0)(E:cR m.p m.next (splitB m.p b).length=dB t)
  (o:∀k,aW ds' k=(aW ds k).map (kV m ds t b (dw m ⟨name,m.next,b.length,t⟩) k)):Qk (dw m ⟨name,m.next,b.length,t⟩) ds':=by
 obtain⟨J,M,z3,z4,z5⟩:=kf G;have u:m.next<=16777215:=by have:¬16777215<m.next:=λh=>z5 (.inr (.inl h));omega
 have y:=((fB m).1 ((cM m).1 S.may).1)
 have h8:=xD S.ny λh=>z4 (.inl h);have j:∀k e,aW ds k=dB e->∀c∈e.l,∀r,dJ c=dB r->dH (dw m ⟨name,m.next,b.length,t⟩) r=eR->r.id<m.p.1+m.extra:=λk e h0 c g r a f=>by
  have B:=(S.cells k e h0 c g).old r a;obtain⟨z,A,x,q,c3,H⟩:=gB.1 f;rcases sC.1 q with q|rfl
  ·exact L k e h0 c g r a (gB.2 ⟨z,A,x,q,c3,H⟩)
  ·have:m.next=r.object:=c3;omega
 intro k d F c g r a f;show r.id<m.p.1+m.extra;obtain⟨e,h0,rfl⟩:=EJ o F;by_cases v:k∈be ds m.drives
 ·obtain⟨_,_,N,D⟩:=oA (m:=m) (t:=t) (b:=b) (n:=dw m ⟨name,m.next,b.length,t⟩) (d:=e) v;rw[D]at g;rcases qA.1 g with h|h
  ·rcases Uz h with h|h
   ·exact j k e h0 c h r a f
   ·rw[iX h]at a;cases a
  ·rcases qA.1 h with h|h
   ·obtain⟨K,s,rfl⟩:=qo.1 h;obtain⟨i,id,rfl,I,hid⟩:=Na s;rw[kE (IW S.may u h8 E I hid) (gx _ _ _)]at a;injection a with a
    subst a;show(id:Int)<_;omega
   ·rw[iX h]at a;cases a
 ·unfold kV at g;rw[j3 v]at g;exact j k e h0 c g r a f
theorem abV{t:au}{b:aY}{live:au}{k:Int}{nb:Nat}:j9 (lO (dL m m.next t (splitB m.p b) live nb) k)<=nb*(m.p.1+m.extra).toNat:=by rw[KX,qw];exact VD m m.next t (splitB m.p b) live k nb
end
end Go.Qw
namespace Wl
open Go Go.Qw Go.Vc
end Wl
namespace Go.Vc
open Go
end Go.Vc
namespace Go.Qw
open Go Go.Vc Go.Proofs Wl
section
variable {B:aB} {h0 h:hZ} {As:List HP} {a pw:hU} {offs:Int} {da:List aQ} {w:Pow} {ds:aF} {m:aE} {s:Sl}
end
section
variable {B B':aB} {h0 h0' h h':hZ} {As As':List HP} {a b pw pw2:hU} {d:bp}
end
section
variable {B:aB} {h0 h:hZ} {As:List HP} {a a2 pw pw2:hU} {mc:ba} {offs:Int} {da da2:List aQ} {w:Pow} {ds:aF}
end
section
variable {B:aB} {h0 h:hZ} {As:List HP} {a pw b:hU} {x:cw} {offs:Int} {da:List aQ} {w:Pow} {ds:aF} {d:bp}
end
end Go.Qw
namespace Go.Vc
open Go Wl Go.Qw
def sF(l:au)(k:Nat):Int:=l.getD k 0
def jv(l:au):Pm:=Dz (sF l 0) (sF l 1) (sF l 2)
def AM(l:au):Nat:=(2+sF l 4%4).toNat
def EL(l:au):au:=(qx (AM l)).map λi=>8+sF l (5+i)%50
def Zb(l:au):Int:=sF l 3%7
theorem agx(l:au):2<=AM l/\AM l<=5:=by unfold AM;omega
theorem aeq(l:au):j9 (EL l)=AM l:=by simp[EL]
end Go.Vc
namespace Go.Qw
open Go Go.Vc Go.Proofs Wl
section
variable {B:aB} {h0 h:hZ} {As:List HP} {a pw:hU} {offs:Int} {da:List aQ} {w:Pow} {ds:aF}
theorem sG(s:Sl)(l:au)(k:Nat)(h:hZ)(a:Rd h s 1 aq l):ab xm 38 #[s,xb xi k] h λv h'=>v=xb xi (sF l k)/\h'=h:=by
 refine Cf s k ?_;unfold pV sF;have c:=a.len;refine ai (λe=>?_) (λe=>⟨?_,k0⟩)
 ·have b:k<j9 l:=k4
  refine a.bC k k0 b (l.getD k 0) (by rw[getD_lt b];rfl) ⟨k0,k0⟩
 ·rw[qe,qQ k4];rfl
theorem Wh(s:Sl)(l:au)(h:hZ)(w:Rd h s 1 aq l):ab xm 7 #[s] h λv h'=>∃r:Sl,v=.tuple #[lN (jv l),xb xi (Zb l),r]/\Sp h h' [al 3 r 1 aq (EL l)]:=by
 refine uW s ?_;unfold nN;refine(Sp.refl h).alloc ac k0 λq H u=>?_;have a:=w.up u.aj;refine(sG s l 0 H a).mono ?_;rintro _ _ ⟨rfl,rfl⟩;refine⟨_,k0,(sG s l 1 _ a).mono ?_⟩;rintro _ _ ⟨rfl,rfl⟩;refine⟨_,k0,(sG s l 2 _ a).mono ?_⟩;rintro _ J ⟨rfl,rfl⟩;refine⟨_,k0,(YB _ _ _ J).mono ?_⟩;rintro _ P ⟨rfl,E⟩;have F:=u.up E.aj;refine⟨jv l,k0,?_⟩;refine F.alloc ac k0 λc O G=>?_;refine G.storeAll ac 1 k0 k0 [xb xi (jv l).1,xb xi (jv l).2.1,xb xi (jv l).2.2] k0 k0 k0 k0 λI n=>?_;have n:Sp h I [al 3 ⟨eH,0,0⟩ 1 aq ((EL l).take 0),ao c 24 [xb xi (jv l).1,xb xi (jv l).2.1,xb xi (jv l).2.2],ao q 24 [xb xi 0,xb xi 0,xb xi 0]]:=(n.nil 3 1 aq).cD [2,1,0];have N:=agx l;have K:=aeq l;refine aw (λt:Sl×Nat=>(t.1,(t.2:Int))) (λt h'=>t.2<=AM l/\Sp h h' [al 3 t.1 1 aq ((EL l).take t.2),ao c 24 [xb xi (jv l).1,xb xi (jv l).2.1,xb xi (jv l).2.2],ao q 24 [xb xi 0,xb xi 0,xb xi 0]]) (λt=>AM l-t.2) (⟨eH,0,0⟩,0) k0 ⟨k9,n⟩ ?_;rintro⟨o,i⟩ h8 ⟨Q,f⟩;dsimp only at*;have b:=w.up f.aj;refine(sG s l 4 h8 b).mono ?_;rintro _ _ ⟨rfl,rfl⟩;refine⟨_,k0,(fT _ 4 _ k6 k6).mono ?_⟩;rintro _ h8 ⟨rfl,rfl⟩;refine⟨_,k0,?_⟩;have g:=f.box 1 k0;dsimp only;rw[ag (2+sF l 4%4)];have k:2+sF l 4%4=(AM l:Int):=by unfold AM;omega
 rw[k];refine ai (λe=>?_) (λe=>?_)
 ·have x:i<AM l:=k4
  rw[ag ((5:Int)+i)];have B:(5:Int)+i=((5+i:Nat):Int):=k4
  rw[B];refine(sG s l (5+i) h8 b).mono ?_;rintro _ _ ⟨rfl,rfl⟩;refine⟨_,k0,(fT _ 50 _ k6 k6).mono ?_⟩;rintro _ M ⟨rfl,rfl⟩;refine⟨_,k0,?_⟩;dsimp only;rw[ag (8+sF l (5+i)%50)];refine f.push ac 0 k0 fN k0 k6 (λ_=>rfl) eT (8+sF l (5+i)%50) k0 k6 k8 λz y m=>?_;refine⟨(z,i+1),lb,⟨k7,?_⟩,k7⟩;dsimp only;rw[aH _ _ (show i<j9 (EL l) by omega)];have L:(EL l)[i]'(by omega)=8+sF l (5+i)%50:=by simp[EL]
  rw[L];exact m
 ·have j:i=AM l:=k4
  subst j;rw[qi k4]at f;have p:av.ok [(c,(xb xi (jv l).1)),(c.add 1,(xb xi (jv l).2.1)),(c.add 2,(xb xi (jv l).2.2))] h8:=⟨g.cell0 k0,g.cell k0,g.cell k0,trivial⟩
  refine⟨jv l,g.aS _ k0,(sG s l 3 h8 b).mono ?_⟩;rintro _ _ ⟨rfl,rfl⟩;refine⟨_,k0,p,(fT _ 7 _ k6 k6).mono ?_⟩;rintro _ D ⟨rfl,rfl⟩;refine⟨_,k0,p,?_⟩;refine f.storeAll ac 2 k0 k0 [xb xi (jv l).1,xb xi (jv l).2.1,xb xi (jv l).2.2] k0 k0 k0 k0 λA d=>⟨trivial,?_⟩
  exact⟨jv l,(d.box 2 k0).aS _ k0,o,k0,d.cD [0]⟩
end
end Go.Qw
namespace Wl
structure Mv where
 kind:Int
 name:ByteArray
 data:aY
 slot:Int
 n:Int
 m:Int
 mask:Int
 keeps:au
 torns:au
def nms:List ByteArray:=[⟨#[97]⟩,⟨#[98]⟩,⟨#[99,97,116,45,55]⟩,⟨#[100]⟩,⟨#[101,49,50,51,52,53,54,55,56,57,48,49]⟩]
end Wl
namespace Go.Vc
open Go Wl
abbrev Il(s:ByteArray):ba:=[xf s]
theorem agy:∀x,∀c∈Il x,c.oneCell'=eR:=by intro x c a;simp[Il]at a;subst a;rfl
end Go.Vc
namespace Go.Qw
open Go Go.Vc Go.Proofs Wl
abbrev aiN:ce C.toCG 37 9 1 [xf ⟨#[]⟩] 16:=⟨_,_,k0,k0,k0,k0,k0,k0⟩
theorem agz{p:Pm}{extra:Int}{l:au}(k:bH p=eR)(e:0<=extra/\extra<=16)(f:1<=j9 l/\l.length<=24)(h:∀x∈l,1<=x/\x<=512):
  sB p extra l=0/\bm l l.length=(qx l.length).map λi:Nat=>(i:Int):=by
 have d:∀i (a:i<j9 l),1<=l.getD i 0/\l.getD i 0<=512:=λi a=>by rw[dT 0 a];exact h _ (qh a)
 have h0:bm l l.length=(qx l.length).map λi:Nat=>(i:Int):=by unfold bm;refine zW.2 λy b=>?_;obtain⟨i,a,rfl⟩:=qo.1 b;have a:=qD.1 a;have:=d i a;rw[qn];exact j6 k4
 refine⟨?_,h0⟩;have j:(fb l).2=eR:=by have c:l.all (fp · 0 512)=eR:=qU.2 λy b=>(ky _ _ _).2 ⟨by have:=h y b;omega,(h y b).2⟩;unfold fb;rw[j1 c,h0];simp;omega
 have g:fp extra 0 16=eR:=(ky _ _ _).2 e;have h3:((bm l l.length).any λi=>decide (l.getD i.toNat 0<(j9 (bs (co p extra l)):Int)))=eS:=by refine wG.2 λy b=>?_;rw[h0]at b;obtain⟨i,a,rfl⟩:=qo.1 b;have a:=qD.1 a;have m:=FD p extra l f.2;have:=d i a;rw[qn,decide_eq_true_eq];omega
 unfold sB;rw[j,k,g,h3];rfl
theorem abW{p:Pm}{extra:Int}{l:au}{D:aF}{m:aE}(i:m=co p extra l)(v:sB p extra l=0)(w:j9 l<=64)(j:j9 D=64)
  (o:∀s,aW D s=if s∈bm l l.length then dB ⟨(l.getD s.toNat 0).toNat,bs m,0,[],eS,eS⟩else eH) (C:Int->aY):ee m C D/\Full m C D/\Qk m D:=by
 have b:bV m=eR:=by rw[i];exact KW w v
 have n:m.drives=bm l l.length:=by rw[i];rfl
 have q:m.aG=[]:=by rw[i];rfl
 have f:∀k d,aW D k=dB d->∀c∈d.l,c∈bs m:=λk d a c f=>by
  rw[o]at a;split at a
  ·injection a with a;subst a;exact f
  ·cases a
 refine⟨⟨b,j,λk d a c h=>OP C b (f k d a c h),λe g=>by rw[q]at g;cases g⟩,⟨λk t=>?_,λe g=>by rw[q]at g;cases g⟩,λk d a c h r u=>?_⟩
 ·rw[n]at t;refine⟨_,by rw[o,j1 t],k0,?_⟩;unfold oz;rw[b,zQ];exact qU.2 λc f=>j6 f
 ·rw[iX (f k d a c h)]at u;cases u
structure Inv (m:aE) (C:Int->aY) (ds:aF) (N:Nat):Prop where
 sto:ee m C ds
 full:Full m C ds
 low:Qk m ds
 nm:∀e∈m.aG,e.name∈nms
 dr:m.drives≠[]
 seq:m.seq<=1+N
 nx:m.next<=N
theorem Gr{l:au}(h:l.Pairwise (·<·)):lu l=l:=by have g:(lu l).Perm l:=List.mergeSort_perm _ _;have f:(lu l).Pairwise (λa b=>decide (a<=b)=eR):=yo (λa b c e d=>by simp at*;omega) (λa b=>k8) l;refine g.eq_of_pairwise (le:=λa b:Int=>decide (a<=b)=eR) ?_ f (h.imp λh=>k8);intro a b _ _ e d;simp at e d;omega
theorem BS(c:Nat)(x:Int)(d:0<x:=by omega):bm (qg c x) (qg c x).length=(qx c).map λi:Nat=>(i:Int):=by rw[wK];unfold bm;refine zW.2 λy b=>?_;obtain⟨i,a,rfl⟩:=qo.1 b;have a:=qD.1 a;simp[qe,a];omega
theorem abX{p:Pm}{extra:Int}(k:bH p=eR)(f:0<=extra/\extra<=16)(c:Nat)(x:Int)(l:1<=c/\c<=24)(g:1<=x/\x<=512):sB p extra (qg c x)=0:=by
 have j:(fb (qg c x)).2=eR:=by
  have a:(qg c x).all (fp · 0 512)=eR:=qU.2 λy b=>by
   rw[vn b];exact(ky _ _ _).2 ⟨k4,k4⟩
  unfold fb;rw[j1 a,BS c x,wK];simp;omega
 have h:fp extra 0 16=eR:=(ky _ _ _).2 f;have h3:((bm (qg c x) (qg c x).length).any λi=>decide ((qg c x).getD i.toNat 0<(j9 (bs (co p extra (qg c x))):Int)))=eS:=by
  refine wG.2 λy b=>?_;rw[BS c x]at b;obtain⟨i,d,rfl⟩:=qo.1 b;have d:=qD.1 d;have m:=FD p extra (qg c x) k8;have e:(qg c x).getD ((i:Int)).toNat 0=x:=by rw[qn];simp[qe,d]
  rw[e];simp;omega
 unfold sB;rw[j,k,h,h3];rfl
structure Jb (p:Pm) (extra:Int) (c:Nat) (x:Int) (m:aE) (D:aF):Prop where
 m_eq:m=co p extra (qg c x)
 len:j9 D=64
 may:bV m=eR
 dr:m.drives=(qx c).map λi:Nat=>(i:Int)
 at_:∀s,aW D s=if s∈m.drives then dB ⟨x.toNat,bs m,0,[],eS,eS⟩else eH
theorem aer{p:Pm}{extra:Int}{c:Nat}{x:Int}(e:bH p=eR)(j:0<=extra/\extra<=16)(g:1<=c/\c<=24)(b:1<=x/\x<=512){D:aF}(a:j9 D=64)
  (f:∀s,aW D s=if s∈bm (qg c x) (qg c x).length then dB ⟨((qg c x).getD s.toNat 0).toNat,bs (co p extra (qg c x)),0,[],eS,eS⟩else eH):Jb p extra c x (co p extra (qg c x)) D:=by
 have k:=abX e j c x g b;refine⟨k0,a,KW k8 k,BS c x,λs=>?_⟩;rw[f s];show(if s∈bm _ _ then _ else eH)=(if s∈bm _ _ then _ else eH)
 by_cases h:s∈bm (qg c x) (qg c x).length
 ·rw[j1 h,j1 h];rw[BS c x]at h;obtain⟨i,d,rfl⟩:=qo.1 h;have d:=qD.1 d;rw[qn,dT 0 p6,List.getElem_replicate]
 ·rw[j3 h,j3 h]
theorem Jb.live{p:Pm}{extra:Int}{c:Nat}{x:Int}{m:aE}{D:aF}(F:Jb p extra c x m D):be D m.drives=m.drives:=zW.2 λk a=>by
 unfold isLive;rw[F.at_ k,j1 a];rfl
theorem Jb.aG{p:Pm}{extra:Int}{c:Nat}{x:Int}{m:aE}{D:aF}(F:Jb p extra c x m D):m.aG=[]/\m.seq=1/\m.next=0/\m.p=p/\m.extra=extra:=by rw[F.m_eq];exact⟨k0,k0,k0,k0,k0⟩
section
variable {B:aB} {h0 h:hZ} {As:List HP}
end
end Go.Qw
namespace Wl
open Go Go.Qw Go.Vc
end Wl
namespace Go.Qw
open Go Go.Vc Go.Proofs Wl
section
variable {B:aB} {h0 h:hZ} {As:List HP} {a pw v:hU} {offs:Int} {da:List aQ} {w:Pow} {ds:aF} {mc:ba}
end
section
variable {B:aB} {h0 h:hZ} {As:List HP} {a pw v:hU} {offs:Int} {da:List aQ} {w:Pow} {ds:aF} {mc:ba}
end
section
variable {B:aB} {h0 h:hZ} {As:List HP} {a pw v:hU} {offs:Int} {da:List aQ} {w:Pow} {ds:aF} {mc:ba}
end
end Go.Qw
namespace Wl
open Go Go.Qw Go.Vc
end Wl
namespace Go.Qw
open Go Go.Vc Go.Proofs Wl
section
variable {B:aB} {h0 h:hZ} {As:List HP} {a pw v:hU} {offs:Int} {da:List aQ} {w:Pow} {ds:aF} {mc:ba}
end
end Go.Qw
namespace Wl
open Go Go.Qw Go.Vc
end Wl
namespace Go.Qw
open Go Go.Vc Go.Proofs Wl
section
variable {B:aB} {h0 h:hZ} {As:List HP} {a pw v:hU} {offs:Int} {da:List aQ} {w:Pow} {ds:aF} {mc:ba}
end
end Go.Qw
namespace Wl
open Go Go.Qw Go.Vc
end Wl
namespace Go.Qw
open Go Go.Vc Go.Proofs Wl
section
variable {B:aB} {h0 h:hZ} {As:List HP} {a pw:hU} {offs:Int} {da:List aQ} {w:Pow} {ds:aF} {m:aE}
end
end Go.Qw
namespace Wl
open Go Go.Qw Go.Vc
end Wl
namespace Go.Vc
end Go.Vc
namespace Go.Qw
open Go Go.Vc Go.Proofs Wl
section
variable {B:aB} {h0 h:hZ} {As:List HP} {a pw:hU} {d:bp}
end
section
variable {B:aB} {h0 h:hZ} {As:List HP} {a pw:hU} {offs:Int} {da:List aQ} {w:Pow} {ds:aF} {m:aE}
end
end Go.Qw
namespace Wl
open Go
end Wl
