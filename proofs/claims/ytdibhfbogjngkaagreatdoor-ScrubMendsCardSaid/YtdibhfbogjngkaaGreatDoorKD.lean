/- Lemmas for the proof of the law; no condition. -/
import Derived.Test.YtdibhfbogjngkaaGreatDoorKC
set_option linter.unusedVariables false
set_option maxHeartbeats 4000000
set_option linter.unusedSimpArgs false
open Go.Proofs.Tryz renaming prog -> xt
open List renaming eq_of_mem_replicate -> vq, getElem?_zip_eq_some -> vm, getElem_range -> y9, mem_flatten -> vk, mem_of_find?_eq_some -> yi, range -> qw, replicate -> qg, zipWith -> zh
open Go.Value renaming agg -> xn, bool -> xm, int -> xi, pointer -> xk, slice -> xj, string -> xl
open Go.IntKind renaming bits -> ql, i64 -> xo, u32 -> xq, u8 -> xp, wrap -> qc
open Prod renaming fst -> qM, snd -> zF
open Go.Instr renaming storeAt -> qf
open BitVec renaming ofInt -> qF
set_option maxRecDepth 100000
open Option renaming some -> dB, none -> eH
open Bool renaming true -> eR, false -> eS
open Go renaming Addr -> fz
open Go.Vc renaming Heap -> f8
open List renaming length -> i0
namespace Go.Qw
open Go Go.Vc Go.Proofs Wl
theorem ZA{a:List Sl}{vs:aM}(h:i0 a=i0 vs)(b:List (Sl×Row))(e:∀x∈a.zip vs,x∈b):iv b id a vs:=
 ⟨h,λi r l c d=>e _ (yH.2 ⟨i,by rw[vm];exact⟨c,d⟩⟩)⟩
theorem UZ{α β:Type}:∀(a:List α) (x:α) (l:List β) (h:i0 a<i0 l),(a++[x]).zip l=a.zip l++[(x,l[i0 a])]
 |[],x,b::l,_=>jj
 |c::a,x,b::l,h=>by
  have:=UZ a x l j7;simp[this]
def afP(h h':f8)(v:Value)(n:Nat)(A a:aM):Prop:=
 (lB n A a/\∃r:Sl,v=.tuple #[r,xi xo 0]/\Sp h h' [MA r (gh n A a)])∨(¬lB n A a/\v=.tuple #[xj eH 0 0,xi xo 10]/\Sp h h' [])
theorem aeA(p:Pm)(seed:Int)(l:Sl)(syms:List (Int×Row))(n w:Nat)(h:f8)(hl:dT Jx h l syms)(y:bB p=eR)(b0:∀x∈syms,BN p x)(hn:(bE p).toNat=n)(hw:p.2.2.toNat=w)(ek:i0 syms<=2^18)(hr:cb (dP p seed (syms.map qM))=n):
  ab xt 160 #[lu p,xi xq seed,l] h λv h'=>afP h h' v n (dP p seed (syms.map qM)) (sC p syms):=by
 refine OT p seed l ?_;unfold HG;have eq:=(bZ p).1 y;have d1:bE p=n:=by rw[<-hn];have:=oU y;omega
 have c0:n=p.1.toNat+p.2.1.toNat:=by rw[<-hn,oU y];omega
 have cf:p.2.2=(w:Int):=i5
 have c7:1<=n:=i5
 have b7:n<=20:=i5
 obtain⟨U,d4,eo,c5⟩:=bL.kD hl;have el:=bL.len hl;let d:List fu:=xx n seed syms;have ej:i0 d=i0 syms:=by simp[d,xx]
 have H:=ahE (seed:=seed) c7 b7 b0 hw;let u:Nat->bV:=λi=>(syms.take i).map λx=>dw n seed x.1;have ax:∀x:Int×Row,x∈syms->(bB p&&bW x.1)=eR:=λx hx=>by rw[y,(b0 x hx).id];rfl
 refine(Sp.refl h).boxed λa1 K H1=>?_;have d8:Sp h K [al 275 ⟨eH,0,0⟩ 2 qv [],xI [],ao a1 24 [xi xo p.1,xi xo p.2.1,xi xo p.2.2]]:=((aa.ack H1).nil 275 2 qv).cE [2,1,0];refine aw (λt:Nat×Sl×List Sl=>(t.2.1,(t.1:Int))) (λt h'=>t.1<=i0 syms/\t.2.2.length=t.1/\Sp h h' [al 275 t.2.1 2 qv (t.2.2.zip (U.map zF)),xI (t.2.2.zip (u t.1)),ao a1 24 [xi xo p.1,xi xo p.2.1,xi xo p.2.2]]) (λt=>i0 syms-t.1) (0,⟨eH,0,0⟩,[]) i4 ⟨jj,i4,d8⟩ ?_;rintro⟨i,o,cr⟩ h2 ⟨hi,b3,H2⟩;dsimp only at*;have c6:i0 (u i)=i:=by simp[u];omega
 refine ai (λe=>?_) (λe=>?_)
 ·have Y:i<i0 syms:=i5
  obtain⟨y1,y2⟩:=c5 i i5 Y;refine(Seq.up d4 H2.ag).eJ (g:=yv) i i4 i5 (U[i]'(by omega)) i4 ?_;refine H2.alloc ac i4 λa5 h3 H3=>?_;refine H3.storeAll ac 3 i4 i4 (yv (U[i]'(by omega))) i4 i4 i4 i4 λh4 T=>?_;refine⟨p,(T.box 2 i4).aS _ i4,(U[i]'(by omega)).1,(T.box 3 i4).cell0 i4,(U[i]'(by omega)).2,(T.box 3 i4).cell i4,?_⟩;refine(BZ p seed (U[i]'(by omega)).1 h4).mono ?_;rintro _ h5 ⟨r,rfl,R5⟩;rw[y1,ax _ (qh Y),f9 rfl,hn]at R5;have H5:=(T.comp R5).freeze 4 i4 λ_=>rfl;refine⟨r,i4,⟨(H5.box 3 i4).cell i4,trivial⟩,?_⟩;have H6:=aa.afO H5 1 4 i6 i4 i4;have ds:=H6.box 3 i4;refine H6.sq ac qv eQ i4 [(r,(U[i]'(by omega)).2)] i4 (show 1*2<=2^20 by decide) i4 ⟨ds.cell i4,trivial⟩ ?_;refine H6.push ac 0 i4 eQ i4 i6 (λ_=>rfl) abS (r,(U[i]'(by omega)).2) i4 i6 i9 λo' h7 H7=>?_;refine⟨⟨(H7.box 3 i4).cell i4,trivial⟩,?_⟩;refine⟨(i+1,o',cr++[r]),js,⟨i7,by simp[b3],?_⟩,i7⟩;dsimp only;have e1:u (i+1)=u i++[dw n seed syms[i].1]:=by simp only[u];rw[aG _ _ Y,qU];rfl
  have e2:(cr++[r]).zip (U.map zF)=cr.zip (U.map zF)++[(r,(U[i]'(by omega)).2)]:=by rw[UZ cr r (U.map zF) i9,wx];simp only[b3]
  rw[e1,e2,List.zip_append (by rw[b3,c6])];exact H7.cE [0,1,2]
 have d2:i=i0 syms:=i5
 subst d2;have dx:u syms.length=syms.map λx=>dw n seed x.1:=by simp only[u];rw[qW]
 rw[dx]at H2;have dp:∀{h':f8},(∀x∈cr.zip (syms.map λx=>dw n seed x.1),Vc.Seq h' (λb=>b<h'.size) x.1 1 aq x.2)->aY (λb=>b<h.size) h h'->Vc.Seq h' (λb=>b<h'.size) o 2 qv (cr.zip (U.map zF))->dT rK h' o d:=λ{h'} hp hpr hs=>by
  refine⟨_,hs,by simp[d,xx];omega,λk a b K h2=>?_⟩;have hk:k<i0 syms:=by have:=(qn.1 h2).1;omega
  rw[qd i9,List.getElem_zip,wx]at K;have e2:d[k]?=dB (dw n seed syms[k].1,syms[k].2):=by simp[d,xx,hk]
  rw[e2]at h2;simp only[Option.some.injEq]at K h2;subst K;subst h2;refine⟨hp (cr[k]'(by omega),dw n seed syms[k].1) (yH.2 ⟨k,?_⟩),Seq.up (c5 k i5 hk).2 hpr⟩;rw[vm];exact⟨qd _,by simp[hk]⟩
 refine bY (λs h'=>∃(a0 f:fz),s=dB a0/\Sp h h' [SA a0 (gC f p ⟨eH,0,0⟩ ⟨eH,0,0⟩ ⟨eH,0,0⟩ ⟨eH,0,0⟩ ⟨eH,0,0⟩ ⟨eH,0,0⟩ ⟨eH,0,0⟩),al 275 o 2 qv (cr.zip (U.map zF)),xI (cr.zip (syms.map λx=>dw n seed x.1)),ao a1 24 [xi xo p.1,xi xo p.2.1,xi xo p.2.2],ao f 197 cV]) ?_ ?_
 ·refine⟨p,(H2.box 2 i4).aS _ i4,(rF h2).mono ?_⟩;rintro _ h3 ⟨f,rfl,R3⟩;have H3:=H2.comp R3;refine⟨dB f,i4,⟨(H3.box 2 i4).cell0 i4,(H3.box 2 i4).cell i4,(H3.box 2 i4).cell i4,trivial⟩,?_⟩;refine H3.boxed λa0 h4 T=>?_;exact⟨⟨(T.box 2 i4).cell0 i4,(T.box 2 i4).cell i4,(T.box 2 i4).cell i4,trivial⟩,a0,f,i4,T.cE [4,0,1,2,3]⟩
 rintro _ h3 ⟨s,f,rfl,H3⟩;refine⟨p,(H3.box 3 i4).aS _ i4,(kz p h3).mono ?_⟩;rintro _ h4 ⟨rfl,R4⟩;have T:=H3.up R4.ag;refine⟨_,i4,?_⟩;rw[d1];have eb:dT rK h4 o d:=dp (T.at 2 i4) T.ag (T.seq 1 i4 λ_=>rfl);have cc:∀e∈d,i0 e.1<=2^20:=λe z=>by
  obtain⟨x,hx,rfl⟩:=qt.1 z;have:=BA c7 b7 seed x.1;dsimp only;omega
 refine(abX o d n w h4 eb (λe z=>⟨(H e z).1,Zy (H e z).2⟩) i5 i5 ⟨i5,i5⟩ cc).mono ?_;have hA:aV n (bz p.1.toNat p.2.1.toNat):=by rw[c0];exact Mk _ _
 have eA:=Yv (seed:=seed) y hn b0;have eB:=Yw (seed:=seed) (n:=n) (p:=p) (l:=syms) hw;rw[<-eA]at hr⊢;rw[<-eB];rintro _ h5 ⟨known,vals,hI,⟨ax,rfl,R5⟩|⟨ax,k,v,rs,rfl,R5⟩⟩
 ·refine⟨(⟨eH,0,0⟩,⟨eH,0,0⟩,⟨eH,0,0⟩,10),i4,bQ (λ_=>?_) λe=>absurd e i6⟩;exact .inr ⟨aaJ (λe z=>(H e z).1) hA hI ax hr,i4,(T.up R5.ag).cE []⟩
 refine⟨(k,v,rs,0),i4,bQ (λe=>absurd i4 e) λ_=>?_⟩;have S:=adM (λe z=>(H e z).1) hA hI ax;have F:=PZ (λe z=>(H e z).1) hI;obtain⟨f1,f2,f3,f4,f5⟩:=Mo (λe z=>(H e z).1) hI;have J:=pm hI λe z=>(H e z).1;have bk:=agq (known:=known) (vals:=vals) λe z=>(H e z).2;have dn:=aaK (l:=d) (known:=known) (vals:=vals);have a2:=aaL (known:=known) (vals:=vals) cc;have b5:=hI.vlen;have d5:=hI.klen;unfold RZ at S;obtain⟨R,a3⟩:∃R,R=bf known vals d:=⟨_,rfl⟩
 change gP n w d _ known vals _ _ _ _ at S;rw[<-a3]at S F f1 f2 f3 f4 f5 J bk dn a2 R5;obtain⟨P,H6,ed,c4⟩:=aa.aiv (T.comp R5) 6 rfl;obtain⟨rr,H7⟩:=aa.SC H6 7 rfl λ_=>rfl;have H8:=aa.agM H7 8 i4;have H9:Sp h h5 [SA s (gC f p ⟨eH,0,0⟩ ⟨eH,0,0⟩ ⟨eH,0,0⟩ ⟨eH,0,0⟩ ⟨eH,0,0⟩ ⟨eH,0,0⟩ ⟨eH,0,0⟩),lC ((⟨eH,0,0⟩,[])::P.zip vals),HA v P,cW jL 2 qv rs rr R,al 4 k 1 fi known,ao f 197 cV]:=aa.cE H8 [0,8,6,7,5,4];have b1:v.len=n:=by rw[(H9.own 2 i4).len];omega
 have hk:∀(c:Nat) (hc:c<i0 P),P[c].ptr.isNone=!(known.getD c eS):=λc hc=>by
  rw[c4 c hc i5];have K:=hI.row c i5;rw[mR (show c<i0 vals by omega)]at K;cases hkn:known.getD c eS with
  |true=>
   rw[hkn,f9 rfl]at K;cases hv:vals[c]'(by omega)with
   |nil=>rw[hv]at K;simp at K;omega
   |cons x t=>rfl
  |false=>
   rw[hkn,g0 jj]at K;rw[List.length_eq_zero_iff.1 K];rfl
 refine⟨s,i4,H9.store ac 0 i4 i4 4 [v] i4 i4 i4 m9 λh6 du=>?_⟩;refine⟨s,i4,du.store ac 0 i4 i4 5 [rs] i4 i4 i4 m9 λh7 eg=>?_⟩;have cq:=Zz (known:=known) (n:=n) i5 λe z=>⟨(J e z).cS,bk e z⟩
 have ar:=Am (rows:=rowsOf R known n) (n:=n) (by rw[a3];exact xS (a3▸J));have et:i0 (rowsOf R known n)<=i0 R+n:=by rw[rowsOf,qy,qA];have:=Fy known n;omega
 refine(Wz s f p v rs _ _ _ _ _ k rr R known n (As:=[lC ((⟨eH,0,0⟩,[])::P.zip vals),HA v P,cW jL 2 qv rs rr R,al 4 k 1 fi known,ao f 197 cV]) eg (St.mk' λh' H'=>⟨H'.fR 2 i4,H'.seq 3 i4 λ_=>rfl⟩) d5 i5 i5 a2 cq ⟨by have:=ar.1;omega,by have:=Jo (dM n (rowsOf R known n)).used (rowsOf R known n).length;omega⟩).mono ?_;rintro _ h8 ⟨rfl,st,V,lf,d9⟩;refine⟨(),i4,?_⟩;obtain⟨D,hD⟩:∃D,D=(gJ R known n).dead:=⟨_,rfl⟩
 obtain⟨ST,b4⟩:∃ST,ST=nH R known n:=⟨_,rfl⟩
 obtain⟨L,hL⟩:∃L,L=Wl.leftOf R known n:=⟨_,rfl⟩
 have c9:Sp h h8 (SA s (gC f p v rs st V lf ⟨eH,0,0⟩ ⟨eH,0,0⟩)::lC ((⟨eH,0,0⟩,[])::P.zip vals)::[HA v P,al 332 st 2 fL ST,al 3 V 1 aq D,al 3 lf 1 aq L,cW jL 2 qv rs rr R,ao f 197 cV]):=by rw[hD,b4,hL];exact aa.cE d9 [0,4,5,1,2,3,6,8]
 rw[<-hD]at S F f1 f2 f3 f5;rw[<-b4]at S F;rw[<-hL]at S f4;have cp:i0 ST<=2^20:=by rw[b4,nH,gJ];have:=qR (λx:Int×Int=>decide (x.1<i0 R)) (dM n (rowsOf R known n)).steps;have:=ar.1;omega
 have er:i0 L<=2^20-2^10:=by rw[hL,Wl.leftOf,gJ];have:=qR (λx:Int=>decide (x<i0 R)) (fG (dM n (rowsOf R known n)).used (rowsOf R known n).length);have:=Jo (dM n (rowsOf R known n)).used (rowsOf R known n).length;omega
 have B:St (λb=>b<h.size) h [HA v P,al 332 st 2 fL ST,al 3 V 1 aq D,al 3 lf 1 aq L,cW jL 2 qv rs rr R,ao f 197 cV] λh=>Zs h f rs st V lf rr R ST D L:=
  St.mk' λh' H'=>⟨H'.box 5 i4,H'.fR 4 i4,H'.seq 1 i4 λ_=>rfl,H'.seq 2 i4 λ_=>rfl,H'.seq 3 i4 λ_=>rfl⟩
 refine(Zu s f p v rs st V lf _ _ rr R ST D L n D.length w _ c9 B b1 i5 cf i5 i4 i5 J f1 f2 F cp a2 jj).mono ?_;rintro _ h9 ⟨rfl,wa,mo,wr,mr,pl,c8,a9⟩;refine⟨(),i4,?_⟩;have ei:=(B.at [_,_,_,_] c8).dead.len;generalize ep:ST.foldl (ia R D.length) (fZ n D.length w D)=S0 at a9 S;have d7:i0 S0.1=n:=by have:=S.lens.1;simpa[iN]using this
 have d3:i0 S0.2=n:=by have:=S.lens.2.1;simpa[iN]using this
 have hV:iv pl id P vals:=ZA ed pl λx hx=>a9.sub x (qC _ hx);refine(acg s f p v rs st V lf wa mo P wr mr pl known vals S0.1 S0.2 n D.length c8 i5 ei i5 ⟨λ_ h=>h,a9.way,a9.more⟩ hV b5 d7 d3 hk).mono ?_;rintro _ e4 ⟨rfl,ad,ap,Z,eh,N⟩;refine⟨(),i4,?_⟩;obtain⟨W,hW⟩:∃W,W=(iN D.length known vals S0).1:=⟨_,rfl⟩
 obtain⟨M,hM⟩:∃M,M=(iN D.length known vals S0).2:=⟨_,rfl⟩
 change mK pl Z ad ap (iN D.length known vals S0).1 (iN D.length known vals S0).2 at N;rw[<-hW,<-hM]at N S;have m:=S.lens;refine(Zw s f p v rs st V lf wa mo ad ap Z rr R ST D L W M n D.length w eh B c0 cf i5 y i4 i5 J a2 f4 i5 ⟨λ_ h=>h,N.way,N.more⟩ m.1 m.2.1 m.2.2).mono ?_;rintro _ am ⟨a,b,rfl,bd⟩;refine⟨(a,b),i4,s,i4,V,show cellOf am (s.add 7)=_ from(bd.box 2 i4).cell i4,?_⟩;have d6:iv Z id P vals:=hV.mono N.sub;obtain⟨e1,e2⟩:=rc S;have O:=BL (n:=n) (w:=w) (ahead:=bz p.1.toNat p.2.1.toNat) (l:=d) (known:=known) (vals:=vals) (dead:=D) (left:=L) (W:=W) (M:=M);have bb:∀{X:aM},_->_:=λ{X} hs=>S.Xm hr (D:=X) hs;have a8:=S.Xn hr;have a7:=S.Yx i5 hr;have a6:=S.OC i5 hr;rw[<-a3]at e1 e2 O bb a8 a7 a6;obtain⟨dA,b9⟩:∃dA,dA=dH n D.length R W L (bz p.1.toNat p.2.1.toNat):=⟨_,rfl⟩
 obtain⟨G,dk⟩:∃G,G=fH n w R M L (bz p.1.toNat p.2.1.toNat):=⟨_,rfl⟩
 rw[<-b9]at e1 O bb a8 a7 a6 bd;rw[<-dk]at e2 O bb a8 a7 bd;have dy:i0 dA=i0 L+p.2.1.toNat:=by rw[b9];simp[dH,bz]
 have bl:∀{h':f8} {pre:List HP} {dead:Sl} {dr:List Sl} {X:aM} {Q:HP},Sp h h' (Told s f p v rs st V lf wa mo ad ap Z++HA v P::[al 332 st 2 fL ST,al 3 V 1 aq D,al 3 lf 1 aq L,cW jL 2 qv rs rr R,ao f 197 cV,Q])->(∀h',Q.p h' (λb=>b<h'.size)->iH h' (λb=>b<h'.size) dead 1 aD X dr)->fF D.length w dA G X->
   ab xt 222 #[xk (dB s),dead] h' λv' ah=>v'=.tuple #[]/\cellOf ah (s.add 4)=dB (xj v.ptr v.len v.cap)/\afP h ah (.tuple #[v,xi xo 0]) n (dI n d (bz p.1.toNat p.2.1.toNat)) (iI w d (bz p.1.toNat p.2.1.toNat)):=by
  intro h' pre dead dr X Q H' hQ hs;refine(aci s f p v rs st V lf wa mo dead P ad ap dr Z known vals W M X n D.length w H' (St.mk' λah ay=>⟨ay.box 4 i4,hQ ah (ay.at 5 i4)⟩) i5 i5 i5 ⟨λ_ h=>h,N.way,N.more⟩ d6 b5 m.1 m.2.1 m.2.2 hs.1 hs.2.1 hk).mono ?_;rintro _ ah ⟨rfl,en,ew,ay,ip⟩;refine⟨i4,(ay.box 0 i4).cell i4,?_⟩;obtain⟨c1,c2⟩:=bb hs;refine .inl ⟨c1,v,i4,?_⟩;rw[<-c2];exact(ay.aes 4 3 i6 i4 i4 ip.1 λk r l K h2=>ip.2 k r l K h2).cE [4]
 have I:Sp h am (MA a dA::CA b G::(Told s f p v rs st V lf wa mo ad ap Z++HA v P::[al 332 st 2 fL ST,al 3 V 1 aq D,al 3 lf 1 aq L,cW jL 2 qv rs rr R,ao f 197 cV])):=bd;have cl:=I.PH 1 i4 λ_=>rfl;have cn:fO am b 1 aD G:=bL.tofO (by
  have:=bL.impl (α':=Sl) (E:=UV) (E':=cu 1 aD) id (λ{h q a b} (hx:UV.p h q a b)=>hx.1) cl
  rwa [List.map_id]at this)
 have ef:=cn.len;refine de (λe0=>?_) (λe0=>?_)
 ·have cd:i0 D=0:=i5
  obtain⟨br,q1,q2,q3⟩:=bL.kD cl;refine aw (λi:Nat=>(i:Int)) (λi h'=>h'=am/\i<=i0 G/\∀j (hj:j<i0 G),j<i->G[j]=aK w) (λi=>i0 G-i) 0 i4 ⟨i4,i5,λj _ hj=>i5⟩ ?_;rintro i a4 ⟨rfl,hi,hz⟩;have bq:fF D.length w dA G []↔∀r∈G,r=aK w:=by rw[cd];exact Mp O
  refine ai (λe=>?_) (λe=>?_)
  ·have Y:i<i0 G:=by have e':(i:Int)<(b.len:Int):=e;omega
   obtain⟨y1,y2⟩:=q3 i i5 Y;have ec:G[i].length=w:=e2 _ (qh _);refine q1.mS i i4 i5 ?_;refine(QH (br[i]'(by omega)) G[i] _ i4 a4 y1 y2 i5).mono ?_;rintro _ b6 ⟨⟨t,rfl,ht⟩,rfl⟩;refine⟨t,i4,ai (λe3=>?_) λe3=>?_⟩
   ·refine .inr ⟨λhc=>?_,i4,I.cE []⟩;have cs:=a8 hc;have ea:D=[]:=List.length_eq_zero_iff.1 cd;rw[ea]at cs;have:=(Mp O).1 cs _ (qh Y);have h0:t.len=0:=ht.2 λx hx=>by rw[this]at hx;exact(wX.1 hx).2
    omega
   ·have h0:t.len=0:=i5
    refine⟨i+1,j1,⟨i4,i5,λj hj es=>?_⟩,i5⟩;by_cases hh:j=i
    ·subst hh;exact List.eq_replicate_iff.2 ⟨ec,ht.1 h0⟩
    ·exact hz j hj i5
  ·have hs:fF D.length w dA G []:=bq.2 λr hr=>by
    obtain⟨j,hj,rfl⟩:=qJ hr;have e':¬(i:Int)<(b.len:Int):=e;exact hz j hj i5
   have b2:=aa.comp (I.cE [2,3,4,5,6,7,8,9,10,11]) (Sp.one (h:=a4) (h':=a4) (A:=emp) (aY.refl _ _) trivial);refine(bl (pre:=[]) (dead:=⟨eH,0,0⟩) (dr:=[]) (X:=[]) (Q:=emp) ?_ (λh' _=>⟨Seq.nil _ _ _ _ _ _,i4,λk r l K _=>by cases K⟩) hs).mono ?_
   ·exact b2
   ·rintro _ b6 ⟨rfl,hc,hm⟩;exact⟨(),i4,s,i4,v,hc,hm⟩
 ·have d0:1<=i0 D:=i5
  refine⟨s,i4,dB f,(I.box 2 i4).cell0 i4,?_⟩;refine(WA f a b dA G dA.length D.length w am (I.box 11 i4) (I.GH 0 i4) cn i4 O.symm e1 e2 d0 i5 i5 a6).mono ?_;rintro _ a4 (⟨hc,r,rfl,R12⟩|⟨hc,rfl,R12⟩)
  ·refine⟨(r,0),i4,bQ (λe=>absurd i4 e) λ_=>?_⟩;have b2:=(I.comp R12).RX 12 i4;obtain⟨dr,da⟩:=aa.SC b2 12 rfl λ_=>rfl;have hs:=pW O e1 e2 a6 hc;refine(bl (pre:=[]) (dead:=r) (dr:=dr) (X:=gh D.length dA G) (Q:=cW (cu 1 aD) 1 bs r dr (gh D.length dA G)) (da.cE [2,3,4,5,6,7,8,9,10,11,12]) (λh' x=>⟨x.1,x.2.1,x.2.2⟩) hs).mono ?_;rintro _ b6 ⟨rfl,hc,hm⟩;exact⟨(),i4,s,i4,v,hc,hm⟩
  ·refine⟨(⟨eH,0,0⟩,10),i4,bQ (λ_=>?_) λe=>absurd e i6⟩;exact .inr ⟨λhh=>hc (a7.2 hh),i4,(I.up R12.ag).cE []⟩
end Go.Qw
namespace Wl
def mY(p:Int×Int×Int)(x:Int×Row):Bool:=bW x.1&&decide ((i0 x.2:Int)=p.2.2)
theorem Va{p:Int×Int×Int}{x:Int×Row}(c:bB p=eR):mY p x=eR↔BN p x:=by have:=(bZ p).1 c;unfold mY;rw[qz,decide_eq_true_iff];exact⟨λ⟨a,b⟩=>⟨a,i5⟩,λh=>⟨h.id,by have:=h.len;omega⟩⟩
def uM(p:Int×Int×Int)(seed:Int)(X:aM)(i:Nat):Row:=(qw i).flatMap λj:Nat=>fV p.2.2.toNat X (dw (bE p).toNat seed (j:Int))
theorem QM(p:Int×Int×Int)(seed:Int)(X:aM)(i:Nat):uM p seed X (i+1)=uM p seed X i++fV p.2.2.toNat X (dw (bE p).toNat seed (i:Int)):=by unfold uM;rw[zQ,zk];simp
open Classical in
noncomputable def lU(p:Int×Int×Int)(seed:Int)(l:List (Int×Row)):Row×Int:=
 if bB p&&l.all (mY p)then
  if dK p seed (l.map qM)then
   if lB (bE p).toNat (dP p seed (l.map qM)) (sC p l)then(uM p seed (gh (bE p).toNat (dP p seed (l.map qM)) (sC p l)) p.1.toNat,0)else([],10)
  else([],9)
 else([],1)
end Wl
namespace Go.Qw
open Go Go.Vc Go.Proofs Wl
theorem WB(p:Pm)(x:Int×Sl)(l:Row)(h:f8)(d:Rd h x.2 1 aD l):ab xt 157 #[lu p,xn #[xi xo x.1,x.2]] h λv h'=>v=xm (mY p (x.1,l))/\Sp h h' []:=by
 refine Lj p x ?_;unfold Dr;refine(Sp.refl h).boxed λj g e=>?_;refine e.boxed λa2 i a=>?_;have f:=d.len;refine⟨x.1,(a.box 1 i4).cell0 i4,ai (λc=>?_) λc=>?_⟩
 ·refine⟨x.1,(a.box 1 i4).cell0 i4,ai (λb=>?_) λb=>?_⟩
  ·refine⟨x.2,(a.box 1 i4).cell i4,p.2.2,(a.box 0 i4).cell i4,?_,.zip a.ag⟩;congr 1;unfold mY bW;rw[g9 (show 0<=x.1 from c),g9 (show x.1<=65535 from b),f];rw[vb];simp
  ·refine⟨?_,.zip a.ag⟩;unfold mY bW;rw[hZ (show¬x.1<=65535 from b)];simp
 ·refine⟨?_,.zip a.ag⟩;unfold mY bW;rw[hZ (show¬0<=x.1 from c)];simp
theorem WC(p:Pm)(b:fz)(x:Int×Sl)(l:Row)(h:f8)(c:cv h b 24 [xi xo p.1,xi xo p.2.1,xi xo p.2.2])(f:Rd h x.2 1 aD l):ab xt 156 #[xn #[xi xo x.1,x.2],xk (dB b)] h λv h'=>v=xm (!mY p (x.1,l))/\Sp h h' []:=by refine HD x b ?_;unfold AA;refine(Sp.refl h).boxed λa2 e a=>?_;refine⟨p,(c.ag a.ag c.lt).aS _ i4,x,(a.box 0 i4).aS _ i4,?_⟩;refine(WB p x l e (Seq.up f a.ag)).mono ?_;rintro _ g ⟨rfl,d⟩;exact⟨_,i4,i4,.zip (a.up d.ag).ag⟩
theorem WD(p:Pm)(d:fz)(l:Sl)(syms:List (Int×Row))(h:f8)(q:cv h d 24 [xi xo p.1,xi xo p.2.1,xi xo p.2.2])(n:dT Jx h l syms)(z:i0 syms<=2^30):ab xt 155 #[l,.func (.func 156) #[] #[xk (dB d)]] h λv h'=>v=xm (!syms.all (mY p))/\Sp h h' []:=by
 refine kL l (156,#[],#[xk (dB d)]) ?_;unfold gD;refine(lO l (156,#[],#[xk (dB d)]) (R:=λv h'=>(∃i:Int,v=xi xo i/\(decide (i>=0)=!syms.all (mY p)))/\Sp h h' []) ?_).mono ?_
 ·unfold ic;obtain⟨j,w,B,u⟩:=bL.kD n;have x:=bL.len n;refine aw (λi:Nat=>(i:Int)) (λi h'=>i<=i0 syms/\(syms.take i).all (mY p)=eR/\Sp h h' []) (λi=>i0 syms-i) 0 i4 ⟨i5,jj,Sp.refl h⟩ ?_;rintro i o ⟨r,a,c⟩;refine ai (λe=>?_) (λe=>?_)
  ·have b:i<i0 syms:=i5
   obtain⟨y,s⟩:=u i i5 b;refine(Seq.up w c.ag).eJ (g:=yv) i i4 i5 (j[i]'(by omega)) i4 ?_;refine fe k8 ?_;refine(WC p d (j[i]'(by omega)) syms[i].2 o (q.ag c.ag q.lt) (Seq.up s c.ag)).mono ?_;rintro _ A ⟨rfl,m⟩;have f:((j[i]'(by omega)).1,syms[i].2)=syms[i]:=by rw[y]
   rw[f];refine⟨_,i4,bh (λk=>?_) λk=>?_⟩
   ·refine⟨⟨i,i4,?_⟩,c.up m.ag⟩;rw[g9 (show(i:Int)>=0 by omega)];have:syms.all (mY p)=eS:=List.all_eq_false.2 ⟨_,qh b,by simpa using k⟩;rw[this];rfl
   ·refine⟨i+1,j1,⟨i5,?_,c.up m.ag⟩,i5⟩;rw[aG _ _ b,List.all_append,a];simpa using k
  ·refine⟨⟨-1,i4,?_⟩,c⟩;rw[qi i5]at a;rw[a];rfl
 ·rintro _ o ⟨⟨i,rfl,r⟩,t⟩;exact⟨i,i4,by rw[r],t⟩
theorem acl(l:Sl)(syms:List (Int×Row))(h:f8)(j:dT Jx h l syms)(w:i0 syms<=2^30):ab xt 159 #[l] h λv h'=>∃r:Sl,v=r/\Sp h h' [al 3 r 1 aq (syms.map qM)]:=by
 refine OS l ?_;unfold HE;obtain⟨c,q,B,p⟩:=bL.kD j;have s:=bL.len j;refine aw (λt:Nat×Sl=>(t.2,(t.1:Int))) (λt h'=>t.1<=i0 syms/\Sp h h' [al 3 t.2 1 aq ((syms.take t.1).map qM)]) (λt=>i0 syms-t.1) (0,⟨eH,0,0⟩) i4 ⟨jj,(Sp.refl h).nil 3 1 aq⟩ ?_;rintro⟨i,o⟩ y ⟨D,d⟩;dsimp only at*;refine ai (λe=>?_) (λe=>?_)
 ·have b:i<i0 syms:=i5
  obtain⟨u,x⟩:=p i i5 b;refine(Seq.up q d.ag).eJ (g:=yv) i i4 i5 (c[i]'(by omega)) i4 ?_;refine d.alloc ac i4 λa z n=>?_;refine n.storeAll ac 1 i4 i4 (yv (c[i]'(by omega))) i4 i4 i4 i4 λh3 k=>?_;refine⟨(c[i]'(by omega)).1,(k.box 1 i4).cell0 i4,?_⟩;refine k.push ac 0 i4 gm i4 i6 (λ_=>rfl) fN (c[i]'(by omega)).1 i4 i6 i9 λm A f=>?_;refine⟨(i+1,m),js,⟨i7,?_⟩,i7⟩;dsimp only;rw[aG _ _ b,qU];rw[u]at f;exact f.cE [0]
 ·have:i=i0 syms:=i5
  subst this;rw[qW]at d;exact⟨o,i4,d⟩
theorem aeB{B:aB}{q h:f8}{As:List HP}(f b:Sl)(c d:Row)(H:aa B q h (al 5 b 1 aD d::As))(u:St B q As λh=>Rd h f 1 aD c)
  (v:i0 c=i0 d) (I:i0 c<=2^30) {K:f8->Prop} (z:∀h',aa B q h' (al 5 b 1 aD (cR 1 c d)::As)->K h'):
  aJ (σ:=Int) (λa E g=>
 Br (decide (a<((f.len:Nat):Int)))
 (∃n:fz,(f.ptr=dB n/\0<=a/\a<((f.len:Nat):Int))/\
 ∃l:Int,cellOf g (n.add (a.toNat*1))=dB (xi xp l)/\
 ∃p:fz,(b.ptr=dB p/\0<=a/\a<((b.len:Nat):Int))/\
 ∃i:Int,cellOf g (p.add (a.toNat*1))=dB (xi xp i)/\
 ∃a28:fz,(b.ptr=dB a28/\0<=a/\a<((b.len:Nat):Int))/\
 af xt (qf 5 (xk (dB (a28.add (a.toNat*1)))) (xi xp (qc xp ((qF (ql xp) i^^^(qF (ql xp) l)).toNat:Nat)))) g λ_ r=>
 E (qc xo (a+(1:Int))) r) (K g)) (0:Int) h:=by
 have A:f.len=i0 c:=(u.at [al 5 b 1 aD d] H).len;refine aw (λk:Nat=>(k:Int)) (λk h'=>k<=i0 c/\aa B q h' (al 5 b 1 aD (zh (λx y=>y^^^x) (c.take k) (d.take k)++d.drop k)::As)) (λk=>i0 c-k) 0 i4 ⟨i5,ln⟩ ?_;rintro k w ⟨F,o⟩;have G:=u.at [_] o;refine ai (λe=>?_) (λe=>?_)
 ·have s:k<i0 c:=i5
  have j:i0 (zh (λx y=>y^^^x) (c.take k) (d.take k))=k:=i9
  have D:i0 (zh (λx y=>y^^^x) (c.take k) (d.take k)++d.drop k)=i0 d:=by rw[qy,j,ze];omega
  refine G.bC k i4 s _ i4 ?_;have m:(zh (λx y=>y^^^x) (c.take k) (d.take k)++d.drop k)[k]'(by omega)=d[k]:=by rw[wm i5];simp[j]
  refine(o.seq 0 i4 λ_=>rfl).bC k i4 i5 _ i4 ?_;rw[m,oA];refine o.set ac 0 i4 (λ_=>rfl) i4 k i4 i5 _ i4 i4 i4 λh3 t=>?_;rw[List.set_cons_zero,IH v]at t;exact⟨k+1,j1,⟨i5,t⟩,i5⟩
 ·have:k=i0 c:=i5
  subst this;rw[qi (qk _),qi i5,zf i5,qN,<-XD]at o;exact z w o
theorem NP(p:Pm)(seed:Int)(l:Sl)(syms:List (Int×Row))(h:f8)(T:dT Jx h l syms)(U:i0 syms<=2^18:=by omega):
  ab xt 93 #[lu p,xi xq seed,l] h λv h'=>∃r:Sl,v=.tuple #[r,xi xo (lU p seed syms).2]/\Sp h h' [al 5 r 1 aD (lU p seed syms).1]:=by
 refine Le p seed l ?_;unfold Dl;refine(Sp.refl h).boxed λJ h1 H1=>?_;have s:∀{h':f8} (e:Int),Sp h h' [ao J 24 [xi xo p.1,xi xo p.2.1,xi xo p.2.2]]->lU p seed syms=([],e)->∃r:Sl,(.tuple #[xj eH 0 0,xi xo e]:Value)=.tuple #[r,xi xo (lU p seed syms).2]/\Sp h h' [al 5 r 1 aD (lU p seed syms).1]:=λe H' he=>by
  rw[he];exact⟨⟨eH,0,0⟩,i4,(H'.nil 5 1 aD).cE [1]⟩
 refine bj ⟨p,(H1.box 0 i4).aS _ i4,?_⟩;refine(dW p h1).mono ?_;rintro _ h2 ⟨rfl,R2⟩;have P:=H1.up R2.ag;refine⟨_,i4,bh (λe=>?_) λa=>?_⟩
 ·exact s 1 P (by unfold lU;rw[e];rfl)
 refine(WD p J l syms h2 (P.box 0 i4) (dT.up T P.ag) i5).mono ?_;rintro _ h3 ⟨rfl,R3⟩;have R:=P.up R3.ag;refine⟨_,i4,bh (λe=>?_) λd=>?_⟩
 ·exact s 1 R (by unfold lU;rw[a,e];rfl)
 refine bj ⟨p,(R.box 0 i4).aS _ i4,?_⟩;refine(acl l syms h3 (dT.up T R.ag) i5).mono ?_;rintro _ h4 ⟨r,rfl,R4⟩;have H4:=R.comp R4;have w:=H4.box 0 i4;refine⟨r,i4,⟨w.cell0 i4,w.cell i4,w.cell i4,trivial⟩,?_⟩;refine(Qs p seed r (syms.map qM) h4 (H4.seq 1 i4 λ_=>rfl) i9).mono ?_;rintro _ h5 ⟨rfl,R5⟩;have N:Sp h h5 [ao J 24 [xi xo p.1,xi xo p.2.1,xi xo p.2.2]]:=(H4.up R5.ag).cE [0];refine⟨_,i4,trivial,bh (λe=>?_) λb=>?_⟩
 ·exact s 9 N (by unfold lU;rw[a,d,e];rfl)
 have D:∀x∈syms,BN p x:=λx g=>(Va a).1 (qL.1 d x g);have a0:=(bZ p).1 a;have ar:=oU a;have hr:cb (dP p seed (syms.map qM))=(bE p).toNat:=by have:=b;unfold dK oH at this;rw[a]at this;simp at this;omega
 refine⟨p,(N.box 0 i4).aS _ i4,?_⟩;refine(aeA p seed l syms (bE p).toNat p.2.2.toNat h5 (dT.up T N.ag) a D i4 i4 U hr).mono ?_;rintro _ h6 (⟨hc,m,rfl,R6⟩|⟨hc,rfl,R6⟩)
 rotate_left
 ·refine⟨(⟨eH,0,0⟩,10),i4,bQ (λ_=>s 10 (N.up R6.ag) ?_) λe=>absurd e i6⟩;unfold lU;rw[a,d,b,g0 hc];rfl
 refine⟨(m,0),i4,bQ (λe=>absurd i4 e) λ_=>?_⟩;obtain⟨X,hX⟩:∃X,X=gh (bE p).toNat (dP p seed (syms.map qM)) (sC p syms):=⟨_,rfl⟩
 have L:lU p seed syms=(uM p seed X p.1.toNat,0):=by unfold lU;rw[a,d,b,f9 hc,hX];rfl
 have ah:aV p.2.2.toNat (sC p syms):=λx g=>by
  rcases qD.1 g with g|g
  ·rw[(wX.1 g).2];simp[aK]
  ·obtain⟨y,hy,rfl⟩:=qt.1 g;exact(D y hy).len
 have V:i0 (dP p seed (syms.map qM))=i0 (sC p syms):=by rw[<-Yv (n:=(bE p).toNat) (seed:=seed) a i4 D,<-Yw (n:=(bE p).toNat) (seed:=seed) (p:=p) (l:=syms) rfl];exact xR
 obtain⟨F,q⟩:=xQ V (jN p seed _) ah hr;rw[<-hX]at R6 F q;have H6:=(N.comp R6).RX 1 i4;obtain⟨O,Q⟩:=aa.SC H6 1 rfl λ_=>rfl;have ap:=(Q.fR 1 i4).1.len;have a3:=(Q.fR 1 i4).2.1;refine⟨p.1,(Q.box 0 i4).cell0 i4,?_⟩;rw[L];have M:Sp h h6 [al 5 ⟨eH,0,0⟩ 1 aD [],ao J 24 [xi xo p.1,xi xo p.2.1,xi xo p.2.2],cW (cu 1 aD) 1 bs m O X]:=(Q.nil 5 1 aD).cE [2,0,1];have K:∀j:Nat,i0 (fV p.2.2.toNat X (dw (bE p).toNat seed (j:Int)))=p.2.2.toNat:=λj=>Xj q F λx g=>nf i5 i5 g;have E:∀i,i0 (uM p seed X i)=i*p.2.2.toNat:=λi=>by
  induction i with
  |zero=>simp[uM]
  |succ i ih=>rw[QM,qy,ih,K,zG]
 refine aw (λt:Nat×Sl=>(t.2,(t.1:Int))) (λt h'=>t.1<=p.1.toNat/\Sp h h' [al 5 t.2 1 aD (uM p seed X t.1),ao J 24 [xi xo p.1,xi xo p.2.1,xi xo p.2.2],cW (cu 1 aD) 1 bs m O X]) (λt=>p.1.toNat-t.1) (0,⟨eH,0,0⟩) i4 ⟨i5,by simpa[uM]using M⟩ ?_;rintro⟨i,o⟩ h8 ⟨hi,M⟩;dsimp only at*;refine ai (λe=>?_) (λe=>?_)
 ·have ay:i<p.1.toNat:=i5
  refine⟨p.2.2,(M.box 1 i4).cell i4,?_⟩;refine M.make ac aD gz i6 0 i4 i4 p.2.2.toNat p.2.2.toNat i5 i5 (qk _) i5 λsm h9 _ _ H9=>?_;refine⟨p,(H9.box 1 i4).aS _ i4,(BZ p seed (i:Int) h9).mono ?_⟩;rintro _ a4 ⟨c,rfl,H⟩;have ad:(bB p&&bW (i:Int))=eR:=by rw[a];unfold bW;simp;omega
  rw[ad,f9 rfl]at H;have A:=(H9.comp H).cE [3,0,1,2,4];refine⟨c,i4,?_⟩;generalize I:dw (bE p).toNat seed (i:Int)=cs at A H;have u:∀x∈cs,0<=x/\x<((bE p).toNat:Int):=λx g=>nf i5 i5 (I▸g);have a2:i0 cs<=20:=by have:=BA (n:=(bE p).toNat) i5 i5 seed (i:Int);rw[I]at this;omega
  have am:=(A.own 4 i4).len;refine aw (λj:Nat=>(j:Int)) (λj h'=>j<=i0 cs/\Sp h h' [al 5 sm 1 aD (fV p.2.2.toNat X (cs.take j)),al 5 o 1 aD (uM p seed X i),ao J 24 [xi xo p.1,xi xo p.2.1,xi xo p.2.2],cW (cu 1 aD) 1 bs m O X,al 3 c 1 aq cs]) (λj=>i0 cs-j) 0 i4 ⟨i5,A⟩ ?_;rintro j ax ⟨hj,f⟩;have z:=pX q F u j hj;refine ai (λe2=>?_) (λe2=>?_)
  ·have B:j<i0 cs:=i5
   have a5:=u _ (qh B);refine(f.seq 4 i4 λ_=>rfl).bC j i4 B _ i4 ?_;have k:cs[j].toNat<i0 X:=i5
   refine(f.fR 3 i4).1.mS cs[j].toNat i5 i5 ?_;have S:i0 (X[cs[j].toNat]'k)=p.2.2.toNat:=q _ (qh _);refine aeB (O[cs[j].toNat]'(by omega)) sm (X[cs[j].toNat]'k) _ f (St.mk' λh' H'=>Fix.row (H'.fR 2 i4) k) (by rw[S,z]) i5 λZ G=>?_;refine⟨j+1,j1,⟨i5,?_⟩,i5⟩;rw[aG _ _ B,Eo,mR k];exact G
  ·have W:j=i0 cs:=i5
   subst W;rw[qW]at f z;refine f.append ac 1 i4 gz Un i4 i6 (λ_=>rfl) (f.seq 0 i4 λ_=>rfl) gV (by rw[E,z];have:i*p.2.2.toNat<=16*24:=Nat.mul_le_mul i5 i5;omega) λo' Z G=>?_;refine⟨(i+1,o'),js,⟨i7,?_⟩,i7⟩;dsimp only;rw[QM,I];exact G.cE [1,2,3]
 ·have Y:i=p.1.toNat:=i5
  subst Y;exact⟨o,i4,M.cE [0]⟩
end Go.Qw
namespace Wl
section
variable {p:Int×Int×Int} {seed:Int} {d:Row} {K H w n:Nat}
def mC(p:Int×Int×Int)(seed:Int)(X:aM)(ids:az):List (Int×Row):=ids.map λi=>(i,fV p.2.2.toNat X (dw (bE p).toNat seed i))
theorem co.size(B:co p seed d K H w n):p.2.2.toNat=w:=by have:=B.s;omega
theorem LI(X:aM)(ids:az):(mC p seed X ids).map qM=ids:=by simp[mC,wD,Function.comp_def]
theorem co.Vb(B:co p seed d K H w n){ids:az}(hid:∀i∈ids,bW i=eR):(mC p seed (dt p seed d) ids).all (mY p)=eR:=qL.2 λx a=>by
 obtain⟨i,b,rfl⟩:=qt.1 a;refine(Va B.may).2 ⟨hid i b,?_⟩;dsimp only;rw[B.size,B.pY];exact B.aav i
theorem NQ{α β:Type}{f g:α->List β}:∀(l:List α),(∀x∈l,f x=g x)->l.flatMap f=l.flatMap g
 |[],_=>rfl
 |a::l,h=>by rw[zg,zg,h a jj,NQ l λx b=>h x oi]
theorem QN(d:Row)(w:Nat):∀i,i*w<=i0 d->(qw i).flatMap (Go.Vc.GI d w)=d.take (i*w)
 |0,_=>jj
 |i+1,h=>by
  have e:(i+1)*w=i*w+w:=zG i w;rw[zQ,zk,QN d w i i5,e,List.take_add];simp[Go.Vc.GI]
theorem co.out(B:co p seed d K H w n):uM p seed (dt p seed d) p.1.toNat=d:=by
 have b:p.1.toNat=K:=by have:=B.k;omega
 unfold uM;rw[b,B.size,B.pY];have:(qw K).flatMap (λj:Nat=>fV w (dt p seed d) (dw n seed (j:Int)))=(qw K).flatMap (Go.Vc.GI d w):=by exact NQ _ λj a=>B.adD (qE.1 a)
 rw[this,QN d w K (by rw[B.len];exact qk _),qi (by rw[B.len];exact qk _)]
theorem co.acm(B:co p seed d K H w n){ids:az}(hid:∀i∈ids,bW i=eR):Wl.fF n w (dP p seed ids) (sC p (mC p seed (dt p seed d) ids)) (dt p seed d):=by
 have l:ids.filter bW=ids:=zU.2 hid;have o:dP p seed ids=bz K H++ids.map (oO n seed):=by
  unfold dP;rw[B.may,f9 i4,l,B.pY];have m:p.1.toNat=K:=by have:=B.k;omega
  have c:p.2.1.toNat=H:=by have:=B.h;omega
  rw[m,c]
 have j:sC p (mC p seed (dt p seed d) ids)=qg H (aK w)++ids.map λi=>fV w (dt p seed d) (dw n seed i):=by
  unfold sC mC;have c:p.2.1.toNat=H:=by have:=B.h;omega
  rw[c,B.size,B.pY,wD];rfl
 refine⟨B.om.1,B.om.2,λi g=>?_⟩;rw[o]at g⊢;rw[j];have b:i0 (bz K H)=H:=by simp[bz]
 simp only[qy,qA,b]at g;by_cases a:i<H
 ·have e:aC (bz K H++ids.map (oO n seed)) i=mq K H i:=by rw[bx i9,wU i5];simp[bz]
  have f:aC (qg H (aK w)++ids.map λi=>fV w (dt p seed d) (dw n seed i)) i=aK w:=by rw[bx i9,wU j9];simp
  rw[e,f];exact B.low a
 ·have e:aC (bz K H++ids.map (oO n seed)) i=oO n seed (ids[i-H]'(by omega)):=by rw[bx i9,wm i5];simp[b]
  have f:aC (qg H (aK w)++ids.map λi=>fV w (dt p seed d) (dw n seed i)) i=fV w (dt p seed d) (dw n seed (ids[i-H]'(by omega))):=by rw[bx i9,wm j9];simp
  rw[e,f,B.sym]
theorem acn{l:List (Int×Row)}(c:∀x∈l,BN p x):aV p.2.2.toNat (sC p l):=λx a=>by
 rcases qD.1 a with a|a
 ·rw[(wX.1 a).2];simp[aK]
 ·obtain⟨y,b,rfl⟩:=qt.1 a;exact(c y b).len
theorem WE(a:bB p=eR){l:List (Int×Row)}(b:∀x∈l,BN p x):i0 (dP p seed (l.map qM))=i0 (sC p l):=by rw[<-Yv (n:=(bE p).toNat) (seed:=seed) a i4 b,<-Yw (n:=(bE p).toNat) (seed:=seed) (p:=p) (l:=l) rfl];exact xR
theorem IM(a:bB p=eR){ids:az}:dK p seed ids=eR↔cb (dP p seed ids)=(bE p).toNat:=by have:=oU a;have:=(bZ p).1 a;unfold dK oH;rw[a,zJ];simp;omega
theorem co.dec(B:co p seed d K H w n){ids:az}(hid:∀i∈ids,bW i=eR)(b:dK p seed ids=eR):lU p seed (mC p seed (dt p seed d) ids)=(d,0):=by have a:∀x∈mC p seed (dt p seed d) ids,BN p x:=λx g=>(Va B.may).1 (qL.1 (B.Vb hid) x g);have h:=B.acm hid;have c:=WE (seed:=seed) B.may a;rw[LI]at c;have f:=(IM B.may).1 b;have e:=mv c (jN p seed ids) (acn a) f (by rw[B.pY,B.size];exact h);unfold lU;rw[B.may,B.Vb hid,LI,b];simp only[Bool.and_self,if_true];rw[f9 e.2,<-e.1,B.out]
theorem aeC(b:bB p=eR){l:List (Int×Row)}(c:l.all (mY p)=eR)(a:dK p seed (l.map qM)=eS):lU p seed l=([],9):=by unfold lU;rw[b,c,a];rfl
end
end Wl
namespace Go.Qw
open Go Go.Vc Go.Proofs Wl
theorem WF(l:Sl)(r:az)(c:fz)(x:Int)(h:f8)(a:cv h c 3 [xi xo x])(d:Rd h l 1 aq r)(b:i0 r<=2^30):
  ab xt 299 #[l,xk (dB c)] h λv h'=>v=xm (decide (x∈r))/\h'=h:=by
 refine Bt l c ?_;unfold pG;refine⟨x,a.cell0 i4,(uK l r x h d b).mono ?_⟩;rintro _ _ ⟨rfl,rfl⟩;exact⟨_,i4,i4,i4⟩
theorem WG(s:Sl)(W:bV)(c:fz)(x:Int)(h:f8)(n:cv h c 3 [xi xo x])(g:fO h s 1 aq W)(q:i0 W<=2^20)(k:∀l∈W,i0 l<=2^20):
  ab xt 298 #[s,.func (.func 299) #[] #[xk (dB c)]] h λv h'=>v=xm (mB W x)/\h'=h:=by
 refine nZ s (299,#[],#[xk (dB c)]) ?_;unfold kh;refine(pL s (299,#[],#[xk (dB c)]) (R:=λv h'=>(∃i:Int,v=xi xo i/\(decide (i>=0)=mB W x))/\h'=h) ?_).mono ?_
 ·unfold lr;have o:=g.len;refine aw (λi:Nat=>(i:Int)) (λi h'=>i<=i0 W/\mB (W.take i) x=eS/\h'=h) (λi=>i0 W-i) 0 i4 ⟨i5,by simp[mB],i4⟩ ?_;rintro i m ⟨j,b,rfl⟩;refine ai (λe=>?_) λe=>?_
  ·have a:i<i0 W:=by have p:(i:Int)<(s.len:Int):=e;omega
   refine g.get i i4 a λr d=>fe k8 ?_;refine(WF r W[i] c x m n d (by have:=k _ (qh a);omega)).mono ?_;rintro _ _ ⟨rfl,rfl⟩;refine⟨_,i4,ai (λf=>⟨⟨i,i4,?_⟩,i4⟩) λf=>?_⟩
   ·rw[g9 (show(i:Int)>=0 by omega)]
    symm
    unfold mB;rw[zV];exact⟨_,qh a,g9 f⟩
   ·refine⟨i+1,j1,⟨i5,?_,i4⟩,i5⟩;unfold mB at b⊢;rw[aG _ _ a,List.any_append,b,List.any_cons,List.any_nil,hZ f];rfl
  ·have p:¬(i:Int)<(s.len:Int):=e;rw[qi i5]at b;exact⟨⟨-1,i4,by rw[b];rfl⟩,i4⟩
 ·rintro _ _ ⟨⟨i,rfl,j⟩,rfl⟩;exact⟨i,i4,by rw[j],i4⟩
abbrev gn(x:iY)(a:aO)(wS gS:Sl):bc:=[xi xo x.o,xi xo x.b,xi xq x.seed,.pointer a,wS,gS]
theorem WH(b:fz)(x:iY)(m:aO)(wS gS:Sl)(h:f8)(k:cv h b 187 (gn x m wS gS))(q:fO h wS 1 aq x.W)(p:i0 x.W<=2^20)(o:∀l∈x.W,i0 l<=2^20)(w:CN x.W<=2^40):
  ab xt 245 #[xk (dB b)] h λv h'=>v=xi xo (dC x.W)/\Sp h h' []:=by
 refine DA (dB b) ?_;unfold sh;refine(Sp.refl h).alloc ac i4 λc u r=>?_;refine r.storeAll ac 0 i4 i4 [xi xo 0] i4 i4 i4 i4 λy s=>?_;refine aw (λ_:Nat=>()) (λi h'=>i<=CN x.W+1/\(∀j,j<i->mB x.W (j:Int)=eR)/\Sp h h' [ao c 3 [xi xo i]]) (λi=>CN x.W+1-i) 0 i4 ⟨i5,λj n=>i5,s⟩ ?_;rintro i h3 ⟨z,a,d⟩;refine⟨b,i4,wS,(k.ag d.ag k.lt).cell i4,(WG wS x.W c i h3 (d.box 0 i4) (q.up d.ag) p o).mono ?_⟩;rintro _ _ ⟨rfl,rfl⟩;refine⟨_,i4,bD (λe=>?_) λe=>?_⟩
 ·have:=Pt e;refine⟨i,(d.box 0 i4).cell0 i4,d.storeAll ac 0 i4 i4 [xi xo (qc xo ((i:Int)+1))] i4 i4 i4 i4 λt f=>?_⟩;refine⟨i+1,i4,⟨i5,λj n=>?_,?_⟩,i5⟩
  ·by_cases g:j=i
   ·rw[g];exact e
   ·exact a j i5
  ·have f:Sp h t [ao c 3 [xi xo (qc xo ((i:Int)+1))]]:=f;rw[ak _]at f;exact f
 ·refine⟨i,(d.box 0 i4).cell0 i4,?_,.zip d.ag⟩;rw[Zm e a]
section
variable {B:aB} {h0 h:f8} {As:List HP} {a pw:fz} {offs:Int} {da:List aO} {w:Pow} {ds:aF} {m:aE}
theorem aeD{k:Int}{d:bo}{b:fz}(y:ci)(n:Int)(e:aX ds k=dB d)(j:iL da k=dB b)(g:dG h y m)(f:dg m)(H:aa B h0 h (bI a pw da offs w ds m::As)):
  ab xt 118 #[xk (dB b),gb y,xi xo n] h λv h'=>v=xm (fy m d n)/\Sp h h' []:=by
 obtain⟨s,i,o,c,l⟩:=UL e j H;exact Iq s i y m n o c c.len l g f
theorem QO{k:Int}{d:bo}{b:fz}(c:aX ds k=dB d)(j:iL da k=dB b)(H:aa B h0 h (bI a pw da offs w ds m::As)):
  ∃p A2:HP,aa B h0 h (ki pw b d::dE 92 pw w::p::A2::As)/\
   ∀h' l g,aa B h0 h' (ki pw b g::dE 92 pw l::p::A2::As)->aa B h0 h' (bI a pw da offs l (bS ds k g) m::As):=by
 obtain⟨y,H⟩:=gN H;obtain⟨n,rfl,v⟩:=kO c;have u:ds[n]?=dB (dB d):=by
  unfold aX at c;rw[f9 i5,qm]at c;cases hX:ds[n]? with
  |none=>rw[hX]at c;cases c
  |some o=>rw[hX]at c;exact congrArg dB c
 obtain⟨q,f,s⟩:=Go.Vc.aa.jT H u;have i:q=b:=by unfold iL at j;rw[f9 i5,qm,f]at j;injection j
 subst i;refine⟨_,_,s,λh' l g t=>?_⟩;have r:=Go.Vc.aa.sI (k:=bJ) (n:=n) f t;have e:bS ds (n:Int) g=ds.set n (dB g):=by simp only[bS,qm]
 rw[e];exact mA r
theorem aeE{k:Int}{d:bo}{b:fz}(y:ci)(n:Int)(l:St B h0 As λh=>dG h y m)(f:dg m)(e:aX ds k=dB d)(g:iL da k=dB b)(H:aa B h0 h (bI a pw da offs w ds m::As)):
  ab xt 119 #[xk (dB b),gb y,xi xo n] h λv h'=>v=xi xo (gd m w d n).1/\aa B h0 h' (bI a pw da offs (gd m w d n).2.1 (bS ds k (gd m w d n).2.2) m::As):=by
 obtain⟨o,A2,i,c⟩:=QO e g H;refine(Qt y m n l.cons.cons f i).mono ?_;rintro _ h' ⟨rfl,j⟩;exact⟨i4,c _ _ _ j⟩
theorem ZB{k:Int}{d:bo}{b:fz}(x:Sl)(row:ba)(g:Rd h x 1 aD row)(e:i0 row<=2^20)(f:aX ds k=dB d)(i:iL da k=dB b)(H:aa B h0 h (bI a pw da offs w ds m::As)):
  ab xt 102 #[xk (dB b),x] h λv h'=>v=xi xo (d.append w row).1/\aa B h0 h' (bI a pw da offs (d.append w row).2.1 (bS ds k (d.append w row).2.2) m::As):=by
 obtain⟨n,A2,j,c⟩:=QO f i H;refine(Kn x row j g e).mono ?_;rintro _ h' ⟨rfl,l⟩;exact⟨i4,c _ _ _ l⟩
theorem aeF(s:Sl)(l:az)(e:St B h0 As λh=>Rd h s 1 aq l)(c:i0 l<=2^30)(b:∀x∈l,0<=x/\x<64)(H:aa B h0 h (bI a pw da offs w ds m::As)):
  ab xt 103 #[.func (.func 35) #[xk (dB a)] #[],s] h λv h'=>v=xi xo (eW (cA l) w ds).1/\aa B h0 h' (bI a pw da offs (eW (cA l) w ds).2.1 (eW (cA l) w ds).2.2 m::As):=by
 obtain⟨y,H⟩:=gN H;refine(Np s l e.cons c b H).mono ?_;rintro _ h' ⟨rfl,d⟩;exact⟨i4,mA d⟩
theorem WI(y:ci)(s:Sl)(c:az)(o b:Int)(l:dG h y m)(i:dg m)(f:Rd h s 1 aq c)(e:i0 c<=2^10)(g:∀k∈c,∃d,aX ds k=dB d)(H:aa B h0 h (bI a pw da offs w ds m::As)):
  ab xt 63 #[.func (.func 35) #[xk (dB a)] #[],s,gb y,xi xo o,xi xo b] h λv h'=>∃(r:Sl) (j:List (Int×Sl)),v=r/\Sp h h' [cW jw 2 piv r j (dN m ds c o b)]:=by
 obtain⟨x,H⟩:=gN H;exact AT y m s c o b l i f e g H
end
end Go.Qw
namespace Wl
open Go Go.Qw Go.Vc
theorem rL(ds:aF)(k:Int)(d e:bo):bS (bS ds k d) k e=bS ds k e:=by unfold bS;rw[List.set_set]
theorem aeG{live:az}{s i:Int}(g:0<=i↔s∈live)(k:0<=i->live[i.toNat]?=dB s/\∀j,j<i.toNat->live[j]?≠dB s)(h3:-1<=i):dD live s=i:=by
 unfold dD;by_cases c:0<=i
 ·obtain⟨a,b⟩:=k c;have e:live.idxOf? s=dB i.toNat:=by unfold List.idxOf?;rw[List.findIdx?_eq_some_iff_getElem];obtain⟨l,m⟩:=qn.1 a;refine⟨l,by rw[m];simp,λj f=>?_⟩;have:=b j f;rw[qd i5]at this;simpa using λh=>this (by rw[h])
  rw[e];dsimp only;omega
 ·have e:live.idxOf? s=eH:=by unfold List.idxOf?;rw[List.findIdx?_eq_none_iff];intro z d;have:s∉live:=λh=>c (g.2 h);simp only[beq_eq_false_iff_ne];rintro rfl;exact this d
  rw[e];dsimp only;omega
theorem WJ(k:Int)(b:ba):i0 (eE k b)<=64:=by
 by_cases h:1<=k/\k<=255/\b.length<=55
 ·rw[mM h.1 h.2.1 h.2.2];exact qk _
 ·unfold eE;rw[g0 h];exact zE _
theorem Px{o:az}{i:Int}(a:o≠[])(e:0<=i:=by omega):dU o i∈o:=by unfold dU;rw[g0 λh=>h.elim a λh=>i5];have b:0<i0 o:=List.length_pos_iff.2 a;have c:=Int.emod_nonneg i (show(i0 o:Int)≠0 by omega);have d:=wW i (show(0:Int)<i0 o by omega);unfold Ju;rw[qe,qd i5];exact qh _
theorem Fc{o b s:Int}{l:az}(h:s∈cQ o b l):s∈l:=by
 unfold cQ at h;split at h
 ·exact((Iv _ _ _).1 h).1
 ·cases h
theorem aeH(l:az):i0 (il l)<=i0 l:=by
 have:=Uu l l.length
 rwa [qi (qk _)]at this
theorem ZC(o b:Int)(l:az):i0 (cQ o b l)<=i0 l:=by
 unfold cQ;split
 ·rw[(ES _ _).length_eq];exact aeH l
 ·simp
structure lV (m:aE) (live:az) (x:iY):Prop where
 seed:0<=x.seed/\x.seed<4294967296
 ev:aV m.p.2.2.toNat x.M
 ml:i0 x.M=(bE m.p).toNat
 wl:i0 x.W=i0 live
 rl:∀l∈x.W,i0 l<=2^12+i0 x.got
 top:CN x.W<=2^20+i0 x.got
 gl:i0 x.got<=64
 gi:∀s∈x.got,s∈live
end Wl
namespace Go.Qw
open Go Go.Vc Go.Proofs Wl
theorem _root_.Go.Vc.Seq.agO{h:f8}{p:aB}{s:Sl}{rs:List Sl}(i:Vc.Seq h p s 1 bs rs){n:Nat}(e:n<i0 rs){a:fz}(g:s.ptr=dB a):cellOf h (a.add (n*1))=dB (.slice rs[n].ptr rs[n].len rs[n].cap):=by
 obtain⟨b,o,c,j,f⟩:=i.elem n rs[n] (qd e);rw[g]at c;injection c with c
 subst c;have d:=f.1;rw[add_eq,Nat.add_zero]at d;rw[add_eq];exact d
def sU(s:Sl)(W:bV)(k:Nat)(rs:List Sl):HP:=HP.all (al 22 s 1 bs rs::(bG 3 1 aq rs W).set k emp)
section
variable {B:aB} {h0 h:f8} {As:List HP} {s:Sl} {W:bV} {k:Nat}
theorem Vd(H:aa B h0 h As):aa B h0 h (emp::As):=(H.comp (.one (A:=emp) (aY.refl _ _) trivial)).bw
theorem aiw(e:k<i0 W)(H:aa B h0 h (dQ 22 s 3 1 aq W::As)):
  ∃(rs:List Sl) (p:fz) (b:i0 rs=i0 W),s.ptr=dB p/\s.len=i0 W/\aa B h0 h (al 3 (rs[k]'(by omega)) 1 aq W[k]::sU s W k rs::As):=by
 obtain⟨rs,b,a⟩:=H.IZ;have j:=(a.own 0 i4).len;obtain⟨p,o,i,_⟩:=(a.seq 0 rfl λ_=>rfl).elem k (rs[k]'(by omega)) (qd i5);have f:aa B h0 h (al 22 s 1 bs rs::emp::(bG 3 1 aq rs W++As)):=(Vd a).aZ 2 [1,0];have d:=(aa.Xt k (iZ b k e) f).aZ 3 [0,2];have g:aa B h0 h ([al 3 (rs[k]'(by omega)) 1 aq W[k]]++((al 22 s 1 bs rs::(bG 3 1 aq rs W).set k emp)++As)):=d;have c:=g.front;rw[qq]at c;exact⟨rs,_,b,i,i5,(aa.closeAll _ c).bw⟩
theorem agP{rs:List Sl}{p:fz}(i:Nat){Bs:List HP}(e:i0 rs=i0 W)(d:k<i0 W)(a:s.ptr=dB p)(c:Bs[i]?=dB (sU s W k rs))(H:aa B h0 h Bs):cellOf h (p.add (k*1))=dB (.slice (rs[k]'(by omega)).ptr (rs[k]'(by omega)).len (rs[k]'(by omega)).cap):=by have b:=(H.cons i c).pf;exact(b.seq 0 i4 λ_=>rfl).agO i5 a
theorem aix{rs:List Sl}{v:Sl}{l:az}{x:Int}(f:i0 rs=i0 W)(n:k<i0 W)(i:x=k)(H:aa B h0 h (al 3 v 1 aq l::sU s W k rs::As)){K:f8->Prop}
  (g:∀h',aa B h0 h' (dQ 22 s 3 1 aq (W.set k l)::As)->K h'):
  ∃a:fz,(s.ptr=dB a/\0<=x/\x<((s.len:Nat):Int))/\af xt (qf 22 (xk (dB (a.add (x.toNat*1)))) (xj v.ptr v.len v.cap)) h λ_ h'=>K h':=by
 have j:=H.oh.pf;refine j.set ac 0 i4 (λ_=>rfl) i4 k i i5 v i4 i4 i4 λh' m=>g h' ?_;have c:i0 (bG 3 1 aq rs W)=i0 W:=by simp[bG];omega
 have d:=m.cons (i0 W+1) (A:=al 3 v 1 aq l) (by
  show((al 22 s 1 bs (rs.set k v)::((bG 3 1 aq rs W).set k emp++al 3 v 1 aq l::As)))[i0 W+1]?=_;rw[List.getElem?_cons_succ,qj mn];simp[c])
 have e:((al 22 s 1 bs (rs.set k v)::((bG 3 1 aq rs W).set k emp++al 3 v 1 aq l::As))).set (i0 W+1) emp=al 22 s 1 bs (rs.set k v)::((bG 3 1 aq rs W).set k emp++emp::As):=by rw[List.set_cons_succ,List.set_append_right _ _ mn];simp[c]
 have d:aa B h0 h' (al 3 v 1 aq l::al 22 s 1 bs (rs.set k v)::((bG 3 1 aq rs W).set k emp++emp::As)):=by rw[<-e];exact d
 have b:=(aa.Js k i5 ((Vd d).aZ 3 [1,0,2])).aZ 2 [0];have b:aa B h0 h' (al 22 s 1 bs (rs.set k v)::((bG 3 1 aq rs W).set k (al 3 v 1 aq l)++emp::As)):=b;rw[kW f]at b;exact(aa.Ma nn b).aZ 2 [0]
end
def rN(b a:fz)(x:iY):HP:=HP.ex λp:Sl×Sl=>(ao b 187 (gn x (dB a) p.1 p.2)).sep ((dQ 22 p.1 3 1 aq x.W).sep (al 3 p.2 1 aq x.got))
section
variable {B:aB} {h0 h:f8} {As:List HP} {b cd:fz} {x:iY}
theorem Jy(H:aa B h0 h (rN b cd x::As)):∃wS gS:Sl,aa B h0 h (al 3 gS 1 aq x.got::dQ 22 wS 3 1 aq x.W::ao b 187 (gn x (dB cd) wS gS)::As):=by obtain⟨⟨wS,gS⟩,H⟩:=H.ta;exact⟨wS,gS,H.tH.tH⟩
theorem AX{wS gS:Sl}(H:aa B h0 h (al 3 gS 1 aq x.got::dQ 22 wS 3 1 aq x.W::ao b 187 (gn x (dB cd) wS gS)::As)):aa B h0 h (rN b cd x::As):=
 aa.yT (F:=λp:Sl×Sl=>(ao b 187 (gn x (dB cd) p.1 p.2)).sep ((dQ 22 p.1 3 1 aq x.W).sep (al 3 p.2 1 aq x.got))) (wS,gS) H.mi.mi
end
section
variable {B:aB} {h0 h:f8} {As:List HP} {a pw:fz} {offs:Int} {da:List aO} {w:Pow} {ds:aF} {m:aE}
theorem aco{c b j:fz}(y:ci)(E g:Sl)(live set:az)(t most k:Int)(x:iY)(hm:bN m=eR)(hp:bB m.p=eR)(hl:i0 live<=64)(bl:∀k∈live,∃d,aX ds k=dB d)(hk:0<=k/\k<=2^40)(F:lV m live x)(ek:i0 set<=2^20)
  (hS:St B h0 As λh=>dG h y m/\Rd h E 1 aq live/\Rd h g 1 aq set/\AN h j m.p x.seed x.M)
  (H:aa B h0 h (bI a pw da offs w ds m::ao c 109 (cK a y E t most k)::rN b j x::As)):
  ab xt 193 #[xk (dB c),xk (dB b),g] h λv h'=>v=xi xo (dS m live set w ds x).1/\
   aa B h0 h' (bI a pw da offs (dS m live set w ds x).2.1 (dS m live set w ds x).2.2.1 m::ao c 109 (cK a y E t most (if(dS m live set w ds x).1=0 then k+1 else k))::rN b j (dS m live set w ds x).2.2.2::As):=by
 refine Bl (dB c) (dB b) g ?_;unfold pB;obtain⟨wS,gS,H1⟩:=Jy (H.aZ 3 [2,0,1]);have ar:=H1.box 2 i4;have c0:=H1.box 4 i4;have d8:fO h wS 1 aq x.W:=aa.Fs (H1.aZ 2 [1,0]) λ_=>rfl;have ew:=F.gl;have cr:∀l∈x.W,i0 l<=2^13:=λl hl=>by have:=F.rl l hl;omega
 obtain⟨id,hid⟩:∃id,id=dC x.W:=⟨_,rfl⟩
 have ed:id<=2^21:=by have:=UQ x.W;have:=F.top;omega
 refine(WH b x (dB j) wS gS h ar d8 p7 (λl hl=>by have:=cr l hl;omega) (by have:=F.top;omega)).mono ?_;rintro _ h1 ⟨rfl,R1⟩;rw[<-hid];have H1:=H1.up R1.ag;have d9:=(hS.cons.cons.cons.cons.cons).here H1;obtain⟨es,b2,e5,el⟩:=d9;have ar:=H1.box 2 i4;have c0:=H1.box 4 i4;refine⟨(id:Int),i4,b,i4,x.o,ar.cell0 i4,b,i4,x.b,ar.cell i4,c,i4,E,c0.cell i4,(Kt x.o x.b E live h1 b2).mono ?_⟩;rintro _ h2 ⟨r8,rfl,R2⟩;obtain⟨o,ho⟩:∃o,o=cQ x.o x.b live:=⟨_,rfl⟩
 rw[<-ho]at R2;have eq:i0 o<=64:=by rw[ho];exact za (ZC _ _ _) hl
 have H2:=H1.ca R2;have et:=(H2.own 0 i4).len;refine⟨r8,i4,trivial,?_⟩;obtain⟨cell,N⟩:∃cell,cell=cL (x.Kz m id):=⟨_,rfl⟩
 have e0:dS m live set w ds x=(let r:=fS m live set o cell id w ds (qw o.length);(r.1.1,r.1.2.1,r.1.2.2,if r.1.1=0 then x.uL id r.2.1 r.2.2 else x)):=by rw[ho,N,hid];rfl
 rw[e0];refine aw (λi:Nat=>(i:Int)) (λi h'=>i<=i0 o/\fS m live set o cell id w ds (qw o.length)=fS m live set o cell id w ds ((qw o.length).drop i)/\aa B h0 h' (al 3 r8 1 aq o::al 3 gS 1 aq x.got::dQ 22 wS 3 1 aq x.W::ao b 187 (gn x (dB j) wS gS)::bI a pw da offs w ds m::ao c 109 (cK a y E t most k)::As)) (λi=>i0 o-i) 0 i4 ⟨i5,i4,H2⟩ ?_;rintro i h3 ⟨hi,cl,T⟩;refine ai (λe=>?_) λe=>?_
 rotate_left
 ·have en:i=i0 o:=i5
  have hd:(qw o.length).drop i=[]:=List.drop_eq_nil_of_le i9;rw[cl,hd];refine⟨i4,?_⟩;have T:=T.rest;exact((AX (T.aZ 5 [0,1,2,3,4])).aZ 3 [1,2,0])
 have cc:i<i0 o:=i5
 have hd:(qw o.length).drop i=i::(qw o.length).drop (i+1):=by rw[qQ i9,y9]
 rw[ak ((id:Int)+(i:Int))];refine(Xy r8 o ((id:Int)+i) h3 (T.seq 0 i4 λ_=>rfl)).mono ?_;rintro _ _ ⟨rfl,rfl⟩;obtain⟨s,hs⟩:∃s,s=dU o ((id:Int)+i):=⟨_,rfl⟩
 rw[<-hs];have dr:s∈o:=by rw[hs];exact Px (by intro h;rw[h]at cc;simp at cc)
 have a3:s∈live:=Fc (by rw[<-ho];exact dr);obtain⟨d,Z⟩:=bl s a3;have O:fS m live set o cell id w ds (qw o.length)=(if dD live s∈set∨fy m d 1=eS then fS m live set o cell id w ds ((qw o.length).drop (i+1))else(iu m cell w ds s d,dD live s,s)):=by rw[cl,hd,fS,<-hs,Z]
 obtain⟨d5,b5,c4,e6⟩:=(hS.cons.cons.cons.cons.cons.cons).here T;have Y:=T.box 5 i4;refine⟨_,i4,c,i4,E,Y.cell i4,(index_spec E live s _ b5 i5).mono ?_⟩;rintro _ _ ⟨⟨G,rfl,q1,q2,q3,q4⟩,rfl⟩;have a6:dD live s=G:=aeG q1 q2 q4;have eb:0<=G:=q1.2 a3;refine⟨G,i4,c,i4,dB a,Y.cell0 i4,(QD s (T.aZ 5 [4])).mono ?_⟩;rintro _ _ ⟨rfl,rfl⟩;obtain⟨dp,ax⟩:=XB Z (T.aZ 5 [4]);rw[ax];refine⟨_,i4,?_⟩;refine bY (λ(_:Unit) h'=>¬(dD live s∈set∨fy m d 1=eS)/\aa B h0 h' (al 3 r8 1 aq o::al 3 gS 1 aq x.got::dQ 22 wS 3 1 aq x.W::ao b 187 (gn x (dB j) wS gS)::bI a pw da offs w ds m::ao c 109 (cK a y E t most k)::As)) ?_ ?_
 ·refine(uK g set G _ c4 i5).mono ?_;rintro _ _ ⟨rfl,rfl⟩;refine⟨_,i4,ai (λe1=>?_) λe1=>?_⟩
  ·refine⟨i+1,j1,⟨i5,?_,T⟩,i5⟩;rw[O,f9 (.inl (by rw[a6];exact e1))]
  ·refine⟨c,i4,y,Y.cells 1 _ i4,(aeD y 1 Z ax d5 (jY hm) (T.aZ 5 [4])).mono ?_⟩;rintro _ h4 ⟨rfl,R4⟩;refine⟨_,i4,bh (λe2=>?_) λe2=>?_⟩
   ·refine⟨i+1,j1,⟨i5,?_,T.up R4.ag⟩,i5⟩;rw[O,f9 (.inr e2)]
   ·exact⟨λh=>h.elim (λh=>e1 (by rw[<-a6];exact h)) (λh=>by rw[h]at e2;cases e2),T.up R4.ag⟩
 rintro _ h5 ⟨dn,H5⟩;rw[O,g0 dn];dsimp only;have cn:=H5.box 5 i4;have H5:aa B h0 h5 (bI a pw da offs w ds m::al 3 gS 1 aq x.got::dQ 22 wS 3 1 aq x.W::ao b 187 (gn x (dB j) wS gS)::ao c 109 (cK a y E t most k)::As):=H5.aZ 6 [4,1,2,3,5];refine⟨c,i4,y,cn.cells 1 _ i4,(aeE y 1 (hS.cons.cons.cons.cons.mono λ_ q=>q.1) (jY hm) Z ax H5).mono ?_⟩;rintro _ h6 ⟨rfl,H6⟩;obtain⟨mk,bd⟩:∃mk,mk=gd m w d 1:=⟨_,rfl⟩
 rw[<-bd]at H6⊢;refine⟨_,i4,bQ (λe3=>?_) λe3=>?_⟩
 ·have ea:iu m cell w ds s d=(mk.1,mk.2.1,bS ds s mk.2.2):=by unfold iu;rw[<-bd];dsimp only;rw[f9 e3]
  rw[ea];dsimp only;rw[g0 e3,g0 e3];refine⟨i4,?_⟩;exact(AX (H6.aZ 5 [1,2,3,0,4])).aZ 3 [1,2,0]
 have c1:aX (bS ds s mk.2.2) s=dB mk.2.2:=by rw[io (oD H).1 Z,f9 rfl]
 obtain⟨n,cp⟩:∃n,n=mk.2.2.append mk.2.1 cell:=⟨_,rfl⟩
 have ea:iu m cell w ds s d=(n.1,n.2.1,bS (bS ds s mk.2.2) s n.2.2):=by unfold iu;rw[<-bd];dsimp only;rw[g0 λh=>h e3,<-cp,rL]
 rw[ea];dsimp only;obtain⟨dd,eg,eh,c9⟩:=(hS.cons.cons.cons.cons.cons).here H6;have P:=H6.box 3 i4;have cs:=H6.box 4 i4;have br:∀{h':f8},cv h' c 109 (cK a y E t most k)->dG h' y m->an h' ((c.add 1).add 2) 0 [xi xo m.p.1,xi xo m.p.2.1,xi xo m.p.2.2]:=λ{h'} hb hy=>by
  have c7:y.2.2.1=m.p.1:=congrArg (·.1) hy.p;have d4:y.2.2.2.1=m.p.2.1:=congrArg (·.2.1) hy.p;have d3:y.2.2.2.2.1=m.p.2.2:=congrArg (·.2.2) hy.p;rw[addr_add,<-c7,<-d4,<-d3];exact hb.cells 3 _ i4
 refine bY (λ(z:fz) h'=>∃A:Sl,aa B h0 h' (ao z 170 (bT (x.o,x.b,(id:Int),m.p.1,m.p.2.1,m.p.2.2,x.seed,A))::al 5 A 1 aD (x.Kz m id).data::bI a pw da offs mk.2.1 (bS ds s mk.2.2) m::al 3 gS 1 aq x.got::dQ 22 wS 3 1 aq x.W::ao b 187 (gn x (dB j) wS gS)::ao c 109 (cK a y E t most k)::As)) ?_ ?_
 ·have c5:=br cs dd;have K:∀{h':f8},cv h' b 187 (gn x (dB j) wS gS)->cv h' c 109 (cK a y E t most k)->dG h' y m->av.ok [(b.add 2,xi xq x.seed),((c.add 1).add 2,xi xo m.p.1),(((c.add 1).add 2).add 1,xi xo m.p.2.1),(((c.add 1).add 2).add 2,xi xo m.p.2.2),(b.add 1,xi xo x.b),(b,xi xo x.o)] h':=λ{h'} hb hc hy=>by
   have q:=br hc hy;exact⟨hb.cell i4,q.1,q.2.1,q.2.2.1,hb.cell i4,hb.cell0 i4,trivial⟩
  refine⟨b,i4,x.o,P.cell0 i4,b,i4,x.b,P.cell i4,c,i4,m.p,c5,b,i4,x.seed,P.cell i4,b,i4,dB j,P.cell i4,?_,?_⟩
  ·refine(CL j m.p x.seed id x.M (bE m.p).toNat m.p.2.2.toNat h6 c9 hp (by have:=(bZ m.p).1 hp;omega) i4 F.ev F.ml).mono ?_;rintro _ h7 ⟨A,rfl,R7⟩;have H7:=H6.ca R7;refine⟨A,i4,K (H7.box 4 i4) (H7.box 5 i4) ((hS.cons.cons.cons.cons.cons.cons).here H7).1,H7.alloc ac i4 λc8 h8 Q=>?_⟩;have Q:=Q.bw;refine⟨K (Q.box 5 i4) (Q.box 6 i4) ((hS.cons.cons.cons.cons.cons.cons.cons).here Q).1,?_⟩;refine Q.storeAll ac 0 i4 i4 (bT (x.o,x.b,(id:Int),m.p.1,m.p.2.1,m.p.2.2,x.seed,A)) i4 i4 i4 i4 λh9 H9=>⟨trivial,A,H9⟩
  ·refine H6.alloc ac i4 λc8 h8 Q=>?_;have Q:=Q.bw;obtain⟨du,_,_,ec⟩:=(hS.cons.cons.cons.cons.cons.cons).here Q;refine⟨⟨(Q.box 4 i4).cell i4,K (Q.box 4 i4) (Q.box 5 i4) du⟩,?_⟩;refine(CL j m.p x.seed id x.M (bE m.p).toNat m.p.2.2.toNat h8 ec hp (by have:=(bZ m.p).1 hp;omega) i4 F.ev F.ml).mono ?_;rintro _ h7 ⟨A,rfl,R7⟩;have H7:=Q.ca R7;refine⟨A,i4,K (H7.box 5 i4) (H7.box 6 i4) ((hS.cons.cons.cons.cons.cons.cons.cons).here H7).1,?_⟩;refine H7.storeAll ac 1 i4 i4 (bT (x.o,x.b,(id:Int),m.p.1,m.p.2.1,m.p.2.2,x.seed,A)) i4 i4 i4 i4 λh9 H9=>⟨trivial,A,H9.oh⟩
 rintro z d7 ⟨A,a7⟩;have b9:=a7.box 0 i4;refine⟨(x.o,x.b,(id:Int),m.p.1,m.p.2.1,m.p.2.2,x.seed,A),b9.aS _ i4,?_⟩;have a5:=a7.seq 1 i4 λ_=>rfl;refine(tq (x.o,x.b,(id:Int),m.p.1,m.p.2.1,m.p.2.2,x.seed,A) (x.Kz m id) d7 ⟨⟨i4,i4,i4,i4,i4,F.seed⟩,a5⟩).mono ?_;rintro _ dk ⟨a9,rfl,c2⟩;rw[<-N]at c2;have a2:=a7.ca c2;have d2:i0 cell<=2^20:=by
  rw[N];unfold cL;split
  ·exact za (WJ _ _) i6
  ·simp
 have a2:aa B h0 dk (bI a pw da offs mk.2.1 (bS ds s mk.2.2) m::al 5 a9 1 aD cell::al 3 gS 1 aq x.got::dQ 22 wS 3 1 aq x.W::ao b 187 (gn x (dB j) wS gS)::ao c 109 (cK a y E t most k)::As):=a2.aZ 8 [3,0,4,5,6,7];refine⟨a9,i4,(ZB a9 cell (a2.seq 1 i4 λ_=>rfl) d2 c1 ax a2).mono ?_⟩;rintro _ b3 ⟨rfl,V⟩;rw[<-cp]at V⊢;have V:aa B h0 b3 (al 3 gS 1 aq x.got::dQ 22 wS 3 1 aq x.W::ao b 187 (gn x (dB j) wS gS)::bI a pw da offs n.2.1 (bS (bS ds s mk.2.2) s n.2.2) m::ao c 109 (cK a y E t most k)::As):=V.aZ 6 [2,3,4,0,5];refine⟨_,i4,bQ (λe4=>?_) λe4=>?_⟩
 ·rw[g0 e4,g0 e4];refine⟨i4,?_⟩;exact(AX V).aZ 3 [1,2,0]
 rw[e4,f9 i4,f9 rfl];obtain⟨f,ad⟩:∃f:Nat,G=(f:Int):=⟨G.toNat,i5⟩
 have J:f<i0 x.W:=p7
 have bb:x.uL id (dD live s) s={x with W:=x.W.set f (x.W[f]++[(id:Int)]),got:=x.got++[s]}:=by unfold iY.uL;rw[a6,ad,qm,qe,qd J];rfl
 rw[bb];refine bY (λ(_:Unit) h'=>aa B h0 h' (bI a pw da offs n.2.1 (bS (bS ds s mk.2.2) s n.2.2) m::ao c 109 (cK a y E t most k)::rN b j {x with W:=x.W.set f (x.W[f]++[(id:Int)]),got:=x.got++[s]}::As)) ?_ ?_
 ·obtain⟨rs,pp,b0,b1,dy,S⟩:=aiw J (V.aZ 2 [1,0]);have ef:=cr _ (qh J);have S:aa B h0 b3 (al 3 (rs[f]'(by omega)) 1 aq x.W[f]::sU wS x.W f rs::al 3 gS 1 aq x.got::ao b 187 (gn x (dB j) wS gS)::bI a pw da offs n.2.1 (bS (bS ds s mk.2.2) s n.2.2) m::ao c 109 (cK a y E t most k)::As):=S;have L:∀{h':f8} {r r':HP} {Cs:List HP},aa B h0 h' (r::sU wS x.W f rs::r'::ao b 187 (gn x (dB j) wS gS)::Cs)->cv h' b 187 (gn x (dB j) wS gS)/\cellOf h' (pp.add (G.toNat*1))=dB (.slice (rs[f]'(by omega)).ptr (rs[f]'(by omega)).len (rs[f]'(by omega)).cap):=λ{h' r r' Cs} R=>
   ⟨R.box 3 i4,by rw[ad,qm];exact agP 1 b0 J b1 i4 R⟩
  have X:=S.box 3 i4;have fin:∀{h':f8} {v v':Sl} {Cs:List HP},aa B h0 h' (al 3 v 1 aq (x.W[f]++[(id:Int)])::sU wS x.W f rs::al 3 v' 1 aq (x.got++[s])::ao b 187 (gn x (dB j) wS gS)::bI a pw da offs n.2.1 (bS (bS ds s mk.2.2) s n.2.2) m::ao c 109 (cK a y E t most k)::As)->
    av.ok [(b.add 4,xj wS.ptr wS.len wS.cap),(b.add 4,xj wS.ptr wS.len wS.cap)] h'/\∃a55:fz,(wS.ptr=dB a55/\0<=G/\G<(wS.len:Int))/\af xt (qf 22 (xk (dB (a55.add (G.toNat*1)))) (xj v.ptr v.len v.cap)) h' λ_ a4=>
     av.ok [] a4/\∃b7:fz,(dB b=dB b7)/\af xt (qf 22 (xk (dB (b7.add 5))) (xj v'.ptr v'.len v'.cap)) a4 λ_ a1=>av.ok [] a1/\
      aa B h0 a1 (bI a pw da offs n.2.1 (bS (bS ds s mk.2.2) s n.2.2) m::ao c 109 (cK a y E t most k)::rN b j {x with W:=x.W.set f (x.W[f]++[(id:Int)]),got:=x.got++[s]}::As):=λ{h' v v' Cs} R=>by
   have b6:=(L R).1;refine⟨⟨b6.cell i4,b6.cell i4,trivial⟩,aix b0 J ad R λa4 c6=>⟨trivial,b,i4,c6.storeAt ac 2 i4 i4 i4 i4 i4 (show 5<6 by decide) λa1 bk=>⟨trivial,?_⟩⟩⟩;have bk:aa B h0 a1 (dQ 22 wS 3 1 aq (x.W.set f (x.W[f]++[(id:Int)]))::al 3 v' 1 aq (x.got++[s])::ao b 187 (gn x (dB j) wS v')::bI a pw da offs n.2.1 (bS (bS ds s mk.2.2) s n.2.2) m::ao c 109 (cK a y E t most k)::As):=bk;exact(AX (x:={x with W:=x.W.set f (x.W[f]++[(id:Int)]),got:=x.got++[s]}) (wS:=wS) (gS:=v') (bk.aZ 5 [1,0,2,3,4])).aZ 3 [1,2,0]
  have ay:∀{h':f8} {r r':HP} {Cs:List HP},aa B h0 h' (r::sU wS x.W f rs::r'::ao b 187 (gn x (dB j) wS gS)::Cs)->
    av.ok [(b.add 5,xj gS.ptr gS.len gS.cap),(b.add 4,xj wS.ptr wS.len wS.cap),(b.add 4,xj wS.ptr wS.len wS.cap)] h':=λR=>⟨(L R).1.cell i4,(L R).1.cell i4,(L R).1.cell i4,trivial⟩
  have ah:∀{h':f8} {r r':HP} {Cs:List HP},aa B h0 h' (r::sU wS x.W f rs::r'::ao b 187 (gn x (dB j) wS gS)::Cs)->
    av.ok [(b.add 5,xj gS.ptr gS.len gS.cap),(pp.add (G.toNat*1),.slice (rs[f]'(by omega)).ptr (rs[f]'(by omega)).len (rs[f]'(by omega)).cap),(b.add 4,xj wS.ptr wS.len wS.cap),(b.add 4,xj wS.ptr wS.len wS.cap)] h':=λR=>⟨(L R).1.cell i4,(L R).2,(L R).1.cell i4,(L R).1.cell i4,trivial⟩
  refine⟨b,i4,wS,X.cell i4,b,i4,wS,X.cell i4,pp,⟨b1,eb,(by rw[ad,dy];exact Int.ofNat_lt.2 J)⟩,rs[f]'(by omega),(L S).2,b,i4,gS,X.cell i4,?_,?_⟩
  ·refine S.lit ac aq gm i4 [(id:Int)] i4 (show 1*1<=2^20 by decide) i4 λv51 a8 I=>?_;have I:aa B h0 a8 (al 3 v51 1 aq [(id:Int)]::al 3 (rs[f]'(by omega)) 1 aq x.W[f]::sU wS x.W f rs::al 3 gS 1 aq x.got::ao b 187 (gn x (dB j) wS gS)::bI a pw da offs n.2.1 (bS (bS ds s mk.2.2) s n.2.2) m::ao c 109 (cK a y E t most k)::As):=I.bw;refine⟨ah I.rest,?_,?_⟩
   ·refine I.append ac 1 i4 gm ⟨_,_,i4,i4⟩ i4 i6 (λ_=>rfl) (I.seq 0 i4 λ_=>rfl) fN i9 λdx a0 u=>⟨ay u.rest,?_⟩
    refine u.lit ac aq gm i4 [s] i4 (show 1*1<=2^20 by decide) i4 λv53 bq D=>?_;have D:aa B h0 bq (al 3 v53 1 aq [s]::al 3 dx 1 aq (x.W[f]++[(id:Int)])::sU wS x.W f rs::al 3 gS 1 aq x.got::ao b 187 (gn x (dB j) wS gS)::bI a pw da offs n.2.1 (bS (bS ds s mk.2.2) s n.2.2) m::ao c 109 (cK a y E t most k)::As):=(D.bw).aZ 3 [0,2];refine⟨ay D.rest,?_⟩;refine D.append ac 3 i4 gm ⟨_,_,i4,i4⟩ i4 i6 (λ_=>rfl) (D.seq 0 i4 λ_=>rfl) fN i9 λe7 cf U=>?_;exact fin (Cs:=[]) U.rest
   ·refine I.lit ac aq gm i4 [s] i4 (show 1*1<=2^20 by decide) i4 λd6 a0 u=>?_;have u:aa B h0 a0 (al 3 d6 1 aq [s]::al 3 v51 1 aq [(id:Int)]::al 3 (rs[f]'(by omega)) 1 aq x.W[f]::sU wS x.W f rs::al 3 gS 1 aq x.got::ao b 187 (gn x (dB j) wS gS)::bI a pw da offs n.2.1 (bS (bS ds s mk.2.2) s n.2.2) m::ao c 109 (cK a y E t most k)::As):=u.bw;refine⟨ah u.rest.rest,?_⟩;refine u.append ac 2 i4 gm ⟨_,_,i4,i4⟩ i4 i6 (λ_=>rfl) (u.seq 1 i4 λ_=>rfl) fN i9 λej bq D=>⟨ay D.rest.rest,?_⟩
    refine D.append ac 4 i4 gm ⟨_,_,i4,i4⟩ i4 i6 (λ_=>rfl) (D.seq 0 i4 λ_=>rfl) fN i9 λei cf U=>?_;exact fin (Cs:=[]) U.rest.rest
  ·refine S.lit ac aq gm i4 [s] i4 (show 1*1<=2^20 by decide) i4 λcq a8 I=>?_;have I:aa B h0 a8 (al 3 cq 1 aq [s]::al 3 (rs[f]'(by omega)) 1 aq x.W[f]::sU wS x.W f rs::al 3 gS 1 aq x.got::ao b 187 (gn x (dB j) wS gS)::bI a pw da offs n.2.1 (bS (bS ds s mk.2.2) s n.2.2) m::ao c 109 (cK a y E t most k)::As):=I.bw;refine⟨ah I.rest,?_⟩;refine I.lit ac aq gm i4 [(id:Int)] i4 (show 1*1<=2^20 by decide) i4 λd1 a0 u=>?_;have u:aa B h0 a0 (al 3 d1 1 aq [(id:Int)]::al 3 cq 1 aq [s]::al 3 (rs[f]'(by omega)) 1 aq x.W[f]::sU wS x.W f rs::al 3 gS 1 aq x.got::ao b 187 (gn x (dB j) wS gS)::bI a pw da offs n.2.1 (bS (bS ds s mk.2.2) s n.2.2) m::ao c 109 (cK a y E t most k)::As):=u.bw;refine⟨ah u.rest.rest,?_⟩;refine u.append ac 2 i4 gm ⟨_,_,i4,i4⟩ i4 i6 (λ_=>rfl) (u.seq 0 i4 λ_=>rfl) fN i9 λer bq D=>⟨ay D.rest.rest,?_⟩
   refine D.append ac 4 i4 gm ⟨_,_,i4,i4⟩ i4 i6 (λ_=>rfl) (D.seq 1 i4 λ_=>rfl) fN i9 λep cf U=>?_;exact fin (Cs:=[]) U.rest.rest
 rintro _ eo b4;refine⟨c,i4,k,(b4.box 1 i4).cell i4,c,i4,b4.storeAt ac 1 i4 i4 i4 i4 i4 (show 12<13 by decide) λd0 am=>⟨i4,?_⟩⟩;have am:aa B h0 d0 (bI a pw da offs n.2.1 (bS (bS ds s mk.2.2) s n.2.2) m::ao c 109 (cK a y E t most (qc xo (k+1)))::rN b j {x with W:=x.W.set f (x.W[f]++[(id:Int)]),got:=x.got++[s]}::As):=am;rw[ak _]at am;exact am
end
end Go.Qw
namespace Wl
open Go Go.Qw Go.Vc
theorem LJ{m:aE}{live set order:az}{c:ba}{id:Nat}{w:Pow}{ds:aF}:∀{l:List Nat},(fS m live set order c id w ds l).1.1=0->
  ∃i∈l,∃d,aX ds (dU order ((id:Int)+i))=dB d/\dD live (dU order ((id:Int)+i))∉set/\fy m d 1=eR/\fS m live set order c id w ds l=(iu m c w ds (dU order ((id:Int)+i)) d,dD live (dU order ((id:Int)+i)),dU order ((id:Int)+i))
 |[],h=>k5
 |i::l,h=>by
  unfold fS at h⊢;dsimp only at h⊢;cases hd:aX ds (dU order ((id:Int)+i))with
  |none=>
   rw[hd]at h;obtain⟨j,b,r⟩:=LJ h;exact⟨j,qC _ b,r⟩
  |some d=>
   rw[hd]at h;dsimp only at h⊢;by_cases a:dD live (dU order ((id:Int)+i))∈set∨fy m d 1=eS
   ·rw[f9 a]at h⊢;obtain⟨j,b,r⟩:=LJ h;exact⟨j,qC _ b,r⟩
   ·rw[g0 a];exact⟨i,qH,d,hd,λh=>a (.inl h),by cases hf:fy m d 1 with|true=>rfl|false=>exact absurd (.inr hf) a,rfl⟩
theorem acp{m:aE}{c:ba}{w:Pow}{ds:aF}{s:Int}{d:bo}:∃a,(iu m c w ds s d).2.2=bS ds s a:=by
 unfold iu;dsimp only;split
 ·exact⟨_,i4⟩
 ·exact⟨_,rL _ _ _ _⟩
theorem LK{m:aE}{live set order:az}{c:ba}{id:Nat}{w:Pow}{ds:aF}(a:i0 ds=64){P:Int->Prop}(b:∀k,P k->∃d,aX ds k=dB d):∀{l:List Nat},∀k,P k->∃d,aX (fS m live set order c id w ds l).1.2.2 k=dB d
 |[],k,hk=>b k hk
 |i::l,k,hk=>by
  unfold fS;dsimp only;cases hd:aX ds (dU order ((id:Int)+i))with
  |none=>exact LK a b k hk
  |some d=>
   dsimp only;split
   ·exact LK a b k hk
   ·obtain⟨f,e⟩:=acp (m:=m) (c:=c) (w:=w) (ds:=ds) (s:=dU order ((id:Int)+i)) (d:=d);dsimp only;rw[e,io a hd];split
    ·exact⟨_,i4⟩
    ·exact b k hk
theorem Ve{W:bV}{n:Nat}(h:∀l∈W,∀x∈l,x.toNat<=n):CN W<=n:=by
 have c:∀l:az,(∀x∈l,x.toNat<=n)->l.foldr (λx a=>max a x.toNat) 0<=n:=by
  intro l
  induction l with
  |nil=>intro _;exact zE _
  |cons x l ih=>
   intro h;rw[List.foldr_cons];have f:=ih λy d=>h y (qC _ d);have g:=h x qH;omega
 exact c _ λx b=>by
  obtain⟨l,e,b⟩:=vk.1 b;exact h l e x b
theorem Fe{m:aE}{live set:az}{w:Pow}{ds:aF}{x:iY}(F:lV m live x)(D:i0 x.got<64):lV m live (dS m live set w ds x).2.2.2/\((dS m live set w ds x).1=0->∃s,s∈live/\(dS m live set w ds x).2.2.2=x.uL (dC x.W) (dD live s) s)/\((dS m live set w ds x).1≠0->(dS m live set w ds x).2.2.2=x):=by
 unfold dS;dsimp only;obtain⟨r,p⟩:∃r,r=fS m live set (cQ x.o x.b live) (cL (x.Kz m (dC x.W))) (dC x.W) w ds (qw (cQ x.o x.b live).length):=⟨_,rfl⟩
 rw[<-p];by_cases h:r.1.1=0
 ·rw[f9 h];obtain⟨i,n,d,E,H,h3,q⟩:=LJ (by rw[<-p];exact h);rw[<-p]at q;have n:=qE.1 n;have u:dU (cQ x.o x.b live) ((dC x.W:Int)+i)∈live:=Fc (Px (by intro h;rw[h]at n;simp at n));have A:r.2.1=dD live (dU (cQ x.o x.b live) ((dC x.W:Int)+i)):=by rw[q]
  have y:r.2.2=dU (cQ x.o x.b live) ((dC x.W:Int)+i):=by rw[q]
  refine⟨?_,λ_=>⟨_,u,by rw[A,y]⟩,λt=>absurd h t⟩;have j:(x.uL (dC x.W) r.2.1 r.2.2).got.length=i0 x.got+1:=by simp[iY.uL]
  have c:∀l∈(x.uL (dC x.W) r.2.1 r.2.2).W,l∈x.W∨l=x.W.getD r.2.1.toNat []++[(dC x.W:Int)]:=λl g=>List.mem_or_eq_of_mem_set g;have e:∀k,x.W.getD k []∈x.W∨x.W.getD k []=[]:=λk=>by
   by_cases v:k<i0 x.W
   ·rw[ge [] v];exact .inl (qh v)
   ·exact .inr (by rw[qe,qV i5];rfl)
  have B:=UQ x.W;have G:=F.top;refine⟨F.seed,F.ev,F.ml,by show(x.W.set _ _).length=_;rw[List.length_set];exact F.wl,λl g=>?_,?_,i5,λs f=>?_⟩
  ·rw[j];rcases c l g with h|rfl
   ·have:=F.rl l h;omega
   ·rw[qy,List.length_singleton];rcases e r.2.1.toNat with h|h
    ·have:=F.rl _ h;omega
    ·rw[h,yh];omega
  ·rw[j];refine Ve λl g z a=>?_;rcases c l g with h|rfl
   ·have:=Ps (vk.2 ⟨l,h,a⟩);omega
   ·rcases qD.1 a with a|a
    ·rcases e r.2.1.toNat with h|h
     ·have:=Ps (vk.2 ⟨_,h,a⟩);omega
     ·rw[h]at a;cases a
    ·rw[qx.1 a];omega
  ·have f:s∈x.got++[r.2.2]:=f;rcases qD.1 f with h|h
   ·exact F.gi s h
   ·rw[qx.1 h,y];exact u
 ·rw[g0 h];exact⟨F,λt=>absurd t h,λ_=>rfl⟩
theorem acq(p:Pm)(seed:Int)(W:bV)(t:Int):(ir p seed W t).1.length<=64:=by
 unfold ir;split
 ·split
  ·split
   ·exact zE _
   ·rename_i h _;split
    ·rename_i g b;obtain⟨y,a,rfl⟩:=qt.1 (yi b);dsimp only;rw[lp,(Ak a).1];omega
    ·exact zE _
  ·exact zE _
 ·exact zE _
end Wl
namespace Go.Qw
open Go Go.Vc Go.Proofs Wl
section
variable {B:aB} {h0 h:f8} {As:List HP} {a pw:fz} {offs:Int} {da:List aO} {w:Pow} {ds:aF} {m:aE}
theorem ZD{c b O:fz}(y:ci)(D:Sl)(live:az)(t most k:Int)(x:iY)(hm:bN m=eR)(hp:bB m.p=eR)(hl:i0 live<=64)(N:∀k∈live,∃d,aX ds k=dB d)(hk:0<=k/\k<=2^39)(F:lV m live x)(L:x.got=[])(I:0<=most/\most<=64)
  (hS:St B h0 As λh=>dG h y m/\Rd h D 1 aq live/\AN h O m.p x.seed x.M)
  (H:aa B h0 h (bI a pw da offs w ds m::ao c 109 (cK a y D t most k)::rN b O x::As)):
  ab xt 127 #[xk (dB c),xk (dB b)] h λv h'=>v=xi xo (cY m live t most 65 w ds x).1/\
   aa B h0 h' (bI a pw da offs (cY m live t most 65 w ds x).2.1 (cY m live t most 65 w ds x).2.2.1 m::ao c 109 (cK a y D t most (k+(cY m live t most 65 w ds x).2.2.2.got.length))::rN b O (cY m live t most 65 w ds x).2.2.2::As):=by
 refine Bh (dB c) (dB b) ?_;unfold py;obtain⟨G,hG⟩:∃G,G=cY m live t most 65 w ds x:=⟨_,rfl⟩
 rw[<-hG];refine aw (λ_:Nat×Pow×aF×iY=>()) (λz h'=>z.1+i0 z.2.2.2.got=65/\(i0 z.2.2.2.got:Int)<=most/\G=cY m live t most z.1 z.2.1 z.2.2.1 z.2.2.2/\lV m live z.2.2.2/\z.2.2.2.seed=x.seed/\z.2.2.2.M=x.M/\(∀k∈live,∃d,aX z.2.2.1 k=dB d)/\
  aa B h0 h' (bI a pw da offs z.2.1 z.2.2.1 m::ao c 109 (cK a y D t most (k+i0 z.2.2.2.got))::rN b O z.2.2.2::As)) (λz=>z.1) (65,w,ds,x) i4 ⟨by rw[L];rfl,by rw[L];exact I.1,hG,F,i4,i4,N,by rw[L];show aa B h0 h (_::ao c _ (cK a y D t most (k+0))::_);rw[Int.add_zero];exact H⟩ ?_
 rintro⟨f,w1,n,j⟩ h1 ⟨hf,ax,g,K,es,eM,i,J⟩;dsimp only at hf ax g K es eM i J⊢;obtain⟨f',rfl⟩:∃f',f=f'+1:=⟨f-1,i5⟩
 have Z:=J.box 1 i4;obtain⟨wS,gS,H2⟩:=Jy (J.aZ 3 [2,0,1]);have S:=H2.box 2 i4;have a3:fO h1 wS 1 aq j.W:=aa.Fs (H2.aZ 2 [1,0]) λ_=>rfl;have ar:dT (bL (cu 1 aq) 1 bs) h1 wS j.W:=by obtain⟨rs,q1,q2,q3⟩:=a3;exact⟨rs,q1,q2,q3⟩
 obtain⟨hy,a4,hM⟩:=(hS.cons.cons.cons).here J;have ap:y.2.2.1=m.p.1:=congrArg (·.1) hy.p;have a2:y.2.2.2.1=m.p.2.1:=congrArg (·.2.1) hy.p;have a1:y.2.2.2.2.1=m.p.2.2:=congrArg (·.2.2) hy.p;have am:an h1 ((c.add 1).add 2) 0 [xi xo m.p.1,xi xo m.p.2.1,xi xo m.p.2.2]:=by rw[addr_add,<-ap,<-a2,<-a1];exact Z.cells 3 _ i4
 refine⟨c,i4,m.p,am,b,i4,j.seed,S.cell i4,b,i4,wS,S.cell i4,c,i4,t,Z.cell i4,?_⟩;refine(NJ m.p j.seed wS j.W t h1 ar (by rw[K.wl];omega) (λl hl=>by have:=K.rl l hl;have:=K.gl;omega) (Int.le_refl _)).mono ?_;rintro _ h2 ⟨r,rfl,R2⟩;obtain⟨q,X⟩:∃q,q=ir m.p j.seed j.W t:=⟨_,rfl⟩
 rw[<-X]at R2⊢;rw[cY]at g;dsimp only at g;rw[<-X]at g;have Y:=J.up R2.ag;refine⟨(r,q.2.1,q.2.2),i4,trivial,?_⟩;dsimp only;refine bQ (λe=>?_) λe=>?_
 ·rw[f9 e]at g;rw[g];exact⟨i4,Y⟩
 rw[g0 λh=>h e]at g;refine bh (λe1=>?_) λe1=>?_
 ·rw[f9 e1]at g;rw[g];exact⟨i4,Y⟩
 rw[g0 n4]at g;obtain⟨a5,ah,H4⟩:=Jy (Y.aZ 3 [2,0,1]);have R:=H4.box 2 i4;have u:=(H4.own 0 i4).len;have ad:=Y.box 1 i4;refine⟨b,i4,ah,R.cell i4,c,i4,most,ad.cell i4,ai (λT=>?_) λT=>?_⟩
 ·rw[u]at T;rw[f9 T]at g;rw[g];exact⟨i4,Y⟩
 rw[u]at T;rw[g0 T]at g;have H5:aa B h0 h2 (bI a pw da offs w1 n m::ao c 109 (cK a y D t most (k+i0 j.got))::rN b O j::EA (cu 1 aq) r q.1::As):=(J.ca R2).aZ 4 [1,2,3,0];have a0:i0 q.1<=2^20:=by have:=acq m.p j.seed j.W t;rw[X];omega
 have ay:St B h0 (EA (cu 1 aq) r q.1::As) λh=>dG h y m/\Rd h D 1 aq live/\Rd h r 1 aq q.1/\AN h O m.p j.seed j.M:=λBs h' H'=>by
  obtain⟨z1,z2,z3⟩:=hS.cons Bs h' H';rw[es,eM];exact⟨z1,z2,(St.fj (A:=EA (cu 1 aq) r q.1) (Q:=λh=>Rd h r 1 aq q.1) 0 i4 λh' X=>X) Bs h' H',z3⟩
 refine(aco y D r live q.1 t most (k+i0 j.got) j hm hp hl i (by have:=K.gl;omega) K a0 ay H5).mono ?_;rintro _ h6 ⟨rfl,o⟩;obtain⟨g1,g2,g3⟩:=Fe (set:=q.1) (w:=w1) (ds:=n) K i5;have U:∀k∈live,∃d,aX (dS m live q.1 w1 n j).2.2.1 k=dB d:=λk hk=>LK (P:=λk=>k∈live) (oD J).1 i k hk;obtain⟨Q,hQ⟩:∃Q,Q=dS m live q.1 w1 n j:=⟨_,rfl⟩
 rw[<-hQ]at o g1 g2 g3 U g⊢;have o:=o.aZ 4 [0,1,2];refine⟨_,i4,bQ (λE=>?_) λE=>?_⟩
 ·rw[f9 E]at g;rw[g];refine⟨i4,?_⟩;rw[g0 E]at o;rw[g3 E]at o⊢;exact o
 ·rw[g0 λh=>h E]at g;rw[f9 E]at o;obtain⟨s,hs,eg⟩:=g2 E;have V:i0 Q.2.2.2.got=i0 j.got+1:=by rw[eg];simp[iY.uL]
  refine⟨(f',Q.2.1,Q.2.2.1,Q.2.2.2),i4,⟨?_,?_,g,g1,?_,?_,U,?_⟩,i7⟩
  ·dsimp only;omega
  ·dsimp only;omega
  ·dsimp only;rw[eg];exact es
  ·dsimp only;rw[eg];exact eM
  ·dsimp only;rw[V,Int.natCast_add,<-Int.add_assoc];exact o
end
end Go.Qw
namespace Wl
open Go
structure Pg where
 seq:Int
 num:Int
 many:Int
 bears:ba
 cell:ba
def aiy(x c:ba):Pg:=⟨dz (x.take 4),((x.getD 4 0).toNat:Int),((x.getD 5 0).toNat:Int),(x.drop 7).take (x.getD 6 0).toNat,c⟩
def DU(c:ba):Option Pg:=
 match kE c with
 |some (k,x)=>if k=2/\(x.getD 6 0).toNat<=48/\(x.drop (7+(x.getD 6 0).toNat)).all (λb=>decide (b=0))=eR then dB (aiy x c)else eH
 |none=>eH
theorem ZE{seq c a:Int}{b:ba}(g:0<=seq/\seq<4294967296)(q:0<=c/\c<256)(h3:0<=a/\a<256)(r:i0 b<=48):DU (kv seq c a b)=dB ⟨seq,c,a,b,kv seq c a b⟩:=by
 have m:i0 (cg seq 4++([b8 c,b8 a,b8 b.length]++b))=7+i0 b:=l6
 obtain⟨x,e⟩:∃x,x=cg seq 4++([b8 c,b8 a,b8 b.length]++b)++qg (55-i0 (cg seq 4++([b8 c,b8 a,b8 b.length]++b))) 0:=⟨_,rfl⟩
 have o:kE (kv seq c a b)=dB (2,x):=by unfold kv;rw[BD,e]
 have d:=Mf seq;have f:x.getD 6 0=b8 b.length:=by rw[e,d];rfl
 have n:x.getD 5 0=b8 a:=by rw[e,d];rfl
 have j:x.getD 4 0=b8 c:=by rw[e,d];rfl
 have k:x.take 4=cg seq 4:=by rw[e,d];rfl
 have i:x.drop 7=b++qg (55-(7+i0 b)) 0:=by rw[e,m,d];rfl
 have h:((b8 (i0 b:Int)).toNat)=i0 b:=by have:=tJ (i0 b:Int);omega
 unfold DU;rw[o];dsimp only;have p:(b8 (i0 b:Int)).toNat<=48:=i5
 rw[f9 ⟨i4,by rw[f];exact p,by
  rw[f,h,<-List.drop_drop,i,List.drop_left];exact qL.2 λy l=>g9 (vq l)⟩]
 unfold aiy;rw[k,j,n,f,i,PM g.1 g.2,h,List.take_left];have:=tJ c;have:=tJ a;congr 2<;>omega
def pgN(m:aE)(i:Nat):Pg:=⟨m.seq,i,iM (gO m),((gO m).drop (48*i)).take 48,kv m.seq i (iM (gO m)) (((gO m).drop (48*i)).take 48)⟩
theorem QP(m:aE):bm m=(qw (iM (gO m))).map λi=>(pgN m i).cell:=rfl
theorem agQ{m:aE}(a:bN m=eR):iM (gO m)<=9:=by
 have:=Go.Qw.IB a;unfold bm at this
 rwa [qA,zx]at this
theorem ZF{m:aE}(a:bN m=eR){i:Nat}(d:i<iM (gO m)):DU (pgN m i).cell=dB (pgN m i):=by have c:=agQ a;have b:=((fg m).1 ((cF m).1 a).1).1;exact ZE ⟨i5,i5⟩ ⟨i5,i5⟩ ⟨i5,i5⟩ i9
section
variable {p:Int×Int×Int} {seed:Int} {d:Row} {K H w n:Nat}
end
theorem WK{n:Nat}{A:aM}(l:aV n A)(d:cb A=n){y:Nat->UInt8}(u:∀r∈A,bU (λj=>aN r j) y n=0):∀i,i<n->y i=0:=by
 intro i p;let Y:aM:=(qw n).map λc=>[y c]
 have o:aV 1 (qg A.length (aK 1)):=λr d=>by rw[(wX.1 d).2];rfl
 have a:i0 A=i0 (qg A.length (aK 1)):=jj
 have e:∀j,j<i0 A->aC (qg A.length (aK 1)) j=aK 1:=λj g=>by rw[bx k9];simp
 have f:∀z:Nat->UInt8,(∀r∈A,bU (λj=>aN r j) z n=0)->fF n 1 A (qg A.length (aK 1)) ((qw n).map λc=>[z c]):=λz t=>by
  have b:aV 1 ((qw n).map λc=>[z c]):=λr d=>by obtain⟨c,_,rfl⟩:=qt.1 d;rfl
  refine⟨jj,b,λj g=>?_⟩;rw[e j g];refine eT (n:=1) (iQ b jj _ n (qk _)) i4 λk w=>?_;obtain rfl:k=0:=i5
  rw[gY b jj _ 0 n (qk _),cy,<-t _ (mem_row g)];refine fY n (λ_ _=>rfl) λc s=>?_;rw[bx (by simpa using s)];simp[aN]
 have q:=(mv a l o d (f (λ_=>0) λr _=>dot_zero' r n)).1;have v:=(mv a l o d (f y u)).1;have h:aN (aC ((qw n).map λc=>[y c]) i) 0=aN (aC ((qw n).map λ_=>[(0:UInt8)]) i) 0:=congrArg (λm=>aN (aC m i) 0) (v.trans q.symm);rw[bx q6,bx q6]at h;simpa[aN]using h
where
 dot_zero' (r:Row):∀n,bU (λj=>aN r j) (λ_=>(0:UInt8)) n=0
  |0=>rfl
  |n+1=>by rw[bU,dot_zero' r n,Gf.mul_zero];rfl
section
variable {p:Int×Int×Int} {seed:Int} {d:Row} {K H w n:Nat}
theorem agR{ids c:az}(h:∀i∈ids,i∈c):∀r∈dP p seed ids,r∈dP p seed c:=λr a=>by
 unfold dP at*;cases hm:bB p
 ·rw[hm]at a;simp at a
 ·rw[hm,f9 rfl,qD]at a;rw[f9 i4,qD];rcases a with a|a
  ·exact .inl a
  ·obtain⟨i,b,rfl⟩:=qt.1 a;rw[qI]at b;exact .inr (qt.2 ⟨i,qI.2 ⟨h i b.1,b.2⟩,i4⟩)
theorem nA(d:bB p=eR){ids a:az}(h:∀i∈ids,i∈a)(f:dK p seed ids=eR):dK p seed a=eR:=by
 have c:=(IM d).1 f;refine(IM d).2 ?_;have k:=lI (jN p seed a);by_cases b:cb (dP p seed a)<(bE p).toNat
 ·exfalso;obtain⟨y,⟨i,j,g⟩,e⟩:=kernel (jN p seed a) b;exact g (WK (jN p seed ids) c (λr c=>e r (agR h r c)) i j)
 ·omega
end
end Wl
namespace Go.Qw
open Go Go.Vc Go.Proofs Wl
theorem mf(a b:di):oG a b=eR↔a.object=b.object/\a.block=b.block/\a.id=b.id:=by unfold oG;rw[decide_eq_true_eq]
theorem XF{l:List di}{i:Nat}(a:i<i0 l)(b:pS l i=eR):l[i]∈pT l:=by unfold pT;exact qt.2 ⟨i,qI.2 ⟨qE.2 a,b⟩,ge _ a⟩
theorem aeI{l:List di}{r:di}(h:r∈l):∃b∈pT l,oG b r=eR:=by
 have e:∀i (a:i<i0 l),∃b∈pT l,oG b l[i]=eR:=by
  intro i
  induction i with
  |zero=>intro a;exact⟨l[0],XF a (by unfold pS;simp),(mf _ _).2 ⟨i4,i4,i4⟩⟩
  |succ i ih=>
   intro a;cases hk:pS l (i+1)with
   |true=>exact⟨_,XF a hk,(mf _ _).2 ⟨i4,i4,i4⟩⟩
   |false=>
    obtain⟨b,f,d⟩:=ih i5;unfold pS at hk;rw[Bool.or_eq_false_iff,Bool.not_eq_false']at hk;have c:=hk.2;rw[Nat.add_sub_cancel,ge _ a,ge _ (show i<i0 l by omega)]at c;rw[mf]at d c;exact⟨b,f,(mf _ _).2 ⟨by rw[d.1,c.1],by rw[d.2.1,c.2.1],by rw[d.2.2,c.2.2]⟩⟩
 obtain⟨i,a,rfl⟩:=qJ h;exact e i a
theorem mD{m:aE}{r:di}:fB m r=eR↔jv r=eR/\r.p=m.p/\∃x∈m.aH,x.object=r.object/\r.block<(x.tries.length:Int)/\r.seed=ce r.object r.block (x.tries.getD r.block.toNat 0):=by unfold fB;rw[qz,qz,decide_eq_true_eq,zV];simp only[qz,decide_eq_true_eq]
theorem Vf{m:aE}(e:bN m=eR){x y:Wl.bM}(f:x∈m.aH)(d:y∈m.aH)(h:x.object=y.object):x=y:=by
 have a:=zm.1 ((cF m).1 e).2.2.2.2.2.2;obtain⟨i,c,rfl⟩:=qJ f;obtain⟨j,b,rfl⟩:=qJ d;rcases wM i j with hl|rfl|hl
 ·exact absurd h (a i j c b hl)
 ·rfl
 ·exact absurd h.symm (a j i b c hl)
theorem acr{m:aE}(e:bN m=eR){x y:Wl.bM}(f:x∈m.aH)(d:y∈m.aH)(h:x.name=y.name):x=y:=by
 have a:=zm.1 ((cF m).1 e).2.2.2.2.2.1;obtain⟨i,c,rfl⟩:=qJ f;obtain⟨j,b,rfl⟩:=qJ d;rcases wM i j with hl|rfl|hl
 ·exact absurd h (Iz (a i j c b hl))
 ·rfl
 ·exact absurd h.symm (Iz (a j i b c hl))
def fp(m:aE)(C:Int->ba)(o b:Int):ba:=(splitB m.p (C o)).getD b.toNat []
def Ff(m:aE)(C:Int->ba)(r:di):Prop:=r.data=uI m.p r.seed (fp m C r.object r.block) r.id
theorem aeJ{m:aE}{C:Int->ba}{r a:di}(v:bN m=eR)(n:fB m r=eR)(s:fB m a=eR)(g:Ff m C r)(h:Ff m C a)(e:oG a r=eR):a=r:=by
 obtain⟨_,q,i,c,w,_,p⟩:=mD.1 n;obtain⟨_,k,x2,d,u,_,t⟩:=mD.1 s;rw[mf]at e;obtain⟨b,f,j⟩:=e;have o:i=x2:=Vf v c d (by rw[w,u,b]);subst o;have l:a.seed=r.seed:=by rw[p,t,b,f]
 unfold Ff at g h;cases r;cases a;simp only at*;subst b f j l;rw[q,k,g,h]
structure eI (m:aE) (C:Int->ba) (c:ba):Prop where
 old:∀r,eF c=dB r->r.object<m.next
 tru:∀r,eF c=dB r->fB m r=eR->Ff m C r
 page:∀g,DU c=dB g->g.seq<=m.seq/\(g.seq=m.seq->c∈bm m)
theorem nB{m:aE}{C:Int->ba}{l:cw}(p:bN m=eR)(j:∀c∈l,eI m C c){c:ba}(k:c∈l){r:di}(h:eF c=dB r)(d:fB m r=eR):r∈cU m l:=by have b:r∈(l.filterMap (jo m)).mergeSort rS:=List.mem_mergeSort.2 (List.mem_filterMap.2 ⟨c,k,by unfold jo;rw[h];dsimp only;rw[f9 d]⟩);obtain⟨i,g,o⟩:=aeI b;obtain⟨n,e,f,a⟩:=xG (m:=m) (l:=l) (r:=i) g;have:=aeJ p d a ((j c k).tru r h d) ((j n e).tru i f a) o;rw[<-this];exact g
theorem kT{m:aE}{l:cw}{r:di}(h:r∈cU m l):cL r∈l/\eF (cL r)=dB r/\fB m r=eR:=by obtain⟨c,d,a,b⟩:=xG h;rw[(Yf a).1];exact⟨d,a,b⟩
theorem Jz{n:aE}(C:Int->ba){c:ba}(e:bN n=eR)(h:c∈bm n):eI n C c:=by
 have h0:=th h;refine⟨λr a=>(by rw[h0]at a;cases a),λr a _=>(by rw[h0]at a;cases a),λg b=>?_⟩;rw[QP]at h;obtain⟨i,d,rfl⟩:=qt.1 h;rw[ZF e (qE.1 d)]at b;injection b with b
 subst b;exact⟨Int.le_refl _,λ_=>by rw[QP];exact qt.2 ⟨i,d,i4⟩⟩
theorem JA{m:aE}{C:Int->ba}{l:cw}(b:bN m=eR)(d:∀c∈l,eI m C c):∀c∈bO m l,eI m C c:=λc e=>by
 rcases qD.1 e with h|h
 ·exact Jz C b h
 ·obtain⟨r,a,rfl⟩:=qt.1 h;exact d _ (kT a).1
theorem Py{m:aE}{C:Int->ba}{d:bo}{N:Int}(e:bN m=eR)(b:∀c∈d.l,eI m C c):∀c∈(cZ m d N).l,eI m C c:=λc a=>by
 unfold cZ at a;split at a
 ·exact b c a
 ·exact JA e b c a
theorem aeK{m:aE}{C:Int->ba}{d:bo}{N:Int}(f:bN m=eR)(g:∀c∈d.l,eI m C c){r:di}(a:cL r∈d.l)(b:eF (cL r)=dB r)(e:fB m r=eR):cL r∈(cZ m d N).l:=by
 unfold cZ;split
 ·exact a
 ·exact zM _ (qt.2 ⟨r,nB f g a b e,i4⟩)
theorem NR{r:di}(h:jv r=eR):DU (cL r)=eH:=by have a:=pi h;unfold DU cL;rw[f9 h,BD];dsimp only;rw[g0 (by rintro⟨h,_⟩;exact absurd h i6)]
theorem NS{m n:aE}{C D:Int->ba}{o b:Int}(a:n.p=m.p)(h:D o=C o):fp n D o b=fp m C o b:=by unfold fp;rw[a,h]
theorem Ff.congr{m n:aE}{C D:Int->ba}{r:di}(a:n.p=m.p)(b:D r.object=C r.object)(h:Ff m C r):Ff n D r:=by unfold Ff at h⊢;rw[NS a b,a];exact h
def jM(C:Int->ba)(o:Int)(b:ba):Int->ba:=λk=>if k=o then b else C k
theorem eI.with{m:aE}{C:Int->ba}{e:Wl.bM}{b c:ba}(h:eI m C c)(o:e.object=m.next):eI (eZ m e) (jM C m.next b) c:=by
 refine⟨λr a=>?_,λr a f=>?_,λg i=>?_⟩
 ·have:=h.old r a;show r.object<m.next+1;omega
 ·have n:=h.old r a;obtain⟨j,k,x,d,h3,l⟩:=mD.1 f;rcases EZ.1 d with d|rfl
  ·refine(h.tru r a (mD.2 ⟨j,k,x,d,h3,l⟩)).congr (m:=m) i4 ?_;unfold jM;rw[g0 i5]
  ·omega
 ·have:=(h.page g i).1;show g.seq<=m.seq+1/\(g.seq=m.seq+1->_)
  exact⟨i5,λe=>i5⟩
theorem aiA{m:aE}{C:Int->ba}{e:Wl.bM}{b:ba}{seed:Int}{i id:Nat}(f:0<=seed/\seed<4294967296)(c:jv (lj m m.next i seed ((splitB m.p b).getD i []) id)=eR):
  eI (eZ m e) (jM C m.next b) (cL (lj m m.next i seed ((splitB m.p b).getD i []) id)):=by
 have a:=tK c f;refine⟨λr h=>?_,λr h j=>?_,λg h=>?_⟩
 ·rw[a]at h;injection h with h;subst h
  show m.next<m.next+1;omega
 ·rw[a]at h;injection h with h;subst h
  have d:fp (eZ m e) (jM C m.next b) m.next (i:Int)=(splitB m.p b).getD i []:=by unfold fp jM;rw[f9 i4,qm];rfl
  show uI m.p seed ((splitB m.p b).getD i []) id=uI (eZ m e).p seed (fp (eZ m e) (jM C m.next b) m.next (i:Int)) id;rw[d];rfl
 ·rw[NR c]at h;cases h
structure dZ (m:aE) (C:Int->ba) (ds:aF):Prop where
 may:bN m=eR
 len:ds.length=64
 cells:∀k d,aX ds k=dB d->∀c∈d.l,eI m C c
 ents:∀e∈m.aH,((C e.object).length:Int)=e.length/\cX m.p e.object (splitB m.p (C e.object)).length=dB e.tries
theorem dZ.old{m:aE}{C:Int->ba}{ds:aF}(S:dZ m C ds){e:Wl.bM}(a:e∈m.aH):e.object<m.next:=((iR m e).1 (((cF m).1 S.may).2.2.2.2.1 e a)).2.1.2
theorem aeL{ds ds':aF}{f:Int->bo->bo}(h:∀k,aX ds' k=(aX ds k).map (f k)){k:Int}{d:bo}(a:aX ds' k=dB d):∃b,aX ds k=dB b/\d=f k b:=by
 rw[h]at a;cases h0:aX ds k with
 |none=>rw[h0]at a;cases a
 |some b=>rw[h0]at a;injection a with a;exact⟨b,i4,a.symm⟩
theorem agS{n:aE}{C:Int->ba}{a:cw}{d:bo}(e:∀c∈d.l,eI n C c)(f:∀c∈a,eI n C c):∀c∈(gv a d).l,eI n C c:=λc b=>by
 rw[NE]at b;rcases qD.1 b with h|h
 ·exact e c h
 ·exact f c h
def oL(m:aE)(ds:aF)(t:az)(b:ba)(n:aE)(k:Int)(d:bo):bo:=
 if k∈aR ds m.drives then gv ((iU m m.next t (splitB m.p b) (aR ds m.drives) k (splitB m.p b).length).map cL++bm n) (cZ m d (kP (bm n).length (dL m m.next t (splitB m.p b) (aR ds m.drives) (splitB m.p b).length) k))else d
theorem agT{m:aE}{offs:Int}{w:Pow}{ds:aF}{C:Int->ba}{name:ByteArray}{b:ba}(y:w.calm)(S:dZ m C ds):
  ((∃e,e≠0/\im m offs w ds name b=(e,m,w,ds))/\((im m offs w ds name b).1=eC m (dY w offs) ds name b.length∨(eC m (dY w offs) ds name b.length=0/\((im m offs w ds name b).1=8/\cX m.p m.next (splitB m.p b).length=eH∨(im m offs w ds name b).1=7/\∃t,cX m.p m.next (splitB m.p b).length=dB t/\iC m ds (aR ds m.drives) (kP (bm (eZ m ⟨name,m.next,b.length,t⟩)).length (dL m m.next t (splitB m.p b) (aR ds m.drives) (splitB m.p b).length))=eS))))∨
  (eC m (dY w offs) ds name b.length=0/\∃t ds',cX m.p m.next (splitB m.p b).length=dB t/\im m offs w ds name b=(0,eZ m ⟨name,m.next,b.length,t⟩,w,ds')/\dZ (eZ m ⟨name,m.next,b.length,t⟩) (jM C m.next b) ds'/\
   ∀k,aX ds' k=(aX ds k).map (oL m ds t b (eZ m ⟨name,m.next,b.length,t⟩) k)):=by
 obtain⟨D,F⟩:=abF (offs:=offs) (name:=name) (b:=b) y S.len S.may;by_cases a:eC m (dY w offs) ds name b.length=0
 ·obtain⟨B,G⟩:=F a;cases ht:cX m.p m.next (splitB m.p b).length with
  |none=>rw[B ht];exact .inl ⟨⟨8,i6,i4⟩,.inr ⟨a,.inl ⟨i4,i4⟩⟩⟩
  |some t=>
   obtain⟨j,v,A⟩:=G t ht;cases hf:iC m ds (aR ds m.drives) (kP (bm (eZ m ⟨name,m.next,b.length,t⟩)).length (dL m m.next t (splitB m.p b) (aR ds m.drives) (splitB m.p b).length))with
   |false=>rw[v hf];exact .inl ⟨⟨7,i6,i4⟩,.inr ⟨a,.inr ⟨i4,t,i4,hf⟩⟩⟩
   |true=>
    obtain⟨ds',u,z,s⟩:=A hf;have f:∀k,aX ds' k=(aX ds k).map (oL m ds t b (eZ m ⟨name,m.next,b.length,t⟩) k):=s;refine .inr ⟨a,t,ds',i4,u,⟨j,z,λk d x=>?_,λe l=>?_⟩,f⟩
    ·obtain⟨q,h0,rfl⟩:=aeL f x;unfold oL;split
     ·refine agS (λc g=>(Py S.may (S.cells k q h0) c g).with i4) λc g=>?_;rcases qD.1 g with h|h
      ·obtain⟨r,n,rfl⟩:=qt.1 h;obtain⟨i,id,rfl,H,hid⟩:=Zf n;obtain⟨J,I,z3,z4,z5⟩:=ny a;have o:=((fg m).1 ((cF m).1 S.may).1)
       have h8:=Jv o.2.2.1 λh=>z4 (.inl h);exact aiA (lm _ _ _) (XA S.may (by have:¬16777215<m.next:=λh=>z5 (.inr (.inl h));omega) h8 ht H hid)
      ·exact Jz _ j h
     ·exactλc g=>(S.cells k q h0 c g).with i4
    ·rcases EZ.1 l with l|rfl
     ·have E:=S.old l;have:jM C m.next b e.object=C e.object:=by unfold jM;rw[g0 i5]
      rw[this];exact S.ents e l
     ·have:jM C m.next b m.next=b:=by unfold jM;rw[f9 rfl]
      show((jM C m.next b m.next).length:Int)=(b.length:Int)/\cX m.p m.next (splitB m.p (jM C m.next b m.next)).length=dB t;rw[this];exact⟨i4,ht⟩
 ·rw[D a];exact .inl ⟨⟨_,a,i4⟩,.inl i4⟩
end Go.Qw
namespace Wl
open Go Go.Qw Go.Vc
def nQ(p:Int×Int×Int)(a:cw)(n:Int):ba:=if bB p=eR/\0<=n/\(i0 a:Int)=countP p n/\(a.all λx=>decide (i0 x=dR p))=eR then a.flatten.take n.toNat else[]
noncomputable def iw(m:aE)(ds:aF)(o:Int)(tries:az)(k:Nat):ba×Int:=lU m.p (ce o k (tries.getD k 0)) (dN m ds (aR ds m.drives) o k)
def DV(m:aE)(ds:aF)(k:Int):Bool:=match aX ds k with|some d=>jD m d.l|none=>eS
def nC(m:aE)(ds:aF):Bool:=(aR ds m.drives).any (DV m ds)
noncomputable def CP(m:aE)(ds:aF)(e:bM):ba×Int:=
 if nC m ds=eS then([],11)else if((qw e.tries.length).all λk=>decide ((iw m ds e.object e.tries k).2=0))=eR then(nQ m.p ((qw e.tries.length).map λk=>(iw m ds e.object e.tries k).1) e.length,0)else([],11)
noncomputable def oc(m:aE)(offs:Int)(w:Pow)(ds:aF)(name:ByteArray):ba×Int:=
 if dY w offs then([],14)else match m.aH.find? (jk name)with
 |none=>([],5)
 |some e=>CP m ds e
def gx(m:aE)(ds:aF)(o b:Int):az:=(dN m ds (aR ds m.drives) o b).map qM
def uN(m:aE)(ds:aF)(e:bM):Bool:=nC m ds&&(qw e.tries.length).all λk=>dK m.p (ce e.object k (e.tries.getD k 0)) (gx m ds e.object k)
theorem NT(a:Nat)(b:ba):∀n,((qw n).map (xE a b)).flatten=b.take (n*a)++qg (n*a-i0 b) 0
 |0=>jj
 |n+1=>by
  rw[zQ,qU,List.flatten_append,NT a b n,zG];simp only[w7,List.map_nil,List.flatten_cons,List.flatten_nil,qN];unfold xE;by_cases h:n*a<=i0 b
  ·have c:n*a-i0 b=0:=i5
   rw[c,List.replicate_zero,qN,<-qq,<-List.take_add,List.drop_replicate,ze];congr 2;omega
  ·have d:b.drop (n*a)=[]:=zf i5;rw[d,List.take_nil,List.nil_append,yh,List.drop_zero,qi i5,qi i5,qq,List.replicate_append_replicate];congr 2;omega
theorem KA{p:Int×Int×Int}(a:bB p=eR)(n:Nat):n<=(countP p n).toNat*dR p:=by
 obtain⟨f,h,c⟩:=lQ a;unfold countP;rw[a,zJ];by_cases h0:0<(n:Int)
 ·rw[g9 h0,f9 i4,<-c];have g:=wW ((n:Int)-1) (show(0:Int)<(dR p:Int)by omega);have d:=Int.mul_ediv_add_emod ((n:Int)-1) (dR p:Int);have h3:0<=((n:Int)-1)/(dR p:Int):=Int.ediv_nonneg i5 i5;obtain⟨q,b⟩:=Int.eq_ofNat_of_zero_le h3;rw[b]at d⊢;have e:((q:Int)+1).toNat=q+1:=i5
  rw[e,zG];have:(dR p:Int)*(q:Int)=((q*dR p:Nat):Int):=by rw[Int.natCast_mul,Int.mul_comm]
  omega
 ·omega
theorem ZG{p:Int×Int×Int}(a:bB p=eR)(b:ba):nQ p (splitB p b) b.length=b:=by
 unfold nQ;rw[f9 ⟨a,i5,IA a b,qL.2 λx c=>by
  unfold splitB at c;obtain⟨i,_,rfl⟩:=qt.1 c;exact g9 (Ii _ _ _)⟩]
 have:=KA a b.length;unfold splitB;rw[NT,qi this,qm,List.take_append_of_le_length (qk _),qW]
end Wl
namespace Go.Qw
open Go Go.Vc Go.Proofs Wl
section
variable {m:aE} {C:Int->ba} {ds:aF} {offs:Int} {w:Pow}
theorem Fg{o b k:Int}{x:Int×ba}(h:x∈fW m ds o b k):∃d r,aX ds k=dB d/\r∈cU m d.l/\r.object=o/\r.block=b/\x=(r.id,r.data):=by
 unfold fW at h;cases hd:aX ds k with
 |none=>rw[hd]at h;cases h
 |some d=>
  rw[hd]at h;unfold AS at h;obtain⟨r,e,rfl⟩:=qt.1 h;obtain⟨c,a⟩:=qI.1 e;rw[qz,decide_eq_true_eq,decide_eq_true_eq]at a;exact⟨d,r,i4,c,a.1,a.2,i4⟩
theorem dZ.entry(S:dZ m C ds){e:Wl.bM}(a:e∈m.aH):gX m e=eR:=((cF m).1 S.may).2.2.2.2.1 e a
theorem dZ.rO(S:dZ m C ds):bB m.p=eR:=((fg m).1 ((cF m).1 S.may).1).2.2.1
theorem dZ.blocks(S:dZ m C ds){e:Wl.bM}(a:e∈m.aH):(splitB m.p (C e.object)).length=e.tries.length:=(jc (S.ents e a).2).symm
theorem dZ.fP(S:dZ m C ds){e:Wl.bM}(a:e∈m.aH){k:Nat}(b:k<e.tries.length):∃K H w n,co m.p (ce e.object k (e.tries.getD k 0)) (fp m C e.object k) K H w n:=by have h:=Xz S.rO (S.ents e a).2 (i:=k) (by rw[S.blocks a];exact b);unfold fp;rw[qm];exact h
theorem dZ.sym(S:dZ m C ds){e:Wl.bM}(v:e∈m.aH){k:Nat}(z:k<e.tries.length){s:Int}{x:Int×ba}(h:x∈fW m ds e.object k s):
  bW x.1=eR/\x.2=fV m.p.2.2.toNat (dt m.p (ce e.object k (e.tries.getD k 0)) (fp m C e.object k)) (dw (bE m.p).toNat (ce e.object k (e.tries.getD k 0)) x.1):=by
 obtain⟨d,r,n,l,b,g,rfl⟩:=Fg h;obtain⟨t,u,i⟩:=kT l;obtain⟨q,A,y,o,w,_,j⟩:=mD.1 i;have f:y=e:=Vf S.may o v (by rw[w,b]);subst f;have hid:=((kX r).1 q).2.2.1;have a:bW r.id=eR:=by unfold bW;simp;omega
 have c:=(S.cells s d n _ t).tru r u i;unfold Ff at c;rw[b,g]at c;rw[b,g,qm]at j;refine⟨a,?_⟩;show r.data=_;rw[c,j];unfold uI;rw[f9 a]
theorem NU{α β:Type}{f:α->β}:∀{l:List (α×β)},(∀x∈l,x.2=f x.1)->l=(l.map qM).map λi=>(i,f i)
 |[],_=>rfl
 |x::l,h=>by
  have a:=h x qH;have c:=NU (l:=l) λy b=>h y (qC _ b);rw[w7,w7,<-c,<-a]
theorem dZ.syms(S:dZ m C ds){e:Wl.bM}(f:e∈m.aH){k:Nat}(d:k<e.tries.length)(a:az):
  dN m ds a e.object k=mC m.p (ce e.object k (e.tries.getD k 0)) (dt m.p (ce e.object k (e.tries.getD k 0)) (fp m C e.object k)) ((dN m ds a e.object k).map qM)/\∀i∈(dN m ds a e.object k).map qM,bW i=eR:=by
 have c:∀x∈dN m ds a e.object k,bW x.1=eR/\x.2=fV m.p.2.2.toNat (dt m.p (ce e.object k (e.tries.getD k 0)) (fp m C e.object k)) (dw (bE m.p).toNat (ce e.object k (e.tries.getD k 0)) x.1):=λx b=>by
  unfold dN at b;obtain⟨s,_,b⟩:=zD.1 b;exact S.sym f d b
 refine⟨NU λx b=>(c x b).2,λi g=>?_⟩;obtain⟨x,b,rfl⟩:=qt.1 g;exact(c x b).1
theorem dZ.iw(S:dZ m C ds){e:Wl.bM}(d:e∈m.aH){k:Nat}(b:k<e.tries.length):
  Wl.iw m ds e.object e.tries k=if dK m.p (ce e.object k (e.tries.getD k 0)) (gx m ds e.object k)=eR then(fp m C e.object k,0)else([],9):=by
 obtain⟨K,H,w,n,B⟩:=S.fP d b;obtain⟨f,c⟩:=S.syms d b (aR ds m.drives);unfold Wl.iw;rw[f];by_cases a:dK m.p (ce e.object k (e.tries.getD k 0)) (gx m ds e.object k)=eR
 ·rw[f9 a];exact B.dec c a
 ·rw[g0 a];refine aeC B.may (B.Vb c) ?_;rw[LI];exact eq_false_of_ne_true a
theorem dZ.CP(S:dZ m C ds){e:Wl.bM}(b:e∈m.aH):Wl.CP m ds e=if uN m ds e=eR then(C e.object,0)else([],11):=by
 have a:((qw e.tries.length).all λk=>decide ((Wl.iw m ds e.object e.tries k).2=0))=(qw e.tries.length).all λk=>dK m.p (ce e.object k (e.tries.getD k 0)) (gx m ds e.object k):=by
  rw[vb,qL,qL];refine forall_congr' λk=>forall_congr' λd=>?_;rw[S.iw b (qE.1 d)];cases dK m.p (ce e.object k (e.tries.getD k 0)) (gx m ds e.object k)with
  |true=>simp
  |false=>simp
 unfold Wl.CP uN;rw[a];cases hw:nC m ds with
 |false=>rw[f9 i4,Bool.false_and,g0 i6]
 |true=>
  rw[g0 i6,zJ];cases hf:(qw e.tries.length).all λk=>dK m.p (ce e.object k (e.tries.getD k 0)) (gx m ds e.object k)with
  |false=>rw[g0 i6,g0 i6]
  |true=>
   rw[f9 i4,f9 rfl];have g:((qw e.tries.length).map λk=>(Wl.iw m ds e.object e.tries k).1)=splitB m.p (C e.object):=by
    apply List.ext_getElem
    ·simp[S.blocks b]
    ·intro k c f;rw[wx,y9];simp only[qA,zx]at c;rw[S.iw b c,f9 (qL.1 hf k (qE.2 c))];unfold fp;rw[qm,ge _ f]
   rw[g,<-(S.ents e b).1,ZG S.rO]
theorem dZ.get(S:dZ m C ds)(f:dY w offs=eS)(name:ByteArray):
  (∀e∈m.aH,e.name=name->oc m offs w ds name=if uN m ds e=eR then(C e.object,0)else([],11))/\((∀e∈m.aH,e.name≠name)->oc m offs w ds name=([],5)):=by
 refine⟨λe b d=>?_,λc=>?_⟩
 ·have a:m.aH.find? (jk name)=dB e:=by
   cases a:m.aH.find? (jk name)with
   |none=>
    have:=z8.1 a e b;exact absurd (by unfold jk;rw[d];simp) this
   |some y=>
    have g:=List.find?_some a;have i:=yi a;rw[acr S.may i b (by rw[d];exact Ep (by unfold jk at g;simpa using g))]
  unfold oc;rw[f,g0 i6,a];exact S.CP b
 ·have a:m.aH.find? (jk name)=eH:=z8.2 λe b h=>c e b (Ep (by unfold jk at h;simpa using h));unfold oc;rw[f,g0 i6,a]
end
end Go.Qw
namespace Wl
open Go Go.Qw Go.Vc
end Wl
namespace Go.Qw
open Go Go.Vc Go.Proofs Wl
section
variable {B:aB} {h0 h:f8} {As:List HP} {a pw:fz} {offs:Int} {da:List aO} {w:Pow} {ds:aF} {m:aE}
end
end Go.Qw
namespace Wl
open Go Go.Qw Go.Vc
noncomputable def eG(m:aE)(live:az)(ds:aF)(o:Int)(tries:az)(i:Nat):Int×iY:=
 let seed:=ce o i (tries.getD i 0);let r:=lU m.p seed (dN m ds live o i)
 if r.2≠0 then(11,⟨o,i,seed,[],[],[]⟩)else if ik m.p seed r.1.length≠0 then(11,⟨o,i,seed,[],[],[]⟩)else(0,⟨o,i,seed,dt m.p seed r.1,cJ m ds o i (aR ds m.drives),[]⟩)
theorem acs{p:Pm}{seed:Int}{l:Nat}(h:ik p seed l=0):bB p=eR/\dK p seed (ff p)=eR/\(l:Int)=p.1*p.2.2:=by
 unfold ik at h;split at h
 ·rename_i a;rw[qz,decide_eq_true_eq]at a;split at h
  ·rename_i b;exact⟨a.1,b,a.2⟩
  ·cases h
 ·cases h
theorem NV{m:aE}{ds:aF}{o b k:Int}(a:∀k d,aX ds k=dB d->i0 d.l<=512):i0 (fW m ds o b k)<=512:=by
 unfold fW;cases hd:aX ds k with
 |none=>exact zE _
 |some d=>exact za (EV m o b d.l) (a k d hd)
theorem act{m:aE}{ds:aF}{o b:Int}{live:az}(e:i0 live<=64)(a:∀k d,aX ds k=dB d->i0 d.l<=512):i0 (dN m ds live o b)<=64*512:=by unfold dN;exact za (DP (c:=512) λj _=>NV a) (Nat.mul_le_mul_right _ e)
theorem acu{m:aE}{ds:aF}{o b k:Int}{x:Int×ba}(h:x∈fW m ds o b k):0<=x.1/\x.1<=65535:=by obtain⟨d,r,_,c,_,_,rfl⟩:=Fg h;obtain⟨_,_,_,e⟩:=xG c;have a:=(mD.1 e).1;unfold jv at a;rw[qz,qz,qz]at a;have:=a.1.2.2;unfold bW at this;rw[qz,decide_eq_true_eq,decide_eq_true_eq]at this;exact this
theorem QQ{m:aE}{ds:aF}{o b:Int}{live l:az}(h:l∈cJ m ds o b live):∃k∈live,l=(fW m ds o b k).map qM:=by unfold cJ at h;obtain⟨k,a,rfl⟩:=qt.1 h;refine⟨k,a,?_⟩;unfold dN;rw[zg,List.flatMap_nil,qN]
theorem Fh{m:aE}{live:az}{ds:aF}{o:Int}{tries:az}{i:Nat}(f:∀k d,aX ds k=dB d->i0 d.l<=512)(t:i0 (aR ds m.drives)=i0 live)(h:(eG m live ds o tries i).1=0):lV m live (eG m live ds o tries i).2/\(eG m live ds o tries i).2.got=[]:=by
 unfold eG at h⊢;dsimp only at h⊢;obtain⟨r,q⟩:∃r,r=lU m.p (ce o i (tries.getD i 0)) (dN m ds live o i):=⟨_,rfl⟩
 rw[<-q]at h⊢;by_cases j:r.2≠0
 ·rw[f9 j]at h;cases h
 rw[g0 j]at h⊢;by_cases g:ik m.p (ce o i (tries.getD i 0)) r.1.length≠0
 ·rw[f9 g]at h;cases h
 rw[g0 g]at h⊢;obtain⟨a,b,c⟩:=acs k9;obtain⟨K,H,w,n,B⟩:=Yl a b c;have A:m.p.2.2.toNat=w:=B.size;have v:(bE m.p).toNat=n:=by have:=B.k;have:=B.h;have:=B.n;rw[bE,f9 a];omega
 refine⟨⟨lm _ _ _,by rw[A];exact B.om.2,by rw[v];exact B.om.1,by show(cJ _ _ _ _ _).length=_;unfold cJ;rw[qA];exact t,λl e=>?_,?_,zE _,λs u=>by cases u⟩,i4⟩
 ·obtain⟨k,_,rfl⟩:=QQ e;rw[qA];have:=NV (m:=m) (ds:=ds) (o:=o) (b:=i) (k:=k) f;omega
 ·refine za (Ve (n:=65535) λl e x D=>?_) (by show(65535:Nat)<=2^20+0;decide);obtain⟨k,_,rfl⟩:=QQ e;obtain⟨z,y,rfl⟩:=qt.1 D;have:=acu y;omega
end Wl
namespace Go.Qw
open Go Go.Vc Go.Proofs Wl
def AY(a:fz)(p:Pm)(seed:Int)(M:aM):HP:=HP.ex λm:Sl=>(ao a 234 (CK p seed m)).sep (fQ 34 m 1 aD M)
section
variable {B:aB} {h0 h:f8} {As:List HP} {a pw:fz} {offs:Int} {da:List aO} {w:Pow} {ds:aF} {m:aE}
theorem aiT{a:fz}{p:Pm}{seed:Int}{M:aM}:St B h0 (AY a p seed M::As) λh=>AN h a p seed M:=λBs h' c=>by
 have d:=c.cons Bs.length (A:=AY a p seed M) (by rw[qj (qk _),Nat.sub_self];rfl);obtain⟨q,e⟩:=d.ta;have b:=e.tH;exact⟨q,b.box 1 i4,b.GH 0 i4⟩
theorem ZH{c:fz}(y:ci)(f:Sl)(live:az)(t most k:Int)(x:ez)(e:Wl.bM)(i:Nat)(hm:bN m=eR)(hl:live.length<=64)(P:∀k∈live,∃d,aX ds k=dB d)(hi:i<e.tries.length)(b0:e.tries.length<=2^20)
  (hS:St B h0 As λh=>dG h y m/\Rd h f 1 aq live/\dT jC h x e)
  (H:aa B h0 h (bI a pw da offs w ds m::ao c 109 (cK a y f t most k)::As)):
  ab xt 126 #[xk (dB c),xn (bP x).toArray,xi xo i] h λv h'=>
   ((eG m live ds e.object e.tries i).1≠0->v=.tuple #[xk eH,xi xo (eG m live ds e.object e.tries i).1]/\aa B h0 h' (bI a pw da offs w ds m::ao c 109 (cK a y f t most k)::As))/\
   ((eG m live ds e.object e.tries i).1=0->∃b cd:fz,v=.tuple #[xk (dB b),xi xo 0]/\aa B h0 h' (bI a pw da offs w ds m::ao c 109 (cK a y f t most k)::rN b cd (eG m live ds e.object e.tries i).2::AY cd m.p (eG m live ds e.object e.tries i).2.seed (eG m live ds e.object e.tries i).2.M::As)):=by
 have hz:=jY hm;have a4:=(oD H).2;have O:∀k d,aX ds k=dB d->d.l.length<=512:=λk d hd=>by have:=a4 k d hd;omega
 obtain⟨seed,Y⟩:∃seed,seed=ce e.object i (e.tries.getD i 0):=⟨_,rfl⟩
 obtain⟨r,hr⟩:∃r,r=lU m.p seed (dN m ds live e.object i):=⟨_,rfl⟩
 have eP:eG m live ds e.object e.tries i=(if r.2≠0 then(11,⟨e.object,i,seed,[],[],[]⟩)else if ik m.p seed r.1.length≠0 then(11,⟨e.object,i,seed,[],[],[]⟩)else(0,⟨e.object,i,seed,dt m.p seed r.1,cJ m ds e.object i (aR ds m.drives),[]⟩)):=by rw[hr,Y];rfl
 refine Bg (dB c) x i ?_;unfold px;refine H.boxed λn h1 V=>?_;have V:aa B h0 h1 (ao n 94 (bP x)::bI a pw da offs w ds m::ao c 109 (cK a y f t most k)::As):=V.bw;obtain⟨hy,bk,hx⟩:=(hS.cons.cons.cons).here V;have g:=V.box 0 i4;obtain⟨⟨x1,x2,x3⟩,x4⟩:=id hx;have b3:=x4.len;have no:∀{h':f8} {Cs:List HP},aa B h0 h' (ao n 94 (bP x)::bI a pw da offs w ds m::ao c 109 (cK a y f t most k)::As)->(eG m live ds e.object e.tries i).1=11->
   ((eG m live ds e.object e.tries i).1≠0->Value.tuple #[xk eH,xi xo 11]=.tuple #[xk eH,xi xo (eG m live ds e.object e.tries i).1]/\aa B h0 h' (bI a pw da offs w ds m::ao c 109 (cK a y f t most k)::As))/\
   ((eG m live ds e.object e.tries i).1=0->∃b cd:fz,Value.tuple #[xk eH,xi xo 11]=.tuple #[xk (dB b),xi xo 0]/\aa B h0 h' (bI a pw da offs w ds m::ao c 109 (cK a y f t most k)::rN b cd (eG m live ds e.object e.tries i).2::AY cd m.p (eG m live ds e.object e.tries i).2.seed (eG m live ds e.object e.tries i).2.M::As)):=λ{h' Cs} H' he=>by
  rw[he];exact⟨λ_=>⟨i4,H'.rest⟩,λh=>absurd h i6⟩
 have Q:∀{h':f8},dG h' y m->cv h' c 109 (cK a y f t most k)->an h' ((c.add 1).add 2) 0 [xi xo m.p.1,xi xo m.p.2.1,xi xo m.p.2.2]:=λ{h'} hy hc=>by
  have ax:y.2.2.1=m.p.1:=congrArg (·.1) hy.p;have bb:y.2.2.2.1=m.p.2.1:=congrArg (·.2.1) hy.p;have a6:y.2.2.2.2.1=m.p.2.2:=congrArg (·.2.2) hy.p;rw[addr_add,<-ax,<-bb,<-a6];exact hc.cells 3 _ i4
 obtain⟨j,J⟩:∃j:iY,j=⟨e.object,i,seed,[],[],[]⟩:=⟨_,rfl⟩
 refine bY (λ(z:aO) h'=>∃b:fz,z=dB b/\aa B h0 h' (ao b 187 (gn j eH ⟨eH,0,0⟩ ⟨eH,0,0⟩)::ao n 94 (bP x)::bI a pw da offs w ds m::ao c 109 (cK a y f t most k)::As)) ?_ ?_
 ·refine⟨x.2.1,g.cell i4,x.2.1,g.cell i4,x.2.2.2,g.cell i4,?_⟩;refine x4.bC i i4 hi e.tries[i] i4 ?_;refine(rC x.2.1 i e.tries[i] h1).mono ?_;rintro _ _ ⟨rfl,rfl⟩;refine⟨_,i4,⟨g.cell i4,g.cell i4,trivial⟩,?_⟩;refine V.boxed λa8 h3 T=>?_;have T:=T.bw;refine⟨⟨(T.box 1 i4).cell i4,(T.box 1 i4).cell i4,trivial⟩,a8,i4,?_⟩;have es:ce x.2.1 i e.tries[i]=seed:=by rw[Y,x2,ge 0 hi]
  rw[es,x2]at T;rw[J];exact T
 rintro _ h4 ⟨b,rfl,S⟩;have a0:=S.box 0 i4;have I:=S.box 3 i4;have ad:=S.box 1 i4;obtain⟨Z,W,b4⟩:=(hS.cons.cons.cons.cons).here S;have L:j.seed=seed:=by rw[J]
 have b1:j.o=e.object:=by rw[J]
 refine bY (λ(z:Sl×Int) h'=>z.2=r.2/\aa B h0 h' (al 5 z.1 1 aD r.1::ao b 187 (gn j eH ⟨eH,0,0⟩ ⟨eH,0,0⟩)::ao n 94 (bP x)::bI a pw da offs w ds m::ao c 109 (cK a y f t most k)::As)) ?_ ?_
 ·refine⟨c,i4,m.p,Q Z I,b,i4,seed,by rw[<-L];exact a0.cell i4,c,i4,dB a,I.cell0 i4,c,i4,f,I.cell i4,c,i4,y,I.cells 1 _ i4,x.2.1,ad.cell i4,?_⟩;rw[x2];refine(WI y f live e.object i Z hz W i5 P (S.aZ 3 [2])).mono ?_;rintro _ h5 ⟨u,ss,rfl,R5⟩;have X:=S.up R5.ag;have N:Fix jw 2 piv h5 (λb=>b<h5.size) u ss (dN m ds live e.object i):=R5.at 0 i4;have a2:dT Jx h5 u (dN m ds live e.object i):=⟨ss,N.1,N.2.1,N.2.2⟩
  have bl:=act (m:=m) (o:=e.object) (b:=i) hl O;obtain⟨a7,_,_⟩:=(hS.cons.cons.cons.cons).here X;have q5:=Q a7 (X.box 3 i4);refine⟨u,i4,⟨(X.box 3 i4).cell0 i4,by rw[<-L];exact(X.box 0 i4).cell i4,q5.1,q5.2.1,q5.2.2.1,trivial⟩,?_⟩;refine(NP m.p seed u _ h5 a2).mono ?_;rintro _ h6 ⟨ah,rfl,R6⟩;rw[<-hr]at R6⊢;have H6:=X.ca R6;refine⟨(ah,r.2),i4,⟨(H6.box 4 i4).cell0 i4,trivial⟩,i4,?_⟩;exact H6
 rintro⟨z,_⟩ h7 ⟨rfl,E⟩;dsimp only at E⊢;refine bQ (λe1=>?_) λe1=>?_
 ·exact no (Cs:=[]) E.rest.rest (by rw[eP,f9 e1])
 have a9:=E.own 0 i4;refine bY (λ(_:Unit) h'=>ik m.p seed r.1.length=0/\∃cd:fz,aa B h0 h' (ao b 187 (gn j (dB cd) ⟨eH,0,0⟩ ⟨eH,0,0⟩)::AY cd m.p seed (dt m.p seed r.1)::ao n 94 (bP x)::bI a pw da offs w ds m::ao c 109 (cK a y f t most k)::As)) ?_ ?_
 ·refine bY (λ(z:Int) h'=>(z≠0->ik m.p seed r.1.length≠0/\aa B h0 h' (ao n 94 (bP x)::bI a pw da offs w ds m::ao c 109 (cK a y f t most k)::As))/\(z=0->ik m.p seed r.1.length=0/\∃cd:fz,aa B h0 h' (ao b 187 (gn j (dB cd) ⟨eH,0,0⟩ ⟨eH,0,0⟩)::AY cd m.p seed (dt m.p seed r.1)::ao n 94 (bP x)::bI a pw da offs w ds m::ao c 109 (cK a y f t most k)::As))) ?_ ?_
  ·obtain⟨ar,_,_⟩:=(hS.cons.cons.cons.cons.cons).here E;refine⟨c,i4,m.p,Q ar (E.box 4 i4),b,i4,seed,by rw[<-L];exact(E.box 1 i4).cell i4,?_⟩;refine(Uo m.p seed z r.1 h7 (E.seq 0 i4 λ_=>rfl) a9.cap).mono ?_;rintro _ h8 ⟨n1,n2⟩;by_cases A:ik m.p seed r.1.length=0
   ·obtain⟨cd,mm,rfl,R8⟩:=n1 A;have H8:=(E.comp R8).front;refine⟨(dB cd,0),i4,trivial,b,i4,?_⟩;refine H8.storeAt ac 3 i4 i4 i4 i4 i4 (show 3<6 by decide) λU D=>⟨trivial,?_⟩
    have D:aa B h0 U (fQ 34 mm 1 aD (dt m.p seed r.1)::ao cd 234 (CK m.p seed mm)::al 5 z 1 aD r.1::ao b 187 (gn j (dB cd) ⟨eH,0,0⟩ ⟨eH,0,0⟩)::ao n 94 (bP x)::bI a pw da offs w ds m::ao c 109 (cK a y f t most k)::As):=D;have ay:aa B h0 U (AY cd m.p seed (dt m.p seed r.1)::al 5 z 1 aD r.1::ao b 187 (gn j (dB cd) ⟨eH,0,0⟩ ⟨eH,0,0⟩)::ao n 94 (bP x)::bI a pw da offs w ds m::ao c 109 (cK a y f t most k)::As):=
     aa.yT (F:=λq:Sl=>(ao cd 234 (CK m.p seed q)).sep (fQ 34 q 1 aD (dt m.p seed r.1))) mm D.mi
    exact⟨λh=>absurd i4 h,λ_=>⟨A,cd,ay.aZ 3 [2,0]⟩⟩
   ·obtain⟨rfl,R8⟩:=n2 A;have H8:=E.up R8.ag;refine⟨(eH,ik m.p seed r.1.length),i4,trivial,b,i4,?_⟩;refine H8.storeAt ac 1 i4 i4 i4 i4 i4 (show 3<6 by decide) λU D=>⟨trivial,?_⟩
    have D:aa B h0 U (al 5 z 1 aD r.1::ao b 187 (gn j eH ⟨eH,0,0⟩ ⟨eH,0,0⟩)::ao n 94 (bP x)::bI a pw da offs w ds m::ao c 109 (cK a y f t most k)::As):=D;exact⟨λ_=>⟨A,D.rest.rest⟩,λh=>absurd h A⟩
  ·rintro z U ⟨n1,n2⟩;refine bQ (λe2=>?_) λe2=>n2 e2;obtain⟨A,D⟩:=n1 e2;exact no (Cs:=[]) D (by rw[eP,g0 λh=>h e1,f9 A])
 rintro _ bq ⟨A,cd,G⟩;have ap:eG m live ds e.object e.tries i=(0,⟨e.object,i,seed,dt m.p seed r.1,cJ m ds e.object i (aR ds m.drives),[]⟩):=by rw[eP,g0 λh=>h e1,g0 λh=>h A]
 rw[ap];dsimp only;refine bY (λ(_:Unit) h'=>aa B h0 h' (bI a pw da offs w ds m::ao c 109 (cK a y f t most k)::rN b cd ⟨e.object,i,seed,dt m.p seed r.1,cJ m ds e.object i (aR ds m.drives),[]⟩::AY cd m.p seed (dt m.p seed r.1)::As)) ?_ ?_
 ·refine⟨c,i4,dB a,(G.box 4 i4).cell0 i4,x.2.1,(G.box 2 i4).cell i4,?_⟩;rw[x2];refine(abK e.object i hm (G.aZ 4 [3])).mono ?_;rintro _ br ⟨K,rfl,a3⟩;have a5:=G.ca a3;refine⟨K,i4,trivial,b,i4,?_⟩;refine a5.storeAt ac 1 i4 i4 i4 i4 i4 (show 4<6 by decide) λam s=>⟨trivial,?_⟩
  have s:aa B h0 am (dQ 22 K 3 1 aq (cJ m ds e.object i (aR ds m.drives))::ao b 187 (gn ⟨e.object,i,seed,dt m.p seed r.1,cJ m ds e.object i (aR ds m.drives),[]⟩ (dB cd) K ⟨eH,0,0⟩)::AY cd m.p seed (dt m.p seed r.1)::ao n 94 (bP x)::bI a pw da offs w ds m::ao c 109 (cK a y f t most k)::As):=by rw[J]at s;exact s
  have R:=(s.nil 3 1 aq).bw;have bd:=AX (x:=⟨e.object,i,seed,dt m.p seed r.1,cJ m ds e.object i (aR ds m.drives),[]⟩) R;exact bd.aZ 5 [3,4,0,1]
 ·rintro _ b2 R;exact⟨λh=>absurd i4 h,λ_=>⟨b,cd,i4,R⟩⟩
end
end Go.Qw
namespace Wl
open Go Go.Qw Go.Vc
theorem WL(w:Pow)(d:bo)(b:ba):(d.append w b).2.2.lost=d.lost:=by unfold bo.append;(repeat' split)<;>rfl
theorem IN(w:Pow)(d:bo)(l:cw):(d.rewrite w l).2.2.lost=d.lost:=by unfold bo.rewrite;(repeat' split)<;>rfl
theorem acv(w:Pow)(d:bo):(d.sync w).2.2.lost=d.lost:=by unfold bo.sync;(repeat' split)<;>rfl
theorem NW(m:aE)(w:Pow)(d:bo)(n:Int):(gd m w d n).2.2.lost=d.lost:=by
 unfold gd;split
 ·rfl
 ·split
  ·rfl
  ·split
   ·rfl
   ·exact IN _ _ _
structure iO (ds ds':aF):Prop where
 len:i0 ds'=i0 ds
 at_:∀k,(aX ds' k).map bo.lost=(aX ds k).map bo.lost
theorem iO.refl(ds:aF):iO ds ds:=⟨i4,λ_=>rfl⟩
theorem iO.trans{a b c:aF}(d:iO a b)(e:iO b c):iO a c:=⟨e.len.trans d.len,λk=>(e.at_ k).trans (d.at_ k)⟩
theorem iO.set{ds:aF}{k:Int}{d e:bo}(a:i0 ds=64)(b:aX ds k=dB d)(c:e.lost=d.lost):iO ds (bS ds k e):=⟨sS _ _ _,λs=>by
 rw[io a b];split
 ·rename_i h;subst h;rw[b];simp[c]
 ·rfl⟩
theorem iO.live{ds ds':aF}(h:iO ds ds')(l:az):aR ds' l=aR ds l:=by unfold aR;refine List.filter_congr λx _=>?_;unfold isLive;have:=h.at_ x;cases h1:aX ds' x<;>cases h2:aX ds x<;>rw[h1,h2]at this<;>first|rfl|cases this|(injection this with this;simp only[this])
theorem WM{m:aE}{c:ba}{w:Pow}{ds:aF}{s:Int}{d:bo}(a:i0 ds=64)(b:aX ds s=dB d):iO ds (iu m c w ds s d).2.2:=by
 unfold iu;dsimp only;split
 ·exact .set a b (NW _ _ _ _)
 ·rw[rL];exact .set a b ((WL _ _ _).trans (NW _ _ _ _))
theorem Fi{m:aE}{live set order:az}{c:ba}{id:Nat}{w:Pow}{ds:aF}(a:i0 ds=64):∀{l:List Nat},iO ds (fS m live set order c id w ds l).1.2.2
 |[]=>.refl _
 |i::l=>by
  unfold fS;dsimp only;cases hd:aX ds (dU order ((id:Int)+i))with
  |none=>exact Fi a
  |some d=>
   dsimp only;split
   ·exact Fi a
   ·exact WM a hd
theorem acw{m:aE}{live set:az}{w:Pow}{ds:aF}{x:iY}(a:i0 ds=64):iO ds (dS m live set w ds x).2.2.1:=Fi a
theorem NX{m:aE}{live:az}{t most:Int}:∀{f:Nat} {w:Pow} {ds:aF} {x:iY},i0 ds=64->iO ds (cY m live t most f w ds x).2.2.1
 |0,_,_,_,_=>.refl _
 |f+1,w,ds,x,h64=>by
  unfold cY;dsimp only;split
  ·exact .refl _
  ·split
   ·exact .refl _
   ·split
    ·exact .refl _
    ·have a:=acw (m:=m) (live:=live) (set:=(ir m.p x.seed x.W t).1) (w:=w) (x:=x) h64;split
     ·exact a
     ·exact a.trans (NX (a.len.trans h64))
theorem IP{m:aE}{live:az}{t most:Int}(j:most<=64):∀{f:Nat} {w:Pow} {ds:aF} {x:iY},lV m live x->lV m live (cY m live t most f w ds x).2.2.2/\(cY m live t most f w ds x).2.2.2.seed=x.seed/\(cY m live t most f w ds x).2.2.2.M=x.M
 |0,_,_,_,F=>⟨F,i4,i4⟩
 |f+1,w,ds,x,F=>by
  unfold cY;dsimp only;split
  ·exact⟨F,i4,i4⟩
  ·split
   ·exact⟨F,i4,i4⟩
   ·split
    ·exact⟨F,i4,i4⟩
    ·rename_i k;obtain⟨g,i,h3⟩:=Fe (set:=(ir m.p x.seed x.W t).1) (w:=w) (ds:=ds) F i5;have d:(dS m live (ir m.p x.seed x.W t).1 w ds x).2.2.2.seed=x.seed/\(dS m live (ir m.p x.seed x.W t).1 w ds x).2.2.2.M=x.M:=by
      by_cases h:(dS m live (ir m.p x.seed x.W t).1 w ds x).1=0
      ·obtain⟨s,_,e⟩:=i h;rw[e];exact⟨i4,i4⟩
      ·rw[h3 h];exact⟨i4,i4⟩
     split
     ·exact⟨g,d⟩
     ·obtain⟨a,b,c⟩:=IP j (f:=f) (w:=(dS m live (ir m.p x.seed x.W t).1 w ds x).2.1) (ds:=(dS m live (ir m.p x.seed x.W t).1 w ds x).2.2.1) g;exact⟨a,b.trans d.1,c.trans d.2⟩
theorem NY:∀{l:az} {w:Pow} {ds:aF},i0 ds=64->iO ds (eW l w ds).2.2
 |[],_,_,_=>.refl _
 |x::l,w,ds,h64=>by
  have a:iO ds (gI w ds x).2.2:=by
   unfold gI;cases hd:aX ds x with
   |none=>exact .refl _
   |some d=>exact .set h64 hd (acv _ _)
  rw[wf];split
  ·exact a.trans (NY (a.len.trans h64))
  ·exact a
theorem xJ{m:aE}:∀{l:az} {w:Pow} {ds:aF},i0 ds=64->iO ds (cM m l w ds).2.2
 |[],_,_,_=>.refl _
 |k::l,w,ds,h64=>by
  unfold cM;cases hd:aX ds k with
  |none=>exact xJ h64
  |some d=>
   dsimp only;split
   ·exact xJ h64
   ·have a:iO ds (bS ds k (d.rewrite w (bO m d.l)).2.2):=.set h64 hd (IN _ _ _);split
    ·exact a.trans (xJ (a.len.trans h64))
    ·exact a
noncomputable def cT(m:aE)(live:az)(t most:Int)(w:Pow)(ds:aF)(e:bM)(i:Nat):Int×Pow×aF×Nat:=
 let p:=eG m live ds e.object e.tries i
 if p.1≠0 then(p.1,w,ds,0)else
  let q:=cY m live t most 65 w ds p.2
  if q.1=14 then(14,q.2.1,q.2.2.1,q.2.2.2.got.length)else
   let z:=eW (cA q.2.2.2.got) q.2.1 q.2.2.1
   (if z.1≠0 then z.1 else q.1,z.2.1,z.2.2,q.2.2.2.got.length)
theorem WN{m:aE}{live:az}{t most:Int}{w:Pow}{ds:aF}{e:bM}{i:Nat}(a:ds.length=64):iO ds (cT m live t most w ds e i).2.2.1:=by
 unfold cT;dsimp only;split
 ·exact .refl _
 ·have b:=NX (m:=m) (live:=live) (t:=t) (most:=most) (f:=65) (w:=w) (x:=(eG m live ds e.object e.tries i).2) a;split
  ·exact b
  ·exact b.trans (NY (b.len.trans a))
theorem ZI{m:aE}{live:az}{t most:Int}{w:Pow}{ds:aF}{e:bM}{i:Nat}(b:most<=64)(a:∀k d,aX ds k=dB d->i0 d.l<=512)(c:i0 (aR ds m.drives)=i0 live):(cT m live t most w ds e i).2.2.2<=64:=by
 unfold cT;dsimp only;split
 ·exact zE _
 ·rename_i h;have F:=(Fh a c j7).1;have:=(IP (t:=t) (most:=most) b (f:=65) (w:=w) (ds:=ds) F).1.gl;split<;>exact this
noncomputable def eV(m:aE)(live:az)(t most:Int)(e:bM):List Nat->Pow->aF->Nat->Int×Pow×aF×Nat
 |[],w,ds,k=>(0,w,ds,k)
 |i::l,w,ds,k=>
  let q:=cT m live t most w ds e i
  if q.1≠0 then(q.1,q.2.1,q.2.2.1,k+q.2.2.2)else eV m live t most e l q.2.1 q.2.2.1 (k+q.2.2.2)
noncomputable def iy(m:aE)(live:az)(t most:Int):List bM->Pow->aF->Nat->Int×Pow×aF×Nat
 |[],w,ds,k=>(0,w,ds,k)
 |e::l,w,ds,k=>
  let q:=eV m live t most e (qw e.tries.length) w ds k
  if q.1≠0 then q else iy m live t most l q.2.1 q.2.2.1 q.2.2.2
noncomputable def fM(m:aE)(offs:Int)(w:Pow)(ds:aF)(t most:Int):Nat×Int×Pow×aF:=
 if dY w offs then(0,14,w,ds)else if t<0∨t>=(i0 (aR ds m.drives):Int)∨most<0∨most>64 then(0,1,w,ds)else if hJ (i0 (aR ds m.drives):Int) t>4096 then(0,13,w,ds)else
 let c:=cM m (aR ds m.drives) w ds
 if c.1≠0 then(0,c.1,c.2.1,c.2.2)else
  let q:=iy m (aR ds m.drives) t most m.aH c.2.1 c.2.2 0
  (q.2.2.2,q.1,q.2.1,q.2.2.1)
end Wl
namespace Go.Qw
open Go Go.Vc Go.Proofs Wl
section
variable {B:aB} {h0 h:f8} {As:List HP} {a pw:fz} {offs:Int} {da:List aO} {w:Pow} {ds:aF} {m:aE}
theorem WO{c:fz}(y:ci)(u:Sl)(live:az)(t most:Int)(k:Nat)(x:ez)(e:Wl.bM)(i:Nat)(I:bN m=eR)(r:live=aR ds m.drives)(hk:k<=2^30)(g:0<=most/\most<=64)(hi:i<e.tries.length)(X:e.tries.length<=2^20)
  (hS:St B h0 As λh=>dG h y m/\Rd h u 1 aq live/\dT jC h x e)
  (H:aa B h0 h (bI a pw da offs w ds m::ao c 109 (cK a y u t most k)::As)):
  ab xt 60 #[xk (dB c),xn (bP x).toArray,xi xo i] h λv h'=>v=xi xo (cT m live t most w ds e i).1/\
   aa B h0 h' (bI a pw da offs (cT m live t most w ds e i).2.1 (cT m live t most w ds e i).2.2.1 m::ao c 109 (cK a y u t most ((k+(cT m live t most w ds e i).2.2.2:Nat):Int))::As):=by
 refine Au (dB c) x i ?_;unfold ov;have hp:bB m.p=eR:=((fg m).1 ((cF m).1 I).1).2.2.1;have O:=kG I;have Z:live.length<=64:=by rw[r];exact za (qR _ _) O
 have j:∀k∈live,∃d,aX ds k=dB d:=λk hk=>by obtain⟨_,d,R,_⟩:=gH (show k∈aR ds m.drives by rw[<-r];exact hk);exact⟨d,R⟩
 have P:=(oD H).2;have ad:=(oD H).1;have z:∀k d,aX ds k=dB d->d.l.length<=512:=λk d R=>by have:=P k d R;omega
 obtain⟨p,n⟩:∃p,p=eG m live ds e.object e.tries i:=⟨_,rfl⟩
 refine H.boxed λW h1 N=>?_;have N:aa B h0 h1 (bI a pw da offs w ds m::ao c 109 (cK a y u t most k)::ao W 94 (bP x)::As):=N.bw.aZ 3 [1,2,0];refine⟨x,(N.box 2 i4).aS _ i4,(ZH y u live t most k x e i I Z j hi X hS.cons N).mono ?_⟩;rw[<-n];rintro _ h2 ⟨n1,n2⟩;by_cases G:p.1=0
 rotate_left
 ·obtain⟨rfl,V⟩:=n1 G;have L:cT m live t most w ds e i=(p.1,w,ds,0):=by unfold cT;dsimp only;rw[<-n,f9 G]
  rw[L];exact⟨(eH,p.1),i4,bQ (λ_=>⟨i4,V.aZ 3 [0,1]⟩) λh=>absurd h G⟩
 obtain⟨b,cd,rfl,V⟩:=n2 G;have F:=Fh (m:=m) (live:=live) (ds:=ds) (o:=e.object) (tries:=e.tries) (i:=i) z (by rw[r]) (by rw[<-n];exact G);rw[<-n]at F;obtain⟨q,E⟩:∃q,q=cY m live t most 65 w ds p.2:=⟨_,rfl⟩
 have L:cT m live t most w ds e i=(if q.1=14 then(14,q.2.1,q.2.2.1,q.2.2.2.got.length)else
   (if(eW (cA q.2.2.2.got) q.2.1 q.2.2.1).1≠0 then(eW (cA q.2.2.2.got) q.2.1 q.2.2.1).1 else q.1,(eW (cA q.2.2.2.got) q.2.1 q.2.2.1).2.1,(eW (cA q.2.2.2.got) q.2.1 q.2.2.1).2.2,q.2.2.2.got.length)):=by
  unfold cT;dsimp only;rw[<-n,g0 λh=>h G,<-E]
 refine⟨(dB b,0),i4,bQ (λh=>absurd i4 h) λ_=>?_⟩;have Y:St B h0 (AY cd m.p p.2.seed p.2.M::ao W 94 (bP x)::As) λh=>dG h y m/\Rd h u 1 aq live/\AN h cd m.p p.2.seed p.2.M:=λBs h' H'=>by
  obtain⟨z1,z2,_⟩:=hS.cons.cons Bs h' H';exact⟨z1,z2,aiT Bs h' H'⟩
 refine(ZD y u live t most k p.2 I hp Z j i5 F.1 F.2 g Y V).mono ?_;rw[<-E];rintro _ h3 ⟨rfl,H3⟩;refine⟨_,i4,de (λK=>?_) λK=>?_⟩
 ·rw[L,f9 K];exact⟨by rw[K],H3.aZ 5 [0,1]⟩
 rw[L,g0 K];have T:=(IP (m:=m) (live:=live) (t:=t) (most:=most) g.2 (f:=65) (w:=w) (ds:=ds) F.1).1;rw[<-E]at T;obtain⟨wS,gS,D⟩:=Jy (H3.aZ 3 [2,0,1]);have ah:=D.box 4 i4;have D:aa B h0 h3 (bI a pw da offs q.2.1 q.2.2.1 m::ao c 109 (cK a y u t most ((k:Int)+q.2.2.2.got.length))::al 3 gS 1 aq q.2.2.2.got::ao b 187 (gn q.2.2.2 (dB cd) wS gS)::AY cd m.p p.2.seed p.2.M::ao W 94 (bP x)::As):=D.aZ 5 [3,4,0,2];have Q:∀s∈q.2.2.2.got,0<=s/\s<64:=λs J=>by
  have J:=T.gi s J;rw[r]at J;exact mO I s (gH J).1
 refine⟨c,i4,dB a,(D.box 1 i4).cell0 i4,b,i4,gS,(D.box 3 i4).cell i4,?_⟩;refine(aeF gS q.2.2.2.got (St.fj (A:=al 3 gS 1 aq q.2.2.2.got) 1 i4 λh' E=>E.1.seq (λ_=>rfl) E.2) (by have:=T.gl;omega) Q D).mono ?_;rintro _ h5 ⟨rfl,U⟩;refine⟨_,i4,⟨(U.box 1 i4).cell0 i4,trivial⟩,bQ (λS=>?_) λS=>?_⟩
 ·rw[f9 S];exact⟨i4,U.aZ 6 [0,1]⟩
 ·rw[g0 λh=>h S];exact⟨i4,U.aZ 6 [0,1]⟩
def IQ(y:ci)(m:aE)(i:Nat)(e:Wl.bM)(x:ez):HP:=
 ⟨λh q=>(dF y m).p h q/\jC.p h q x e/\∃d,Vc.Seq h q y.2.2.2.2.2.2.2 4 bP d/\d[i]?=dB x,
  λa f=>⟨(dF y m).loc a.1 f,jC.loc a.2.1 f,by obtain⟨d,b,c⟩:=a.2.2;exact⟨d,b.ag f,c⟩⟩,
  λa g=>⟨(dF y m).mono a.1 g,jC.mono a.2.1 g,by obtain⟨d,b,c⟩:=a.2.2;exact⟨d,b.mono g,c⟩⟩⟩
theorem aiB{y:ci}{i:Nat}(f:i<i0 m.aH)(H:aa B h0 h (dF y m::As)):∃x,aa B h0 h (IQ y m i m.aH[i] x::As):=
 aa.ta (F:=λx=>IQ y m i m.aH[i] x) (H.gg 0 i4 λq c=>by
  have a:tk h q y m:=c;obtain⟨b,d,g,e⟩:=bL.kD a.aH;exact⟨b[i]'(by omega),c,e i i5 f,b,d,qd i5⟩)
theorem aiU{y:ci}{i:Nat}{e:Wl.bM}{x:ez}(H:aa B h0 h (IQ y m i e x::As)):aa B h0 h (dF y m::As):=H.gg 0 i4 λq a=>a.1
theorem NZ(t most:Int)(N:bN m=eR)(ht:-(2^62)<=t/\t<=2^62)(H:aa B h0 h (bI a pw da offs w ds m::As)):
  ab xt 15 #[xk (dB a),xi xo t,xi xo most] h λv h'=>v=.tuple #[xi xo ((fM m offs w ds t most).1:Nat),xi xo (fM m offs w ds t most).2.1]/\aa B h0 h' (bI a pw da offs (fM m offs w ds t most).2.2.1 (fM m offs w ds t most).2.2.2 m::As):=by
 refine BO (dB a) t most ?_;unfold uC;have a1:=kG N;have Z:=(oD H).1;obtain⟨live,f⟩:∃live,live=aR ds m.drives:=⟨_,rfl⟩
 have ax:live.length<=64:=by rw[f];exact za (qR _ _) a1
 obtain⟨G,l⟩:∃G,G=fM m offs w ds t most:=⟨_,rfl⟩
 rw[<-l];unfold fM at l;rw[<-f]at l;refine bj (bD (λe=>j3) λ_=>(UM H).mono ?_);rintro _ h1 ⟨rfl,rfl⟩;refine⟨_,i4,bD (λe=>?_) λe1=>?_⟩
 ·rw[f9 e]at l;rw[l];exact⟨i4,H⟩
 rw[g0 n4]at l;refine(UK N H).mono ?_;rintro _ h2 ⟨y,rfl,R2⟩;have H2:=H.ca R2;refine⟨y,i4,(UJ N (H2.aZ 2 [1,0])).mono ?_⟩;rintro _ h3 ⟨c,rfl,R3⟩;rw[<-f]at R3;have H3:=H2.ca R3;refine⟨c,i4,H3.boxed λa5 h5 U=>?_⟩;have U:aa B h0 h5 (bI a pw da offs w ds m::ao a5 109 (cK a y c t most 0)::al 3 c 1 aq live::dF y m::As):=(U.bw).aZ 4 [3,0,1,2];have am:=(U.own 2 i4).len;have W:=U.box 1 i4;refine bj (bY (λ(b:Bool) h'=>b=decide (t<0∨t>=(live.length:Int)∨most<0∨most>64)/\h'=h5) ?_ ?_)
 ·refine ai (λe=>⟨by rw[g9 (.inl e)],i4⟩) λea=>⟨a5,i4,c,W.cell i4,ai (λe=>⟨by rw[g9 (.inr (.inl i5))],i4⟩) λeb=>ai (λe=>⟨by rw[g9 (.inr (.inr (.inl e)))],i4⟩) λec=>⟨?_,i4⟩⟩
  rw[decide_eq_decide];omega
 rintro b h6 ⟨rfl,rfl⟩;refine ai (λe=>by rw[f9 e]at l;rw[l];exact⟨i4,U.aZ 4 [0]⟩) λe2=>?_;rw[g0 e2]at l;have s:0<=most/\most<=64:=i5
 refine⟨a5,i4,c,W.cell i4,(sT ((c.len:Nat):Int) t h6 i5 ht).mono ?_⟩;rintro _ h7 ⟨rfl,rfl⟩;rw[am];refine⟨_,i4,ai (λe=>by rw[f9 e]at l;rw[l];exact⟨i4,U.aZ 4 [0]⟩) λe3=>?_⟩;rw[g0 e3]at l;dsimp only at l;have hS:St B h0 (ao a5 109 (cK a y c t most 0)::al 3 c 1 aq live::dF y m::As) λh=>cv h a5 109 (cK a y c t most 0)/\dG h y m/\Rd h c 1 aq live:=λBs h' I=>
  ⟨(St.fj (A:=ao a5 109 (cK a y c t most 0)) 0 i4 λ_ o=>o.1) Bs h' I,(St.fj (A:=dF y m) 2 i4 λ_ o=>o) Bs h' I,(St.fj (A:=al 3 c 1 aq live) (Q:=λh=>Rd h c 1 aq live) 1 i4 λh' o=>o.1.seq (λ_=>rfl) o.2) Bs h' I⟩
 refine(NH y c live t most 0 N ax (λk hk=>by obtain⟨_,d,X,_⟩:=gH (show k∈aR ds m.drives by rw[<-f];exact hk);exact⟨d,X⟩) hS U).mono ?_;rintro _ h8 ⟨rfl,H8⟩;obtain⟨P,ah⟩:∃P,P=cM m live w ds:=⟨_,rfl⟩
 have L:iO ds P.2.2:=by rw[ah];exact xJ Z
 rw[<-ah]at H8 l⊢;refine⟨_,i4,bQ (λe=>by rw[f9 e]at l;rw[l];exact⟨i4,H8.aZ 4 [0]⟩) λe4=>?_⟩;rw[g0 λh=>h e4]at l;have bb:=H8.box 1 i4;have a8:dG h8 y m:=H8.at 3 i4;refine⟨a5,i4,y.2.2.2.2.2.2.2,by rw[addr_add];exact bb.cell i4,?_⟩;have br:m.aH.length<=12:=((cF m).1 N).2.2.2.1;have bk:∀e∈m.aH,e.tries.length<=8:=λe he=>by
  have h1:=(iR m e).1 (((cF m).1 N).2.2.2.2.1 e he);have h2:=rI h1.2.2.1.2;omega
 have b7:=bL.len a8.aH;have b3:St B h0 (al 3 c 1 aq live::dF y m::As) λh=>dG h y m/\Rd h c 1 aq live:=λBs h' I=>
  ⟨(St.fj (A:=dF y m) 1 i4 λ_ o=>o) Bs h' I,(St.fj (A:=al 3 c 1 aq live) (Q:=λh=>Rd h c 1 aq live) 0 i4 λh' o=>o.1.seq (λ_=>rfl) o.2) Bs h' I⟩
 refine aw (λz:Nat×Pow×aF×Nat=>(z.1:Int)) (λz h'=>z.1<=m.aH.length/\z.2.2.2<=z.1*512/\iO ds z.2.2.1/\iy m live t most m.aH P.2.1 P.2.2 0=iy m live t most (m.aH.drop z.1) z.2.1 z.2.2.1 z.2.2.2/\
  aa B h0 h' (bI a pw da offs z.2.1 z.2.2.1 m::ao a5 109 (cK a y c t most (z.2.2.2:Nat))::al 3 c 1 aq live::dF y m::As)) (λz=>m.aH.length-z.1) (0,P.2.1,P.2.2,0) i4 ⟨zE _,zE _,L,i4,H8⟩ ?_
 rintro⟨i,w1,T,k⟩ h9 ⟨hi,hk,ap,F,H9⟩;dsimp only at hi hk ap F H9⊢;refine ai (λe5=>?_) λe5=>?_
 rotate_left
 ·have ay:i=m.aH.length:=i5
  rw[ay,List.drop_length]at F;rw[F]at l;rw[l];exact⟨a5,i4,(k:Int),(H9.box 1 i4).cell i4,i4,H9.aZ 4 [0]⟩
 have O:i<m.aH.length:=by have cc:(i:Int)<(y.2.2.2.2.2.2.2.len:Int):=e5;omega
 obtain⟨x,M⟩:=aiB O (H9.aZ 4 [3,0,1,2]);obtain⟨E,V⟩:∃E,E=m.aH[i]:=⟨_,rfl⟩
 rw[<-V]at M;obtain⟨b2,b1,ys,a7,a0⟩:=M.at 0 rfl;obtain⟨a3,bd⟩:=qn.1 a0;have b5:E.tries.length<=8:=bk E (by rw[V];exact qh O);refine a7.eJ (g:=bP) i i4 a3 x (by rw[bd]) ?_;refine M.alloc ac i4 λR b6 S=>?_;have S:=S.bw;refine S.storeAll ac 0 i4 i4 (bP x) i4 i4 i4 i4 λa4 u=>?_;have u:aa B h0 a4 (bI a pw da offs w1 T m::ao a5 109 (cK a y c t most (k:Nat))::ao R 94 (bP x)::IQ y m i E x::al 3 c 1 aq live::As):=u.aZ 5 [2,3,0,1,4];have cd:=(u.at 3 i4).2.1.2.len;refine⟨x.2.2.2,(u.box 2 i4).cell i4,?_⟩;have ar:St B h0 (ao R 94 (bP x)::IQ y m i E x::al 3 c 1 aq live::As) λh=>dG h y m/\Rd h c 1 aq live/\dT jC h x E:=λBs h' I=>by
  obtain⟨z1,z2,_⟩:=(St.fj (A:=IQ y m i E x) (Q:=λh=>(IQ y m i E x).p h λb=>b<h.size) 1 rfl λ_ o=>o) Bs h' I;exact⟨z1,(St.fj (A:=al 3 c 1 aq live) (Q:=λh=>Rd h c 1 aq live) 2 i4 λh' o=>o.1.seq (λ_=>rfl) o.2) Bs h' I,z2⟩
 have e0:m.aH.drop i=E::m.aH.drop (i+1):=by rw[V];exact qQ O
 rw[e0,iy]at F;obtain⟨Q,hQ⟩:∃Q,Q=eV m live t most E (qw E.tries.length) w1 T k:=⟨_,rfl⟩
 rw[<-hQ]at F;refine aw (λz:Nat×Pow×aF×Nat=>(z.1:Int)) (λz h'=>z.1<=E.tries.length/\z.2.2.2<=k+z.1*64/\iO ds z.2.2.1/\Q=eV m live t most E ((qw E.tries.length).drop z.1) z.2.1 z.2.2.1 z.2.2.2/\
  aa B h0 h' (bI a pw da offs z.2.1 z.2.2.1 m::ao a5 109 (cK a y c t most (z.2.2.2:Nat))::ao R 94 (bP x)::IQ y m i E x::al 3 c 1 aq live::As)) (λz=>E.tries.length-z.1) (0,w1,T,k) i4 ⟨zE _,qk _,ap,hQ,u⟩ ?_
 rintro⟨j,w2,r,k2⟩ b4 ⟨hj,a9,D,n,q⟩;dsimp only at hj a9 D n q⊢;have b0:i<=12:=i5
 refine ai (λe6=>?_) λe6=>?_
 ·have a6:j<E.tries.length:=by have a2:(j:Int)<(x.2.2.2.len:Int):=e6;omega
  have X:(qw E.tries.length).drop j=j::(qw E.tries.length).drop (j+1):=by rw[qQ i9,y9]
  rw[X,eV]at n;have K:live=aR r m.drives:=by rw[D.live];exact f
  refine⟨x,(q.box 2 i4).aS _ i4,(WO y c live t most k2 x E j N K i5 s a6 i5 ar q).mono ?_⟩;rintro _ b9 ⟨rfl,J⟩;have Y:=ZI (m:=m) (live:=live) (t:=t) (most:=most) (w:=w2) (ds:=r) (e:=E) (i:=j) s.2 (λk d X=>by have:=(oD q).2 k d X;omega) (by rw[<-K]);have ad:=WN (m:=m) (live:=live) (t:=t) (most:=most) (w:=w2) (ds:=r) (e:=E) (i:=j) (D.len.trans Z);obtain⟨b,hb⟩:∃b,b=cT m live t most w2 r E j:=⟨_,rfl⟩
  rw[<-hb]at J n Y ad⊢;refine⟨_,i4,bQ (λe7=>?_) λe7=>?_⟩
  ·rw[f9 e7]at n;rw[n,f9 e7]at F;rw[F]at l;rw[l];exact⟨a5,i4,((k2+b.2.2.2:Nat):Int),(J.box 1 i4).cell i4,i4,J.aZ 5 [0]⟩
  ·rw[g0 λh=>h e7]at n;refine⟨(j+1,b.2.1,b.2.2.1,k2+b.2.2.2),js,⟨i7,i7,D.trans ad,n,J⟩,i7⟩
 ·have bl:j=E.tries.length:=by have a2:¬(j:Int)<(x.2.2.2.len:Int):=e6;omega
  rw[bl,zf jj,eV]at n;rw[n,g0 λh=>h rfl]at F;have bq:=(aiU (q.aZ 4 [3,0,1])).aZ 3 [1,2,0];refine⟨(i+1,w2,r,k2),js,⟨i7,i7,D,F,?_⟩,i7⟩;exact bq.aZ 4 [0,1,3,2]
end
theorem Oa{o b:Int}{live:az}(i:0<=o/\o<=16777215)(g:0<=b/\b<8)(d:live.Nodup)(c:∀k∈live,0<=k/\k<64):(cQ o b live).Nodup/\(cQ o b live).Perm live:=by
 have e:cQ o b live=uq ((8*o+b)%64).toNat live:=by unfold cQ;rw[f9 i5]
 rw[e];have f:=aei ((8*o+b)%64).toNat live;refine⟨f,(List.perm_ext_iff_of_nodup f d).2 λa=>?_⟩;rw[Iv];exact⟨λh=>h.1,λh=>⟨h,c a h⟩⟩
theorem aeM{a b:di}(c:rS a b=eR)(d:rS b a=eR):oG a b=eR:=by unfold rS at c d;rw[decide_eq_true_eq]at c d;rw[mf];omega
theorem aeN{a b c:di}(h:rS a b=eR)(d:oG a c=eR):rS c b=eR:=by rw[mf]at d;unfold rS at h⊢;rw[decide_eq_true_eq]at h⊢;omega
theorem ZJ{l:List di}(h:l.Pairwise λa b=>rS a b=eR):(pT l).Pairwise λa b=>oG a b=eS:=by
 unfold pT;rw[List.pairwise_map];have k:((qw l.length).filter (pS l)).Pairwise (·<·):=(List.pairwise_lt_range (n:=i0 l)).filter _;refine k.imp_of_mem λ{i j} hi hj hlt=>?_;have c:=qE.1 (qI.1 hj).1;have d:=(qI.1 hj).2;rw[ge _ (show i<i0 l by omega),ge _ c];refine eq_false_of_ne_true λo=>?_;unfold pS at d;rw[hZ i5,Bool.false_or,Bool.not_eq_true',ge _ c,ge _ (show j-1<i0 l by omega)]at d;have f:=zm.1 h;have g:rS l[i] l[j-1]=eR:=by
  by_cases e:i=j-1
  ·subst e;unfold rS;rw[decide_eq_true_eq];omega
  ·exact f i (j-1) i5 i5 i5
 have m:rS l[j-1] l[j]=eR:=f (j-1) j i5 c i5;have:=aeM (aeN g o) m;rw[d]at this;cases this
theorem WP(m:aE)(l:cw):(cU m l).Pairwise λa b=>oG a b=eS:=ZJ (yq aht.1 aht.2 _)
theorem sV{α:Type}[DecidableEq α]:∀{l m:List α},l.Nodup->(∀x∈l,x∈m)->i0 l<=i0 m
 |[],m,_,_=>zE _
 |x::l,m,h,hs=>by
  obtain⟨d,f⟩:=List.nodup_cons.1 h;have c:=hs x qH;have:=sV (l:=l) (m:=m.erase x) f λy b=>by
   have a:y≠x:=λe=>d (e▸b);exact(List.mem_erase_of_ne a).2 (hs y (qC _ b))
  rw[List.length_erase_of_mem c]at this;have:=List.length_pos_of_mem c;rw[List.length_cons];omega
section
variable {m:aE} {C:Int->ba} {ds:aF} {offs:Int} {w:Pow}
def Low(m:aE)(ds:aF):Prop:=∀k d,aX ds k=dB d->∀c∈d.l,∀r,eF c=dB r->fB m r=eR->r.id<m.p.1+m.extra
structure Full (m:aE) (C:Int->ba) (ds:aF):Prop where
 live:∀k∈m.drives,∃d,aX ds k=dB d/\d.lost=eS/\jD m d.l=eR
 all:∀e∈m.aH,∀i:Nat,i<e.tries.length->∀id:Nat,id<(m.p.1+m.extra).toNat->∃k∈m.drives,∃d,aX ds k=dB d/\cL (lj m e.object i (ce e.object i (e.tries.getD i 0)) (fp m C e.object i) id)∈d.l
theorem Full.aR(F:Full m C ds):Wl.aR ds m.drives=m.drives:=zU.2 λk b=>by
 obtain⟨d,a,c,_⟩:=F.live k b;unfold isLive;rw[a];simp[c]
theorem dZ.acx(S:dZ m C ds){e:Wl.bM}(a:e∈m.aH):e.tries.length<=8:=by obtain⟨_,_,h3,_,b⟩:=(iR m e).1 (S.entry a);have:=rI h3.2;omega
theorem dZ.DW(S:dZ m C ds){e:Wl.bM}(a:e∈m.aH){i:Nat}(d:i<e.tries.length){id:Nat}(hid:id<=65535):jv (lj m e.object i (ce e.object i (e.tries.getD i 0)) (fp m C e.object i) id)=eR:=by obtain⟨K,H,w,n,B⟩:=S.fP a d;have h8:=S.acx a;have c:=((iR m e).1 (S.entry a)).2.1;have b:=((fg m).1 ((cF m).1 S.may).1).2.1;exact Uy B ⟨c.1,i5⟩ ⟨i5,i5⟩ ⟨i5,i5⟩
theorem dZ.counts(S:dZ m C ds){e:Wl.bM}(a:e∈m.aH){i:Nat}(b:i<e.tries.length){id:Nat}(hid:id<=65535):fB m (lj m e.object i (ce e.object i (e.tries.getD i 0)) (fp m C e.object i) id)=eR:=
 mD.2 ⟨S.DW a b hid,i4,e,a,i4,by show(i:Int)<_;omega,by show ce e.object i _=ce e.object (i:Int) (e.tries.getD (i:Int).toNat 0);rw[qm]⟩
theorem dZ.aeO(S:dZ m C ds){id:Nat}(h:id<(m.p.1+m.extra).toNat):id<=65535:=by obtain⟨_,_,a,b⟩:=(fg m).1 ((cF m).1 S.may).1;have:=(bZ m.p).1 a;omega
theorem dZ.aiV(S:dZ m C ds){e:Wl.bM}(b:e∈m.aH){i:Nat}(c:i<e.tries.length){id:Nat}(hid:id<=65535){k:Int}(g:k∈aR ds m.drives){d:bo}(a:aX ds k=dB d)
  (h:cL (lj m e.object i (ce e.object i (e.tries.getD i 0)) (fp m C e.object i) id)∈d.l):(id:Int)∈gx m ds e.object i:=by
 have f:=nB S.may (S.cells k d a) h (tK (S.DW b c hid) (lm _ _ _)) (S.counts b c hid);unfold gx dN;refine qt.2 ⟨((id:Int),(lj m e.object i (ce e.object i (e.tries.getD i 0)) (fp m C e.object i) id).data),zD.2 ⟨k,g,?_⟩,i4⟩;unfold fW;rw[a];exact qt.2 ⟨_,qI.2 ⟨f,by simp[lj]⟩,i4⟩
theorem acy{p:Pm}(a:bB p=eR){i:Int}(h:i∈ff p):∃id:Nat,i=id/\(id:Int)<p.1:=by have:=(bZ p).1 a;unfold ff upto at h;obtain⟨id,hid,rfl⟩:=qt.1 h;have:=qE.1 hid;exact⟨id,i4,i5⟩
theorem Full.can(F:Full m C ds)(S:dZ m C ds)(f:m.drives≠[]){e:Wl.bM}(g:e∈m.aH):uN m ds e=eR:=by
 unfold uN;rw[qz];constructor
 ·unfold nC;rw[F.aR];obtain⟨k,c⟩:=List.exists_mem_of_ne_nil _ f;obtain⟨d,q,_,h3⟩:=F.live k c;exact zV.2 ⟨k,c,by unfold DV;rw[q];exact h3⟩
 ·refine qL.2 λi b=>?_;have b:=qE.1 b;obtain⟨K,H,w,n,B⟩:=S.fP g b;refine nA B.may (ids:=ff m.p) (λj h=>?_) B.full;obtain⟨id,rfl,hid⟩:=acy S.rO h;have r:=((fg m).1 ((cF m).1 S.may).1).2.2.2;have a:id<(m.p.1+m.extra).toNat:=i5
  obtain⟨k,c,d,o,l⟩:=F.all e g i b id a;exact S.aiV g b (S.aeO a) (by rw[F.aR];exact c) o l
theorem QR(m:aE)(d:bo)(N:Int):(cZ m d N).lost=d.lost/\(cZ m d N).room=d.room:=by unfold cZ;split<;>exact⟨i4,i4⟩
theorem CQ{t:az}{b:ba}{n:aE}{k:Int}{d:bo}(a:k∈aR ds m.drives):
  (oL m ds t b n k d).lost=d.lost/\(oL m ds t b n k d).room=d.room/\∃N,(oL m ds t b n k d).l=(cZ m d N).l++((iU m m.next t (splitB m.p b) (aR ds m.drives) k (splitB m.p b).length).map cL++bm n):=by
 unfold oL;rw[f9 a];refine⟨by rw[(ut _ _).1,(QR _ _ _).1],by rw[(ut _ _).2,(QR _ _ _).2],_,NE _ _⟩
theorem acz{n:aE}(a:bN n=eR){l1 l2:cw}(h:∀c∈bm n,c∈l2):jD n (l1++l2)=eR:=by unfold jD;rw[a,zJ];exact qL.2 λc b=>g9 (zM _ (h c b))
theorem Full.put(F:Full m C ds)(S:dZ m C ds){name:ByteArray}{b:ba}{t:az}{ds':aF}(I:eC m (dY w offs) ds name b.length=0)(L:cX m.p m.next (splitB m.p b).length=dB t)
  (M:dZ (eZ m ⟨name,m.next,b.length,t⟩) (jM C m.next b) ds') (g:∀k,aX ds' k=(aX ds k).map (oL m ds t b (eZ m ⟨name,m.next,b.length,t⟩) k)):Full (eZ m ⟨name,m.next,b.length,t⟩) (jM C m.next b) ds':=by
 have a:=F.aR;obtain⟨R,Q,z3,z4,z5⟩:=ny I;have x:m.drives≠[]:=by rw[<-a];exactλh=>z5 (.inl h)
 have z:m.next<=16777215:=by have:¬16777215<m.next:=λh=>z5 (.inr (.inl h));omega
 refine⟨λk f=>?_,λe l i r id hid=>?_⟩
 ·have f:k∈m.drives:=f;obtain⟨d,v,G,h3⟩:=F.live k f;obtain⟨A,E,N,q⟩:=CQ (m:=m) (t:=t) (b:=b) (n:=eZ m ⟨name,m.next,b.length,t⟩) (d:=d) (show k∈Wl.aR ds m.drives by rw[a];exact f);refine⟨_,by rw[g,v,qT],by rw[A];exact G,?_⟩;rw[q];exact acz M.may λc s=>zM _ s
 ·have hid:id<(m.p.1+m.extra).toNat:=hid;rcases EZ.1 l with l|rfl
  ·have O:=S.old l;obtain⟨k,f,d,D,s⟩:=F.all e l i r id hid;obtain⟨A,E,N,q⟩:=CQ (m:=m) (t:=t) (b:=b) (n:=eZ m ⟨name,m.next,b.length,t⟩) (d:=d) (show k∈Wl.aR ds m.drives by rw[a];exact f);refine⟨k,f,_,by rw[g,D,qT],?_⟩;rw[q];have u:fp (eZ m ⟨name,m.next,b.length,t⟩) (jM C m.next b) e.object i=fp m C e.object i:=NS i4 (by unfold jM;rw[g0 i5]);rw[u];exact zn _ (aeK S.may (S.cells k d D) s (tK (S.DW l r (S.aeO hid)) (lm _ _ _)) (S.counts l r (S.aeO hid)))
  ·have r:i<t.length:=r;have K:=jc L;have h8:=Jv S.rO λh=>z4 (.inl h);have y:=((fg m).1 ((cF m).1 S.may).1).2.1.1;have H:(0:Int)<=(i:Int)/\(i:Int)<8:=⟨i5,i5⟩
   have J:=Oa (o:=m.next) (b:=(i:Int)) (live:=m.drives) ⟨y,z⟩ H (nE S.may) (mO S.may);obtain⟨P,B⟩:=J;have one:cQ m.next i m.drives≠[]:=λh=>by rw[h]at B;exact x (List.nil_perm.1 B)
   have j:dU (cQ m.next i m.drives) id∈m.drives:=by rw[aiq one];exact B.mem_iff.1 (qh _)
   obtain⟨d,v,G,h3⟩:=F.live _ j;obtain⟨A,E,N,q⟩:=CQ (m:=m) (t:=t) (b:=b) (n:=eZ m ⟨name,m.next,b.length,t⟩) (d:=d) (show dU (cQ m.next i m.drives) id∈Wl.aR ds m.drives by rw[a];exact j);refine⟨_,j,_,by rw[g,v,qT],?_⟩;rw[q];refine zM _ (zn _ (qt.2 ⟨_,?_,i4⟩));have u:fp (eZ m ⟨name,m.next,b.length,t⟩) (jM C m.next b) m.next i=(splitB m.p b).getD i []:=by unfold fp jM;rw[f9 i4,qm];rfl
   show lj m m.next i (ce m.next i (t.getD i 0)) (fp (eZ m ⟨name,m.next,b.length,t⟩) (jM C m.next b) m.next i) id∈_;rw[u,a];unfold iU;refine zD.2 ⟨i,qE.2 i5,?_⟩;unfold sQ;exact qt.2 ⟨id,qI.2 ⟨qE.2 hid,g9 i4⟩,i4⟩
end
section
variable {m:aE} {C:Int->ba} {ds:aF} {offs:Int} {w:Pow}
theorem acA{t:az}{b:ba}{live:az}{k:Int}{nb:Nat}:i0 (lR (dL m m.next t (splitB m.p b) live nb) k)<=nb*(m.p.1+m.extra).toNat:=by rw[LC,qA];exact Wi m m.next t (splitB m.p b) live k nb
end
end Go.Qw
namespace Wl
open Go Go.Qw Go.Vc
end Wl
namespace Go.Vc
open Go
end Go.Vc
namespace Go.Qw
open Go Go.Vc Go.Proofs Wl
section
variable {B:aB} {h0 h:f8} {As:List HP} {a pw:fz} {offs:Int} {da:List aO} {w:Pow} {ds:aF} {m:aE} {s:Sl}
end
section
variable {B B':aB} {h0 h0' h h':f8} {As As':List HP} {a b pw pw2:fz} {d:bo}
end
section
variable {B:aB} {h0 h:f8} {As:List HP} {a a2 pw pw2:fz} {mc:bc} {offs:Int} {da da2:List aO} {w:Pow} {ds:aF}
end
section
variable {B:aB} {h0 h:f8} {As:List HP} {a pw b:fz} {x:ci} {offs:Int} {da:List aO} {w:Pow} {ds:aF} {d:bo}
end
end Go.Qw
namespace Go.Vc
open Go Wl Go.Qw
def sW(l:az)(k:Nat):Int:=l.getD k 0
def jy(l:az):Pm:=DQ (sW l 0) (sW l 1) (sW l 2)
def AZ(l:az):Nat:=(2+sW l 4%4).toNat
def Fj(l:az):az:=(qw (AZ l)).map λi=>8+sW l (5+i)%50
def aiC(l:az):Int:=sW l 3%7
theorem agU(l:az):2<=AZ l/\AZ l<=5:=by unfold AZ;omega
theorem aeP(l:az):i0 (Fj l)=AZ l:=by simp[Fj]
end Go.Vc
namespace Go.Qw
open Go Go.Vc Go.Proofs Wl
section
variable {B:aB} {h0 h:f8} {As:List HP} {a pw:fz} {offs:Int} {da:List aO} {w:Pow} {ds:aF}
theorem sX(s:Sl)(l:az)(k:Nat)(h:f8)(b:Rd h s 1 aq l):ab xt 38 #[s,xi xo k] h λv h'=>v=xi xo (sW l k)/\h'=h:=by
 refine Ct s k ?_;unfold rg sW;have c:=b.len;refine ai (λe=>?_) (λe=>⟨?_,i4⟩)
 ·have a:k<i0 l:=i5
  refine b.bC k i4 a (l.getD k 0) (by rw[getD_lt a];rfl) ⟨i4,i4⟩
 ·rw[qe,qV i5];rfl
theorem WQ(s:Sl)(l:az)(h:f8)(p:Rd h s 1 aq l):ab xt 7 #[s] h λv h'=>∃r:Sl,v=.tuple #[lu (jy l),xi xo (aiC l),r]/\Sp h h' [al 3 r 1 aq (Fj l)]:=by
 refine xy s ?_;unfold nS;refine(Sp.refl h).alloc ac i4 λw B u=>?_;have b:=p.up u.ag;refine(sX s l 0 B b).mono ?_;rintro _ _ ⟨rfl,rfl⟩;refine⟨_,i4,(sX s l 1 _ b).mono ?_⟩;rintro _ _ ⟨rfl,rfl⟩;refine⟨_,i4,(sX s l 2 _ b).mono ?_⟩;rintro _ I ⟨rfl,rfl⟩;refine⟨_,i4,(Zk _ _ _ I).mono ?_⟩;rintro _ P ⟨rfl,D⟩;have F:=u.up D.ag;refine⟨jy l,i4,?_⟩;refine F.alloc ac i4 λd Q z=>?_;refine z.storeAll ac 1 i4 i4 [xi xo (jy l).1,xi xo (jy l).2.1,xi xo (jy l).2.2] i4 i4 i4 i4 λA k=>?_;have k:Sp h A [al 3 ⟨eH,0,0⟩ 1 aq ((Fj l).take 0),ao d 24 [xi xo (jy l).1,xi xo (jy l).2.1,xi xo (jy l).2.2],ao w 24 [xi xo 0,xi xo 0,xi xo 0]]:=(k.nil 3 1 aq).cE [2,1,0];have N:=agU l;have y:=aeP l;refine aw (λt:Sl×Nat=>(t.1,(t.2:Int))) (λt h'=>t.2<=AZ l/\Sp h h' [al 3 t.1 1 aq ((Fj l).take t.2),ao d 24 [xi xo (jy l).1,xi xo (jy l).2.1,xi xo (jy l).2.2],ao w 24 [xi xo 0,xi xo 0,xi xo 0]]) (λt=>AZ l-t.2) (⟨eH,0,0⟩,0) i4 ⟨jj,k⟩ ?_;rintro⟨o,i⟩ h8 ⟨O,c⟩;dsimp only at*;have a:=p.up c.ag;refine(sX s l 4 h8 a).mono ?_;rintro _ _ ⟨rfl,rfl⟩;refine⟨_,i4,(fA _ 4 _ i6 i6).mono ?_⟩;rintro _ h8 ⟨rfl,rfl⟩;refine⟨_,i4,?_⟩;have g:=c.box 1 i4;dsimp only;rw[ak (2+sW l 4%4)];have n:2+sW l 4%4=(AZ l:Int):=by unfold AZ;omega
 rw[n];refine ai (λe=>?_) (λe=>?_)
 ·have E:i<AZ l:=i5
  rw[ak ((5:Int)+i)];have L:(5:Int)+i=((5+i:Nat):Int):=i5
  rw[L];refine(sX s l (5+i) h8 a).mono ?_;rintro _ _ ⟨rfl,rfl⟩;refine⟨_,i4,(fA _ 50 _ i6 i6).mono ?_⟩;rintro _ J ⟨rfl,rfl⟩;refine⟨_,i4,?_⟩;dsimp only;rw[ak (8+sW l (5+i)%50)];refine c.push ac 0 i4 gm i4 i6 (λ_=>rfl) fN (8+sW l (5+i)%50) i4 i6 i9 λx G j=>?_;refine⟨(x,i+1),js,⟨i7,?_⟩,i7⟩;dsimp only;rw[aG _ _ (show i<i0 (Fj l) by omega)];have H:(Fj l)[i]'(by omega)=8+sW l (5+i)%50:=by simp[Fj]
  rw[H];exact j
 ·have m:i=AZ l:=i5
  subst m;rw[qi i5]at c;have q:av.ok [(d,(xi xo (jy l).1)),(d.add 1,(xi xo (jy l).2.1)),(d.add 2,(xi xo (jy l).2.2))] h8:=⟨g.cell0 i4,g.cell i4,g.cell i4,trivial⟩
  refine⟨jy l,g.aS _ i4,(sX s l 3 h8 a).mono ?_⟩;rintro _ _ ⟨rfl,rfl⟩;refine⟨_,i4,q,(fA _ 7 _ i6 i6).mono ?_⟩;rintro _ M ⟨rfl,rfl⟩;refine⟨_,i4,q,?_⟩;refine c.storeAll ac 2 i4 i4 [xi xo (jy l).1,xi xo (jy l).2.1,xi xo (jy l).2.2] i4 i4 i4 i4 λK f=>⟨trivial,?_⟩
  exact⟨jy l,(f.box 2 i4).aS _ i4,o,i4,f.cE [0]⟩
end
end Go.Qw
namespace Wl
structure Mv where
 kind:Int
 name:ByteArray
 data:ba
 slot:Int
 n:Int
 m:Int
 mask:Int
 keeps:az
 torns:az
def nms:List ByteArray:=[⟨#[97]⟩,⟨#[98]⟩,⟨#[99,97,116,45,55]⟩,⟨#[100]⟩,⟨#[101,49,50,51,52,53,54,55,56,57,48,49]⟩]
end Wl
namespace Go.Vc
open Go Wl
abbrev IR(s:ByteArray):bc:=[xl s]
theorem agV:∀x,∀c∈IR x,c.oneCell'=eR:=by intro x c a;simp[IR]at a;subst a;rfl
end Go.Vc
namespace Go.Qw
open Go Go.Vc Go.Proofs Wl
abbrev ajn:cj C.toCU 37 9 1 [xl ⟨#[]⟩] 16:=⟨_,_,i4,i4,i4,i4,i4,i4⟩
theorem agW{p:Pm}{extra:Int}{l:az}(e:bB p=eR)(j:0<=extra/\extra<=16)(f:1<=i0 l/\l.length<=24)(h:∀x∈l,1<=x/\x<=512):
  sP p extra l=0/\bp l l.length=(qw l.length).map λi:Nat=>(i:Int):=by
 have d:∀i (a:i<i0 l),1<=l.getD i 0/\l.getD i 0<=512:=λi a=>by rw[ge 0 a];exact h _ (qh a)
 have h0:bp l l.length=(qw l.length).map λi:Nat=>(i:Int):=by unfold bp;refine zU.2 λy b=>?_;obtain⟨i,a,rfl⟩:=qt.1 b;have a:=qE.1 a;have:=d i a;rw[qm];exact g9 i5
 refine⟨?_,h0⟩;have g:(eU l).2=eR:=by have c:l.all (fq · 0 512)=eR:=qL.2 λy b=>(kw _ _ _).2 ⟨by have:=h y b;omega,(h y b).2⟩;unfold eU;rw[f9 c,h0];simp;omega
 have k:fq extra 0 16=eR:=(kw _ _ _).2 j;have h3:((bp l l.length).any λi=>decide (l.getD i.toNat 0<(i0 (bm (ck p extra l)):Int)))=eS:=by refine wi.2 λy b=>?_;rw[h0]at b;obtain⟨i,a,rfl⟩:=qt.1 b;have a:=qE.1 a;have m:=Ge p extra l f.2;have:=d i a;rw[qm,decide_eq_true_eq];omega
 unfold sP;rw[g,e,k,h3];rfl
theorem acB{p:Pm}{extra:Int}{l:az}{D:aF}{m:aE}(n:m=ck p extra l)(w:sP p extra l=0)(v:i0 l<=64)(i:i0 D=64)
  (t:∀s,aX D s=if s∈bp l l.length then dB ⟨(l.getD s.toNat 0).toNat,bm m,0,[],eS,eS⟩else eH) (C:Int->ba):dZ m C D/\Full m C D/\Low m D:=by
 have b:bN m=eR:=by rw[n];exact LB v w
 have j:m.drives=bp l l.length:=by rw[n];rfl
 have u:m.aH=[]:=by rw[n];rfl
 have f:∀k d,aX D k=dB d->∀c∈d.l,c∈bm m:=λk d a c f=>by
  rw[t]at a;split at a
  ·injection a with a;subst a;exact f
  ·cases a
 refine⟨⟨b,i,λk d a c h=>Jz C b (f k d a c h),λe g=>by rw[u]at g;cases g⟩,⟨λk q=>?_,λe g=>by rw[u]at g;cases g⟩,λk d a c h r o=>?_⟩
 ·rw[j]at q;refine⟨_,by rw[t,f9 q],i4,?_⟩;unfold jD;rw[b,zJ];exact qL.2 λc f=>g9 f
 ·rw[th (f k d a c h)]at o;cases o
structure Inv (m:aE) (C:Int->ba) (ds:aF) (N:Nat):Prop where
 sto:dZ m C ds
 full:Full m C ds
 low:Low m ds
 nm:∀e∈m.aH,e.name∈nms
 dr:m.drives≠[]
 seq:m.seq<=1+N
 nx:m.next<=N
theorem GS{l:az}(h:l.Pairwise (·<·)):ly l=l:=by have f:(ly l).Perm l:=List.mergeSort_perm _ _;have g:(ly l).Pairwise (λa b=>decide (a<=b)=eR):=yq (λa b c d e=>by simp at*;omega) (λa b=>i9) l;refine f.eq_of_pairwise (le:=λa b:Int=>decide (a<=b)=eR) ?_ g (h.imp λh=>i9);intro a b _ _ d e;simp at d e;omega
theorem Cf(c:Nat)(x:Int)(d:0<x:=by omega):bp (qg c x) (qg c x).length=(qw c).map λi:Nat=>(i:Int):=by rw[wP];unfold bp;refine zU.2 λy b=>?_;obtain⟨i,a,rfl⟩:=qt.1 b;have a:=qE.1 a;simp[qe,a];omega
theorem acC{p:Pm}{extra:Int}(e:bB p=eR)(h:0<=extra/\extra<=16)(c:Nat)(x:Int)(m:1<=c/\c<=24)(k:1<=x/\x<=512):sP p extra (qg c x)=0:=by
 have g:(eU (qg c x)).2=eR:=by
  have a:(qg c x).all (fq · 0 512)=eR:=qL.2 λy b=>by
   rw[vq b];exact(kw _ _ _).2 ⟨i5,i5⟩
  unfold eU;rw[f9 a,Cf c x,wP];simp;omega
 have j:fq extra 0 16=eR:=(kw _ _ _).2 h;have h3:((bp (qg c x) (qg c x).length).any λi=>decide ((qg c x).getD i.toNat 0<(i0 (bm (ck p extra (qg c x))):Int)))=eS:=by
  refine wi.2 λy b=>?_;rw[Cf c x]at b;obtain⟨i,d,rfl⟩:=qt.1 b;have d:=qE.1 d;have l:=Ge p extra (qg c x) i9;have f:(qg c x).getD ((i:Int)).toNat 0=x:=by rw[qm];simp[qe,d]
  rw[f];simp;omega
 unfold sP;rw[g,e,j,h3];rfl
structure JB (p:Pm) (extra:Int) (c:Nat) (x:Int) (m:aE) (D:aF):Prop where
 m_eq:m=ck p extra (qg c x)
 len:i0 D=64
 may:bN m=eR
 dr:m.drives=(qw c).map λi:Nat=>(i:Int)
 at_:∀s,aX D s=if s∈m.drives then dB ⟨x.toNat,bm m,0,[],eS,eS⟩else eH
theorem aeQ{p:Pm}{extra:Int}{c:Nat}{x:Int}(e:bB p=eR)(j:0<=extra/\extra<=16)(k:1<=c/\c<=24)(d:1<=x/\x<=512){D:aF}(a:i0 D=64)
  (f:∀s,aX D s=if s∈bp (qg c x) (qg c x).length then dB ⟨((qg c x).getD s.toNat 0).toNat,bm (ck p extra (qg c x)),0,[],eS,eS⟩else eH):JB p extra c x (ck p extra (qg c x)) D:=by
 have g:=acC e j c x k d;refine⟨i4,a,LB i9 g,Cf c x,λs=>?_⟩;rw[f s];show(if s∈bp _ _ then _ else eH)=(if s∈bp _ _ then _ else eH)
 by_cases h:s∈bp (qg c x) (qg c x).length
 ·rw[f9 h,f9 h];rw[Cf c x]at h;obtain⟨i,b,rfl⟩:=qt.1 h;have b:=qE.1 b;rw[qm,ge 0 k0,List.getElem_replicate]
 ·rw[g0 h,g0 h]
theorem JB.live{p:Pm}{extra:Int}{c:Nat}{x:Int}{m:aE}{D:aF}(F:JB p extra c x m D):aR D m.drives=m.drives:=zU.2 λk a=>by
 unfold isLive;rw[F.at_ k,f9 a];rfl
theorem JB.aH{p:Pm}{extra:Int}{c:Nat}{x:Int}{m:aE}{D:aF}(F:JB p extra c x m D):m.aH=[]/\m.seq=1/\m.next=0/\m.p=p/\m.extra=extra:=by rw[F.m_eq];exact⟨i4,i4,i4,i4,i4⟩
section
variable {B:aB} {h0 h:f8} {As:List HP}
end
end Go.Qw
namespace Wl
open Go Go.Qw Go.Vc
end Wl
namespace Go.Qw
open Go Go.Vc Go.Proofs Wl
section
variable {B:aB} {h0 h:f8} {As:List HP} {a pw v:fz} {offs:Int} {da:List aO} {w:Pow} {ds:aF} {mc:bc}
end
section
variable {B:aB} {h0 h:f8} {As:List HP} {a pw v:fz} {offs:Int} {da:List aO} {w:Pow} {ds:aF} {mc:bc}
end
section
variable {B:aB} {h0 h:f8} {As:List HP} {a pw v:fz} {offs:Int} {da:List aO} {w:Pow} {ds:aF} {mc:bc}
end
end Go.Qw
namespace Wl
open Go Go.Qw Go.Vc
end Wl
namespace Go.Qw
open Go Go.Vc Go.Proofs Wl
section
variable {B:aB} {h0 h:f8} {As:List HP} {a pw v:fz} {offs:Int} {da:List aO} {w:Pow} {ds:aF} {mc:bc}
end
end Go.Qw
namespace Wl
open Go Go.Qw Go.Vc
end Wl
namespace Go.Qw
open Go Go.Vc Go.Proofs Wl
section
variable {B:aB} {h0 h:f8} {As:List HP} {a pw v:fz} {offs:Int} {da:List aO} {w:Pow} {ds:aF} {mc:bc}
end
end Go.Qw
namespace Wl
open Go Go.Qw Go.Vc
def nR(m:aE)(offs:Int)(w:Pow)(ds:aF)(a:Int):Int×aF:=
 if dY w offs then(14,ds)else if a∉aR ds m.drives then(5,ds)else
 match aX ds a with
 |some d=>(0,bS ds a d.Cn)
 |none=>(5,ds)
end Wl
namespace Go.Qw
open Go Go.Vc Go.Proofs Wl
section
variable {B:aB} {h0 h:f8} {As:List HP} {a pw:fz} {offs:Int} {da:List aO} {w:Pow} {ds:aF} {m:aE}
theorem aeR(b:Int)(k:bN m=eR)(H:aa B h0 h (bI a pw da offs w ds m::As)):
  ab xt 28 #[xk (dB a),xi xo b] h λv h'=>v=xi xo (nR m offs w ds b).1/\aa B h0 h' (bI a pw da offs w (nR m offs w ds b).2 m::As):=by
 obtain⟨x,H⟩:=gN H;by_cases j:dY w offs=eR∨b∉aR ds m.drives
 ·refine(UG b x m (H.at 1 i4) (jY k) H j).mono ?_;rintro _ h' ⟨rfl,R⟩;by_cases c:dY w offs=eR
  ·have e:nR m offs w ds b=(14,ds):=by unfold nR;rw[f9 c]
   rw[e,f9 c];exact⟨i4,mA (H.up R.ag)⟩
  ·have i:b∉aR ds m.drives:=j.resolve_left c;have e:nR m offs w ds b=(5,ds):=by unfold nR;rw[g0 c,f9 i]
   rw[e,g0 c];exact⟨i4,mA (H.up R.ag)⟩
 ·have c:¬dY w offs=eR:=λh=>j (.inl h);have i:¬b∉aR ds m.drives:=λh=>j (.inr h);have g:b∈aR ds m.drives:=Decidable.not_not.1 i;obtain⟨r,d,f,h3⟩:=gH g;obtain⟨n,rfl,q⟩:=kO f;have p:ds[n]?=dB (dB d):=by
   unfold aX at f;rw[f9 i5,qm]at f;cases hX:ds[n]? with
   |none=>rw[hX]at f;cases f
   |some o=>rw[hX]at f;exact congrArg dB f
  refine(Wk n x m (H.at 1 i4) (jY k) H oo g p).mono ?_;rintro _ h' ⟨rfl,l⟩;have e:nR m offs w ds (n:Int)=(0,ds.set n (dB d.Cn)):=by unfold nR;rw[g0 c,g0 i,f];simp only[bS,qm]
  rw[e];exact⟨i4,mA l⟩
end
end Go.Qw
namespace Wl
open Go Go.Qw Go.Vc
end Wl
namespace Go.Vc
end Go.Vc
namespace Go.Qw
open Go Go.Vc Go.Proofs Wl
section
variable {B:aB} {h0 h:f8} {As:List HP} {a pw:fz} {d:bo}
end
section
variable {B:aB} {h0 h:f8} {As:List HP} {a pw:fz} {offs:Int} {da:List aO} {w:Pow} {ds:aF} {m:aE}
end
end Go.Qw
namespace Wl
open Go
end Wl
