/- Lemmas for the proof of the law; no condition. -/
import Derived.Test.YtahcfjokgnjinaaGreatDoorKC
set_option linter.unusedVariables false
set_option maxHeartbeats 4000000
set_option linter.unusedSimpArgs false
open Go.Proofs.Tryz renaming prog -> xD
open List renaming eq_of_mem_replicate -> vC, getElem?_zip_eq_some -> vy, getElem_range -> vJ, length_eq_zero_iff -> vM, length_replicate -> yS, range -> qz, replicate -> qh, zipWith -> zm
open Go.Value renaming agg -> xy, bool -> xx, int -> xt, pointer -> xv, slice -> xu, string -> xw
open Go.IntKind renaming bits -> qk, i64 -> xz, u32 -> xB, u8 -> xA, wrap -> qc
open Prod renaming fst -> qK, snd -> zL
open Go.Instr renaming slice -> xq, sliceAt -> yx, sliceBounds -> wH, storeAt -> qf
open BitVec renaming ofInt -> qE
open Int renaming fdiv -> qZ, tdiv -> wz
set_option maxRecDepth 100000
open Option renaming some -> dB, none -> eH
open Bool renaming true -> eR, false -> eS
open Go renaming Addr -> eY
open Go.Vc renaming Heap -> f8
open List renaming length -> ii
namespace Go.Qw
open Go Go.Vc Go.Proofs Wl
theorem We{a:List Sl}{vs:aL}(h:ii a=ii vs)(b:List (Sl×Row))(c:∀x∈a.zip vs,x∈b):ij b id a vs:=
 ⟨h,λi r l d e=>c _ (yR.2 ⟨i,by rw[vy];exact⟨d,e⟩⟩)⟩
theorem QZ{α β:Type}:∀(a:List α) (x:α) (l:List β) (h:ii a<ii l),(a++[x]).zip l=a.zip l++[(x,l[ii a])]
 |[],x,b::l,_=>i9
 |c::a,x,b::l,h=>by
  have:=QZ a x l j5;simp[this]
def acU(h h':f8)(v:Value)(n:Nat)(A a:aL):Prop:=
 (kW n A a/\∃r:Sl,v=.tuple #[r,xt xz 0]/\Sp h h' [MA r (go n A a)])∨(¬kW n A a/\v=.tuple #[xu eH 0 0,xt xz 10]/\Sp h h' [])
theorem aby(p:Pm)(seed:Int)(l:Sl)(syms:List (Int×Row))(n w:Nat)(h:f8)(hl:dQ Ke h l syms)(y:bM p=eR)(bk:∀x∈syms,xQ p x)(hn:(bG p).toNat=n)(hw:p.2.2.toNat=w)(ej:ii syms<=2^18)(hr:ca (dP p seed (syms.map qK))=n):
  aq xD 163 #[kb p,xt xB seed,l] h λv h'=>acU h h' v n (dP p seed (syms.map qK)) (pQ p syms):=by
 refine Lc p seed l ?_;have ei:=(cm p).1 y;have c9:bG p=n:=by rw[<-hn];have:=nZ y;omega
 have cd:n=p.1.toNat+p.2.1.toNat:=by rw[<-hn,nZ y];omega
 have b9:p.2.2=(w:Int):=i4
 have b6:1<=n:=i4
 have b4:n<=20:=i4
 obtain⟨U,c6,en,c5⟩:=bH.jl hl;have er:=bH.len hl;let d:List fq:=sN n seed syms;have eh:ii d=ii syms:=by simp[d,sN]
 have I:=aeL (seed:=seed) b6 b4 bk hw;let u:Nat->bP:=λi=>(syms.take i).map λx=>dE n seed x.1;have ab:∀x:Int×Row,x∈syms->(bM p&&bW x.1)=eR:=λx hx=>by rw[y,(bk x hx).id];rfl
 refine(Sp.refl h).boxed λa1 K H1=>?_;have d1:Sp h K [ae 289 ⟨eH,0,0⟩ 2 qv [],sY [],al a1 26 [xt xz p.1,xt xz p.2.1,xt xz p.2.2]]:=((aa.Zk H1).nil 289 2 qv).cu [2,1,0];refine av (λt:Nat×Sl×List Sl=>(t.2.1,(t.1:Int))) (λt h'=>t.1<=ii syms/\t.2.2.length=t.1/\Sp h h' [ae 289 t.2.1 2 qv (t.2.2.zip (U.map zL)),sY (t.2.2.zip (u t.1)),al a1 26 [xt xz p.1,xt xz p.2.1,xt xz p.2.2]]) (λt=>ii syms-t.1) (0,⟨eH,0,0⟩,[]) i0 ⟨i9,i0,d1⟩ ?_;rintro⟨i,o,cr⟩ h2 ⟨hi,bl,H2⟩;dsimp only at*;have cc:ii (u i)=i:=by simp[u];omega
 refine ac (λe=>?_) (λe=>?_)
 ·have Z:i<ii syms:=i4
  obtain⟨y1,y2⟩:=c5 i i4 Z;refine(Seq.up c6 H2.ag).dZ (g:=yv) i i0 i4 (U[i]'(by omega)) i0 ?_;refine H2.alloc an i0 λa5 h3 H3=>?_;refine H3.storeAll an 3 i0 i0 (yv (U[i]'(by omega))) i0 i0 i0 i0 λh4 T=>?_;refine⟨p,(T.box 2 i0).aP _ i0,(U[i]'(by omega)).1,(T.box 3 i0).cell0 i0,(U[i]'(by omega)).2,(T.box 3 i0).cell i0,?_⟩;refine(xV p seed (U[i]'(by omega)).1 h4).mono ?_;rintro _ h5 ⟨r,rfl,R5⟩;rw[y1,ab _ (qg Z),f9 rfl,hn]at R5;have H5:=(T.comp R5).freeze 4 i0 λ_=>rfl;refine⟨r,i0,⟨(H5.box 3 i0).cell i0,trivial⟩,?_⟩;have H6:=aa.acT H5 1 4 i5 i0 i0;have dx:=H6.box 3 i0;refine H6.ne an qv eQ i0 [(r,(U[i]'(by omega)).2)] i0 (show 1*2<=2^20 by decide) i0 ⟨dx.cell i0,trivial⟩ ?_;refine H6.push an 0 i0 eQ i0 i5 (λ_=>rfl) YT (r,(U[i]'(by omega)).2) i0 i5 i7 λo' h7 H7=>?_;refine⟨⟨(H7.box 3 i0).cell i0,trivial⟩,?_⟩;refine⟨(i+1,o',cr++[r]),jj,⟨i6,by simp[bl],?_⟩,i6⟩;dsimp only;have e1:u (i+1)=u i++[dE n seed syms[i].1]:=by simp only[u];rw[aH _ _ Z,qS];rfl
  have e2:(cr++[r]).zip (U.map zL)=cr.zip (U.map zL)++[(r,(U[i]'(by omega)).2)]:=by rw[QZ cr r (U.map zL) i7,wC];simp only[bl]
  rw[e1,e2,List.zip_append (by rw[bl,cc])];exact H7.cu [0,1,2]
 have dy:i=ii syms:=i4
 subst dy;have dp:u syms.length=syms.map λx=>dE n seed x.1:=by simp only[u];rw[qV]
 rw[dp]at H2;have d4:∀{h':f8},(∀x∈cr.zip (syms.map λx=>dE n seed x.1),Vc.Seq h' (λb=>b<h'.size) x.1 1 ak x.2)->aZ (λb=>b<h.size) h h'->Vc.Seq h' (λb=>b<h'.size) o 2 qv (cr.zip (U.map zL))->dQ pq h' o d:=λ{h'} hp hpr hs=>by
  refine⟨_,hs,by simp[d,sN];omega,λk a b K h2=>?_⟩;have hk:k<ii syms:=by have:=(qn.1 h2).1;omega
  rw[qd i7,List.getElem_zip,wC]at K;have e2:d[k]?=dB (dE n seed syms[k].1,syms[k].2):=by simp[d,sN,hk]
  rw[e2]at h2;simp only[Option.some.injEq]at K h2;subst K;subst h2;refine⟨hp (cr[k]'(by omega),dE n seed syms[k].1) (yR.2 ⟨k,?_⟩),Seq.up (c5 k i4 hk).2 hpr⟩;rw[vy];exact⟨qd _,by simp[hk]⟩
 refine bT (λs h'=>∃(a9 f:eY),s=dB a9/\Sp h h' [SA a9 (gC f p ⟨eH,0,0⟩ ⟨eH,0,0⟩ ⟨eH,0,0⟩ ⟨eH,0,0⟩ ⟨eH,0,0⟩ ⟨eH,0,0⟩ ⟨eH,0,0⟩),ae 289 o 2 qv (cr.zip (U.map zL)),sY (cr.zip (syms.map λx=>dE n seed x.1)),al a1 26 [xt xz p.1,xt xz p.2.1,xt xz p.2.2],al f 238 df]) ?_ ?_
 ·refine⟨p,(H2.box 2 i0).aP _ i0,(pi h2).mono ?_⟩;rintro _ h3 ⟨f,rfl,R3⟩;have H3:=H2.comp R3;refine⟨dB f,i0,⟨(H3.box 2 i0).cell0 i0,(H3.box 2 i0).cell i0,(H3.box 2 i0).cell i0,trivial⟩,?_⟩;refine H3.boxed λa9 h4 T=>?_;exact⟨⟨(T.box 2 i0).cell0 i0,(T.box 2 i0).cell i0,(T.box 2 i0).cell i0,trivial⟩,a9,f,i0,T.cu [4,0,1,2,3]⟩
 rintro _ h3 ⟨s,f,rfl,H3⟩;refine⟨p,(H3.box 3 i0).aP _ i0,(kj p h3).mono ?_⟩;rintro _ h4 ⟨rfl,R4⟩;have T:=H3.up R4.ag;refine⟨_,i0,?_⟩;rw[c9];have du:dQ pq h4 o d:=d4 (T.at 2 i0) T.ag (T.seq 1 i0 λ_=>rfl);have b7:∀e∈d,ii e.1<=2^20:=λe F=>by
  obtain⟨x,hx,rfl⟩:=qu.1 F;have:=ww b6 b4 seed x.1;dsimp only;omega
 refine(YY o d n w h4 du (λe F=>⟨(I e F).1,Wc (I e F).2⟩) i4 i4 ⟨i4,i4⟩ b7).mono ?_;have hA:aY n (bC p.1.toNat p.2.1.toNat):=by rw[cd];exact IP _ _
 have eA:=Vh (seed:=seed) y hn bk;have eB:=Vi (seed:=seed) (n:=n) (p:=p) (l:=syms) hw;rw[<-eA]at hr⊢;rw[<-eB];rintro _ h5 ⟨known,vals,hI,⟨ab,rfl,R5⟩|⟨ab,k,v,rs,rfl,R5⟩⟩
 ·refine⟨(⟨eH,0,0⟩,⟨eH,0,0⟩,⟨eH,0,0⟩,10),i0,ci (λ_=>?_) λe=>absurd e i5⟩;exact .inr ⟨XJ (λe F=>(I e F).1) hA hI ab hr,i0,(T.up R5.ag).cu []⟩
 refine⟨(k,v,rs,0),i0,ci (λe=>absurd i0 e) λ_=>?_⟩;have S:=aaG (λe F=>(I e F).1) hA hI ab;have B:=Mj (λe F=>(I e F).1) hI;obtain⟨f1,f2,f3,f4,f5⟩:=IT (λe F=>(I e F).1) hI;have J:=ot hI λe F=>(I e F).1;have bd:=adz (known:=known) (vals:=vals) λe F=>(I e F).2;have dk:=XK (l:=d) (known:=known) (vals:=vals);have a3:=XL (known:=known) (vals:=vals) b7;have cq:=hI.vlen;have c7:=hI.klen;unfold Oc at S;obtain⟨R,a8⟩:∃R,R=bg known vals d:=⟨_,rfl⟩
 change gO n w d _ known vals _ _ _ _ at S;rw[<-a8]at S B f1 f2 f3 f4 f5 J bd dk a3 R5;obtain⟨P,H6,ec,cs⟩:=aa.afB (T.comp R5) 6 rfl;obtain⟨rr,H7⟩:=aa.KG H6 7 rfl λ_=>rfl;have H8:=aa.adY H7 8 i0;have H9:Sp h h5 [SA s (gC f p ⟨eH,0,0⟩ ⟨eH,0,0⟩ ⟨eH,0,0⟩ ⟨eH,0,0⟩ ⟨eH,0,0⟩ ⟨eH,0,0⟩ ⟨eH,0,0⟩),kX ((⟨eH,0,0⟩,[])::P.zip vals),HA v P,cO ju 2 qv rs rr R,ae 4 k 1 fh known,al f 238 df]:=aa.cu H8 [0,8,6,7,5,4];have b0:v.len=n:=by rw[(H9.own 2 i0).len];omega
 have hk:∀(c:Nat) (hc:c<ii P),P[c].ptr.isNone=!(known.getD c eS):=λc hc=>by
  rw[cs c hc i4];have K:=hI.row c i4;rw[mu (show c<ii vals by omega)]at K;cases hkn:known.getD c eS with
  |true=>
   rw[hkn,f9 rfl]at K;cases hv:vals[c]'(by omega)with
   |nil=>rw[hv]at K;simp at K;omega
   |cons x t=>rfl
  |false=>
   rw[hkn,g0 i9]at K;rw[vM.1 K];rfl
 refine⟨s,i0,H9.store an 0 i0 i0 4 [v] i0 i0 i0 ns λh6 eg=>?_⟩;refine⟨s,i0,eg.store an 0 i0 i0 5 [rs] i0 i0 i0 ns λh7 ed=>?_⟩;have cf:=Wd (known:=known) (n:=n) i4 λe F=>⟨(J e F).cZ,bd e F⟩
 have ad:=uh (rows:=rowsOf R known n) (n:=n) (by rw[a8];exact tw (a8▸J));have ek:ii (rowsOf R known n)<=ii R+n:=by rw[rowsOf,qw,qx];have:=Df known n;omega
 refine(Tb s f p v rs _ _ _ _ _ k rr R known n (As:=[kX ((⟨eH,0,0⟩,[])::P.zip vals),HA v P,cO ju 2 qv rs rr R,ae 4 k 1 fh known,al f 238 df]) ed (St.mk' λh' H'=>⟨H'.fA 2 i0,H'.seq 3 i0 λ_=>rfl⟩) c7 i4 i4 a3 cf ⟨by have:=ad.1;omega,by have:=Gc (dL n (rowsOf R known n)).used (rowsOf R known n).length;omega⟩).mono ?_;rintro _ h8 ⟨rfl,st,Y,lf,d9⟩;refine⟨(),i0,?_⟩;obtain⟨D,hD⟩:∃D,D=(gJ R known n).dead:=⟨_,rfl⟩
 obtain⟨ST,bs⟩:∃ST,ST=ni R known n:=⟨_,rfl⟩
 obtain⟨L,hL⟩:∃L,L=Wl.leftOf R known n:=⟨_,rfl⟩
 have d6:Sp h h8 (SA s (gC f p v rs st Y lf ⟨eH,0,0⟩ ⟨eH,0,0⟩)::kX ((⟨eH,0,0⟩,[])::P.zip vals)::[HA v P,ae 357 st 2 fL ST,ae 3 Y 1 ak D,ae 3 lf 1 ak L,cO ju 2 qv rs rr R,al f 238 df]):=by rw[hD,bs,hL];exact aa.cu d9 [0,4,5,1,2,3,6,8]
 rw[<-hD]at S B f1 f2 f3 f5;rw[<-bs]at S B;rw[<-hL]at S f4;have b2:ii ST<=2^20:=by rw[bs,ni,gJ];have:=qT (λx:Int×Int=>decide (x.1<ii R)) (dL n (rowsOf R known n)).steps;have:=ad.1;omega
 have eo:ii L<=2^20-2^10:=by rw[hL,Wl.leftOf,gJ];have:=qT (λx:Int=>decide (x<ii R)) (fD (dL n (rowsOf R known n)).used (rowsOf R known n).length);have:=Gc (dL n (rowsOf R known n)).used (rowsOf R known n).length;omega
 have z:St (λb=>b<h.size) h [HA v P,ae 357 st 2 fL ST,ae 3 Y 1 ak D,ae 3 lf 1 ak L,cO ju 2 qv rs rr R,al f 238 df] λh=>VW h f rs st Y lf rr R ST D L:=
  St.mk' λh' H'=>⟨H'.box 5 i0,H'.fA 4 i0,H'.seq 1 i0 λ_=>rfl,H'.seq 2 i0 λ_=>rfl,H'.seq 3 i0 λ_=>rfl⟩
 refine(VY s f p v rs st Y lf _ _ rr R ST D L n D.length w _ d6 z b0 i4 b9 i4 i0 i4 J f1 f2 B b2 a3 i9).mono ?_;rintro _ h9 ⟨rfl,wa,mo,wr,mr,pl,c0,ax⟩;refine⟨(),i0,?_⟩;have da:=(z.at [_,_,_,_] c0).dead.len;generalize ep:ST.foldl (hY R D.length) (ge n D.length w D)=S0 at ax S;have d0:ii S0.1=n:=by have:=S.lens.1;simpa[iD]using this
 have eb:ii S0.2=n:=by have:=S.lens.2.1;simpa[iD]using this
 have hV:ij pl id P vals:=We ec pl λx hx=>ax.sub x (qD _ hx);refine(Zg s f p v rs st Y lf wa mo P wr mr pl known vals S0.1 S0.2 n D.length c0 i4 da i4 ⟨λ_ h=>h,ax.way,ax.more⟩ hV cq d0 eb hk).mono ?_;rintro _ eq ⟨rfl,am,ao,V,ef,N⟩;refine⟨(),i0,?_⟩;obtain⟨W,hW⟩:∃W,W=(iD D.length known vals S0).1:=⟨_,rfl⟩
 obtain⟨M,hM⟩:∃M,M=(iD D.length known vals S0).2:=⟨_,rfl⟩
 change me pl V am ao (iD D.length known vals S0).1 (iD D.length known vals S0).2 at N;rw[<-hW,<-hM]at N S;have m:=S.lens;refine(Wa s f p v rs st Y lf wa mo am ao V rr R ST D L W M n D.length w ef z cd b9 i4 y i0 i4 J a3 f4 i4 ⟨λ_ h=>h,N.way,N.more⟩ m.1 m.2.1 m.2.2).mono ?_;rintro _ ah ⟨a,b,rfl,a4⟩;refine⟨(a,b),i0,s,i0,Y,show cellOf ah (s.add 7)=_ from(a4.box 2 i0).cell i0,?_⟩;have c8:ij V id P vals:=hV.mono N.sub;obtain⟨e1,e2⟩:=oR S;have O:=xO (n:=n) (w:=w) (ahead:=bC p.1.toNat p.2.1.toNat) (l:=d) (known:=known) (vals:=vals) (dead:=D) (left:=L) (W:=W) (M:=M);have a2:∀{X:aL},_->_:=λ{X} hs=>S.TP hr (D:=X) hs;have a7:=S.TQ hr;have a0:=S.Vj i4 hr;have ay:=S.KM i4 hr;rw[<-a8]at e1 e2 O a2 a7 a0 ay;obtain⟨dA,b5⟩:∃dA,dA=dI n D.length R W L (bC p.1.toNat p.2.1.toNat):=⟨_,rfl⟩
 obtain⟨G,d7⟩:∃G,G=fE n w R M L (bC p.1.toNat p.2.1.toNat):=⟨_,rfl⟩
 rw[<-b5]at e1 O a2 a7 a0 ay a4;rw[<-d7]at e2 O a2 a7 a0 a4;have d3:ii dA=ii L+p.2.1.toNat:=by rw[b5];simp[dI,bC]
 have bb:∀{h':f8} {pre:List HP} {dead:Sl} {dr:List Sl} {X:aL} {Q:HP},Sp h h' (Told s f p v rs st Y lf wa mo am ao V++HA v P::[ae 357 st 2 fL ST,ae 3 Y 1 ak D,ae 3 lf 1 ak L,cO ju 2 qv rs rr R,al f 238 df,Q])->(∀h',Q.p h' (λb=>b<h'.size)->iu h' (λb=>b<h'.size) dead 1 aD X dr)->fC D.length w dA G X->
   aq xD 231 #[xv (dB s),dead] h' λv' ap=>v'=.tuple #[]/\cellOf ap (s.add 4)=dB (xu v.ptr v.len v.cap)/\acU h ap (.tuple #[v,xt xz 0]) n (dJ n d (bC p.1.toNat p.2.1.toNat)) (iv w d (bC p.1.toNat p.2.1.toNat)):=by
  intro h' pre dead dr X Q H' hQ hs;refine(Zi s f p v rs st Y lf wa mo dead P am ao dr V known vals W M X n D.length w H' (St.mk' λap ar=>⟨ar.box 4 i0,hQ ap (ar.at 5 i0)⟩) i4 i4 i4 ⟨λ_ h=>h,N.way,N.more⟩ c8 cq m.1 m.2.1 m.2.2 hs.1 hs.2.1 hk).mono ?_;rintro _ ap ⟨rfl,es,et,ar,ip⟩;refine⟨i0,(ar.box 0 i0).cell i0,?_⟩;obtain⟨c1,c2⟩:=a2 hs;refine .inl ⟨c1,v,i0,?_⟩;rw[<-c2];exact(ar.abq 4 3 i5 i0 i0 ip.1 λk r l K h2=>ip.2 k r l K h2).cu [4]
 have H:Sp h ah (MA a dA::CA b G::(Told s f p v rs st Y lf wa mo am ao V++HA v P::[ae 357 st 2 fL ST,ae 3 Y 1 ak D,ae 3 lf 1 ak L,cO ju 2 qv rs rr R,al f 238 df])):=a4;have c4:=H.LR 1 i0 λ_=>rfl;have cn:fW ah b 1 aD G:=bH.tofW (by
  have:=bH.impl (α':=Sl) (E:=QV) (E':=cF 1 aD) id (λ{h q a b} (hx:QV.p h q a b)=>hx.1) c4
  rwa [List.map_id]at this)
 have d5:=cn.len;refine cy (λe0=>?_) (λe0=>?_)
 ·have cp:ii D=0:=i4
  obtain⟨br,q1,q2,q3⟩:=bH.jl c4;refine av (λi:Nat=>(i:Int)) (λi h'=>h'=ah/\i<=ii G/\∀j (hj:j<ii G),j<i->G[j]=aJ w) (λi=>ii G-i) 0 i0 ⟨i0,i4,λj _ hj=>i4⟩ ?_;rintro i a6 ⟨rfl,hi,hz⟩;have bq:fC D.length w dA G []↔∀r∈G,r=aJ w:=by rw[cp];exact IU O
  refine ac (λe=>?_) (λe=>?_)
  ·have Z:i<ii G:=by have e':(i:Int)<(b.len:Int):=e;omega
   obtain⟨y1,y2⟩:=q3 i i4 Z;have d8:G[i].length=w:=e2 _ (qg _);refine q1.lK i i0 i4 ?_;refine(MK (br[i]'(by omega)) G[i] _ i0 a6 y1 y2 i4).mono ?_;rintro _ cl ⟨⟨t,rfl,ht⟩,rfl⟩;refine⟨t,i0,ac (λe3=>?_) λe3=>?_⟩
   ·refine .inr ⟨λhc=>?_,i0,H.cu []⟩;have b3:=a7 hc;have ea:D=[]:=vM.1 cp;rw[ea]at b3;have:=(IU O).1 b3 _ (qg Z);have h0:t.len=0:=ht.2 λx hx=>by rw[this]at hx;exact(ya.1 hx).2
    omega
   ·have h0:t.len=0:=i4
    refine⟨i+1,js,⟨i0,i4,λj hj el=>?_⟩,i4⟩;by_cases hh:j=i
    ·subst hh;exact List.eq_replicate_iff.2 ⟨d8,ht.1 h0⟩
    ·exact hz j hj i4
  ·have hs:fC D.length w dA G []:=bq.2 λr hr=>by
    obtain⟨j,hj,rfl⟩:=qL hr;have e':¬(i:Int)<(b.len:Int):=e;exact hz j hj i4
   have b1:=aa.comp (H.cu [2,3,4,5,6,7,8,9,10,11]) (Sp.one (h:=a6) (h':=a6) (A:=emp) (aZ.refl _ _) trivial);refine(bb (pre:=[]) (dead:=⟨eH,0,0⟩) (dr:=[]) (X:=[]) (Q:=emp) ?_ (λh' _=>⟨Seq.nil _ _ _ _ _ _,i0,λk r l K _=>by cases K⟩) hs).mono ?_
   ·exact b1
   ·rintro _ cl ⟨rfl,hc,hm⟩;exact⟨(),i0,s,i0,v,hc,hm⟩
 ·have d2:1<=ii D:=i4
  refine⟨s,i0,dB f,(H.box 2 i0).cell0 i0,?_⟩;refine(Tc f a b dA G dA.length D.length w ah (H.box 11 i0) (H.DQ 0 i0) cn i0 O.symm e1 e2 d2 i4 i4 ay).mono ?_;rintro _ a6 (⟨hc,r,rfl,R12⟩|⟨hc,rfl,R12⟩)
  ·refine⟨(r,0),i0,ci (λe=>absurd i0 e) λ_=>?_⟩;have b1:=(H.comp R12).NZ 12 i0;obtain⟨dr,ds⟩:=aa.KG b1 12 rfl λ_=>rfl;have hs:=oM O e1 e2 ay hc;refine(bb (pre:=[]) (dead:=r) (dr:=dr) (X:=go D.length dA G) (Q:=cO (cF 1 aD) 1 bp r dr (go D.length dA G)) (ds.cu [2,3,4,5,6,7,8,9,10,11,12]) (λh' x=>⟨x.1,x.2.1,x.2.2⟩) hs).mono ?_;rintro _ cl ⟨rfl,hc,hm⟩;exact⟨(),i0,s,i0,v,hc,hm⟩
  ·refine⟨(⟨eH,0,0⟩,10),i0,ci (λ_=>?_) λe=>absurd e i5⟩;exact .inr ⟨λhh=>hc (a0.2 hh),i0,(H.up R12.ag).cu []⟩
end Go.Qw
namespace Wl
def mG(p:Int×Int×Int)(x:Int×Row):Bool:=bW x.1&&decide ((ii x.2:Int)=p.2.2)
theorem Rb{p:Int×Int×Int}{x:Int×Row}(c:bM p=eR):mG p x=eR↔xQ p x:=by have:=(cm p).1 c;unfold mG;rw[qC,decide_eq_true_iff];exact⟨λ⟨a,b⟩=>⟨a,i4⟩,λh=>⟨h.id,by have:=h.len;omega⟩⟩
def sv(p:Int×Int×Int)(seed:Int)(X:aL)(i:Nat):Row:=(qz i).flatMap λj:Nat=>fR p.2.2.toNat X (dE (bG p).toNat seed (j:Int))
theorem MP(p:Int×Int×Int)(seed:Int)(X:aL)(i:Nat):sv p seed X (i+1)=sv p seed X i++fR p.2.2.toNat X (dE (bG p).toNat seed (i:Int)):=by unfold sv;rw[zT,zg];simp
open Classical in
noncomputable def lR(p:Int×Int×Int)(seed:Int)(l:List (Int×Row)):Row×Int:=
 if bM p&&l.all (mG p)then
  if gc p seed (l.map qK)then
   if kW (bG p).toNat (dP p seed (l.map qK)) (pQ p l)then(sv p seed (go (bG p).toNat (dP p seed (l.map qK)) (pQ p l)) p.1.toNat,0)else([],10)
  else([],9)
 else([],1)
end Wl
namespace Go.Qw
open Go Go.Vc Go.Proofs Wl
theorem Td(p:Pm)(x:Int×Sl)(l:Row)(h:f8)(f:Rd h x.2 1 aD l):aq xD 160 #[kb p,xy #[xt xz x.1,x.2]] h λv h'=>v=xx (mG p (x.1,l))/\Sp h h' []:=by
 refine HK p x ?_;refine(Sp.refl h).boxed λg i d=>?_;refine d.boxed λa2 j a=>?_;have e:=f.len;refine⟨x.1,(a.box 1 i0).cell0 i0,ac (λb=>?_) λb=>?_⟩
 ·refine⟨x.1,(a.box 1 i0).cell0 i0,ac (λc=>?_) λc=>?_⟩
  ·refine⟨x.2,(a.box 1 i0).cell i0,p.2.2,(a.box 0 i0).cell i0,?_,.zip a.ag⟩;congr 1;unfold mG bW;rw[g9 (show 0<=x.1 from b),g9 (show x.1<=65535 from c),e];rw[Bool.eq_iff_iff];simp
  ·refine⟨?_,.zip a.ag⟩;unfold mG bW;rw[hU (show¬x.1<=65535 from c)];simp
 ·refine⟨?_,.zip a.ag⟩;unfold mG bW;rw[hU (show¬0<=x.1 from b)];simp
theorem Te(p:Pm)(b:eY)(x:Int×Sl)(l:Row)(h:f8)(c:cw h b 26 [xt xz p.1,xt xz p.2.1,xt xz p.2.2])(f:Rd h x.2 1 aD l):aq xD 159 #[xy #[xt xz x.1,x.2],xv (dB b)] h λv h'=>v=xx (!mG p (x.1,l))/\Sp h h' []:=by refine EC x b ?_;refine(Sp.refl h).boxed λa2 e a=>?_;refine⟨p,(c.ag a.ag c.lt).aP _ i0,x,(a.box 0 i0).aP _ i0,?_⟩;refine(Td p x l e (Seq.up f a.ag)).mono ?_;rintro _ g ⟨rfl,d⟩;exact⟨_,i0,i0,.zip (a.up d.ag).ag⟩
theorem Tf(p:Pm)(d:eY)(l:Sl)(syms:List (Int×Row))(h:f8)(m:cw h d 26 [xt xz p.1,xt xz p.2.1,xt xz p.2.2])(n:dQ Ke h l syms)(A:ii syms<=2^30):aq xD 158 #[l,.func (.func 159) #[] #[xv (dB d)]] h λv h'=>v=xx (!syms.all (mG p))/\Sp h h' []:=by
 refine ky l (159,#[],#[xv (dB d)]) ?_;refine(lr l (159,#[],#[xv (dB d)]) (R:=λv h'=>(∃i:Int,v=xt xz i/\(decide (i>=0)=!syms.all (mG p)))/\Sp h h' []) ?_).mono ?_
 ·skip
  obtain⟨f,w,B,u⟩:=bH.jl n;have y:=bH.len n;refine av (λi:Nat=>(i:Int)) (λi h'=>i<=ii syms/\(syms.take i).all (mG p)=eR/\Sp h h' []) (λi=>ii syms-i) 0 i0 ⟨i4,i9,Sp.refl h⟩ ?_;rintro i r ⟨o,a,c⟩;refine ac (λe=>?_) (λe=>?_)
  ·have b:i<ii syms:=i4
   obtain⟨x,t⟩:=u i i4 b;refine(Seq.up w c.ag).dZ (g:=yv) i i0 i4 (f[i]'(by omega)) i0 ?_;refine fo ld ?_;refine(Te p d (f[i]'(by omega)) syms[i].2 r (m.ag c.ag m.lt) (Seq.up t c.ag)).mono ?_;rintro _ z ⟨rfl,q⟩;have j:((f[i]'(by omega)).1,syms[i].2)=syms[i]:=by rw[x]
   rw[j];refine⟨_,i0,bi (λk=>?_) λk=>?_⟩
   ·refine⟨⟨i,i0,?_⟩,c.up q.ag⟩;rw[g9 (show(i:Int)>=0 by omega)];have:syms.all (mG p)=eS:=List.all_eq_false.2 ⟨_,qg b,by simpa using k⟩;rw[this];rfl
   ·refine⟨i+1,js,⟨i4,?_,c.up q.ag⟩,i4⟩;rw[aH _ _ b,List.all_append,a];simpa using k
  ·refine⟨⟨-1,i0,?_⟩,c⟩;rw[qi i4]at a;rw[a];rfl
 ·rintro _ r ⟨⟨i,rfl,o⟩,s⟩;exact⟨i,i0,by rw[o],s⟩
theorem Zl(l:Sl)(syms:List (Int×Row))(h:f8)(j:dQ Ke h l syms)(y:ii syms<=2^30):aq xD 162 #[l] h λv h'=>∃r:Sl,v=r/\Sp h h' [ae 3 r 1 ak (syms.map qK)]:=by
 refine Lb l ?_;obtain⟨d,q,B,p⟩:=bH.jl j;have u:=bH.len j;refine av (λt:Nat×Sl=>(t.2,(t.1:Int))) (λt h'=>t.1<=ii syms/\Sp h h' [ae 3 t.2 1 ak ((syms.take t.1).map qK)]) (λt=>ii syms-t.1) (0,⟨eH,0,0⟩) i0 ⟨i9,(Sp.refl h).nil 3 1 ak⟩ ?_;rintro⟨i,o⟩ D ⟨A,c⟩;dsimp only at*;refine ac (λe=>?_) (λe=>?_)
 ·have b:i<ii syms:=i4
  obtain⟨s,w⟩:=p i i4 b;refine(Seq.up q c.ag).dZ (g:=yv) i i0 i4 (d[i]'(by omega)) i0 ?_;refine c.alloc an i0 λa x m=>?_;refine m.storeAll an 1 i0 i0 (yv (d[i]'(by omega))) i0 i0 i0 i0 λh3 f=>?_;refine⟨(d[i]'(by omega)).1,(f.box 1 i0).cell0 i0,?_⟩;refine f.push an 0 i0 fS i0 i5 (λ_=>rfl) eJ (d[i]'(by omega)).1 i0 i5 i7 λn z k=>?_;refine⟨(i+1,n),jj,⟨i6,?_⟩,i6⟩;dsimp only;rw[aH _ _ b,qS];rw[s]at k;exact k.cu [0]
 ·have:i=ii syms:=i4
  subst this;rw[qV]at c;exact⟨o,i0,c⟩
theorem abz{B:aA}{q h:f8}{As:List HP}(f b:Sl)(c d:Row)(H:aa B q h (ae 5 b 1 aD d::As))(u:St B q As λh=>Rd h f 1 aD c)
  (E:ii c=ii d) (I:ii c<=2^30) {K:f8->Prop} (w:∀h',aa B q h' (ae 5 b 1 aD (cY 1 c d)::As)->K h'):
  aI (σ:=Int) (λa F g=>
 Br (decide (a<((f.len:Nat):Int)))
 (∃o:eY,(f.ptr=dB o/\0<=a/\a<((f.len:Nat):Int))/\
 ∃n:Int,cellOf g (o.add (a.toNat*1))=dB (xt xA n)/\
 ∃p:eY,(b.ptr=dB p/\0<=a/\a<((b.len:Nat):Int))/\
 ∃j:Int,cellOf g (p.add (a.toNat*1))=dB (xt xA j)/\
 ∃a28:eY,(b.ptr=dB a28/\0<=a/\a<((b.len:Nat):Int))/\
 az xD (qf 5 (xv (dB (a28.add (a.toNat*1)))) (xt xA (qc xA ((qE (qk xA) j^^^(qE (qk xA) n)).toNat:Nat)))) g λ_ r=>
 F (qc xz (a+(1:Int))) r) (K g)) (0:Int) h:=by
 have z:f.len=ii c:=(u.at [ae 5 b 1 aD d] H).len;refine av (λk:Nat=>(k:Int)) (λk h'=>k<=ii c/\aa B q h' (ae 5 b 1 aD (zm (λx y=>y^^^x) (c.take k) (d.take k)++d.drop k)::As)) (λk=>ii c-k) 0 i0 ⟨i4,lb⟩ ?_;rintro k G ⟨A,i⟩;have v:=u.at [_] i;refine ac (λe=>?_) (λe=>?_)
 ·have s:k<ii c:=i4
  have l:ii (zm (λx y=>y^^^x) (c.take k) (d.take k))=k:=i7
  have D:ii (zm (λx y=>y^^^x) (c.take k) (d.take k)++d.drop k)=ii d:=by rw[qw,l,List.length_drop];omega
  refine v.bD k i0 s _ i0 ?_;have m:(zm (λx y=>y^^^x) (c.take k) (d.take k)++d.drop k)[k]'(by omega)=d[k]:=by rw[z6 i4];simp[l]
  refine(i.seq 0 i0 λ_=>rfl).bD k i0 i4 _ i0 ?_;rw[m,mV];refine i.set an 0 i0 (λ_=>rfl) i0 k i0 i4 _ i0 i0 i0 λh3 t=>?_;rw[List.set_cons_zero,Fq E]at t;exact⟨k+1,js,⟨i4,t⟩,i4⟩
 ·have:k=ii c:=i4
  subst this;rw[qi (qm _),qi i4,zk i4,qM,<-Uf]at i;exact w G i
theorem Wf(p:Pm)(seed:Int)(l:Sl)(syms:List (Int×Row))(h:f8)(V:dQ Ke h l syms)(S:ii syms<=2^18):
  aq xD 99 #[kb p,xt xB seed,l] h λv h'=>∃r:Sl,v=.tuple #[r,xt xz (lR p seed syms).2]/\Sp h h' [ae 5 r 1 aD (lR p seed syms).1]:=by
 refine HG p seed l ?_;refine(Sp.refl h).boxed λJ h1 H1=>?_;have q:∀{h':f8} (e:Int),Sp h h' [al J 26 [xt xz p.1,xt xz p.2.1,xt xz p.2.2]]->lR p seed syms=([],e)->∃r:Sl,(.tuple #[xu eH 0 0,xt xz e]:Value)=.tuple #[r,xt xz (lR p seed syms).2]/\Sp h h' [ae 5 r 1 aD (lR p seed syms).1]:=λe H' he=>by
  rw[he];exact⟨⟨eH,0,0⟩,i0,(H'.nil 5 1 aD).cu [1]⟩
 refine bc ⟨p,(H1.box 0 i0).aP _ i0,?_⟩;refine(eT p h1).mono ?_;rintro _ h2 ⟨rfl,R2⟩;have O:=H1.up R2.ag;refine⟨_,i0,bi (λe=>?_) λa=>?_⟩
 ·exact q 1 O (by unfold lR;rw[e];rfl)
 refine(Tf p J l syms h2 (O.box 0 i0) (dQ.up V O.ag) i4).mono ?_;rintro _ h3 ⟨rfl,R3⟩;have P:=O.up R3.ag;refine⟨_,i0,bi (λe=>?_) λd=>?_⟩
 ·exact q 1 P (by unfold lR;rw[a,e];rfl)
 refine bc ⟨p,(P.box 0 i0).aP _ i0,?_⟩;refine(Zl l syms h3 (dQ.up V P.ag) i4).mono ?_;rintro _ h4 ⟨r,rfl,R4⟩;have H4:=P.comp R4;have G:=H4.box 0 i0;refine⟨r,i0,⟨G.cell0 i0,G.cell i0,G.cell i0,trivial⟩,?_⟩;refine(Mu p seed r (syms.map qK) h4 (H4.seq 1 i0 λ_=>rfl) i7).mono ?_;rintro _ h5 ⟨rfl,R5⟩;have L:Sp h h5 [al J 26 [xt xz p.1,xt xz p.2.1,xt xz p.2.2]]:=(H4.up R5.ag).cu [0];refine⟨_,i0,trivial,bi (λe=>?_) λb=>?_⟩
 ·exact q 9 L (by unfold lR;rw[a,d,e];rfl)
 have A:∀x∈syms,xQ p x:=λx g=>(Rb a).1 (q7.1 d x g);have a3:=(cm p).1 a;have am:=nZ a;have hr:ca (dP p seed (syms.map qK))=(bG p).toNat:=by have:=b;unfold gc nO at this;rw[a]at this;simp at this;omega
 refine⟨p,(L.box 0 i0).aP _ i0,?_⟩;refine(aby p seed l syms (bG p).toNat p.2.2.toNat h5 (dQ.up V L.ag) a A i0 i0 S hr).mono ?_;rintro _ h6 (⟨hc,m,rfl,R6⟩|⟨hc,rfl,R6⟩)
 rotate_left
 ·refine⟨(⟨eH,0,0⟩,10),i0,ci (λ_=>q 10 (L.up R6.ag) ?_) λe=>absurd e i5⟩;unfold lR;rw[a,d,b,g0 hc];rfl
 refine⟨(m,0),i0,ci (λe=>absurd i0 e) λ_=>?_⟩;obtain⟨X,hX⟩:∃X,X=go (bG p).toNat (dP p seed (syms.map qK)) (pQ p syms):=⟨_,rfl⟩
 have M:lR p seed syms=(sv p seed X p.1.toNat,0):=by unfold lR;rw[a,d,b,f9 hc,hX];rfl
 have U:aY p.2.2.toNat (pQ p syms):=λx g=>by
  rcases qA.1 g with g|g
  ·rw[(ya.1 g).2];simp[aJ]
  ·obtain⟨y,hy,rfl⟩:=qu.1 g;exact(A y hy).len
 have ad:ii (dP p seed (syms.map qK))=ii (pQ p syms):=by rw[<-Vh (n:=(bG p).toNat) (seed:=seed) a i0 A,<-Vi (n:=(bG p).toNat) (seed:=seed) (p:=p) (l:=syms) rfl];exact tv
 obtain⟨D,s⟩:=tu ad (jx p seed _) U hr;rw[<-hX]at R6 D s;have H6:=(L.comp R6).NZ 1 i0;obtain⟨R,Q⟩:=aa.KG H6 1 rfl λ_=>rfl;have ah:=(Q.fA 1 i0).1.len;have ay:=(Q.fA 1 i0).2.1;refine⟨p.1,(Q.box 0 i0).cell0 i0,?_⟩;rw[M];have K:Sp h h6 [ae 5 ⟨eH,0,0⟩ 1 aD [],al J 26 [xt xz p.1,xt xz p.2.1,xt xz p.2.2],cO (cF 1 aD) 1 bp m R X]:=(Q.nil 5 1 aD).cu [2,0,1];have N:∀j:Nat,ii (fR p.2.2.toNat X (dE (bG p).toNat seed (j:Int)))=p.2.2.toNat:=λj=>TM s D λx g=>mM i4 i4 g;have E:∀i,ii (sv p seed X i)=i*p.2.2.toNat:=λi=>by
  induction i with
  |zero=>simp[sv]
  |succ i ih=>rw[MP,qw,ih,N,zH]
 refine av (λt:Nat×Sl=>(t.2,(t.1:Int))) (λt h'=>t.1<=p.1.toNat/\Sp h h' [ae 5 t.2 1 aD (sv p seed X t.1),al J 26 [xt xz p.1,xt xz p.2.1,xt xz p.2.2],cO (cF 1 aD) 1 bp m R X]) (λt=>p.1.toNat-t.1) (0,⟨eH,0,0⟩) i0 ⟨i4,by simpa[sv]using K⟩ ?_;rintro⟨i,o⟩ h8 ⟨hi,K⟩;dsimp only at*;refine ac (λe=>?_) (λe=>?_)
 ·have a0:i<p.1.toNat:=i4
  refine⟨p.2.2,(K.box 1 i0).cell i0,?_⟩;refine K.make an aD gU i5 0 i0 i0 p.2.2.toNat p.2.2.toNat i4 i4 (qm _) i4 λsm h9 _ _ H9=>?_;refine⟨p,(H9.box 1 i0).aP _ i0,(xV p seed (i:Int) h9).mono ?_⟩;rintro _ a2 ⟨c,rfl,B⟩;have T:(bM p&&bW (i:Int))=eR:=by rw[a];unfold bW;simp;omega
  rw[T,f9 rfl]at B;have I:=(H9.comp B).cu [3,0,1,2,4];refine⟨c,i0,?_⟩;generalize w:dE (bG p).toNat seed (i:Int)=cs at I B;have u:∀x∈cs,0<=x/\x<((bG p).toNat:Int):=λx g=>mM i4 i4 (w▸g);have ao:ii cs<=20:=by have:=ww (n:=(bG p).toNat) i4 i4 seed (i:Int);rw[w]at this;omega
  have ap:=(I.own 4 i0).len;refine av (λj:Nat=>(j:Int)) (λj h'=>j<=ii cs/\Sp h h' [ae 5 sm 1 aD (fR p.2.2.toNat X (cs.take j)),ae 5 o 1 aD (sv p seed X i),al J 26 [xt xz p.1,xt xz p.2.1,xt xz p.2.2],cO (cF 1 aD) 1 bp m R X,ae 3 c 1 ak cs]) (λj=>ii cs-j) 0 i0 ⟨i4,I⟩ ?_;rintro j ax ⟨hj,f⟩;have H:=oN s D u j hj;refine ac (λe2=>?_) (λe2=>?_)
  ·have z:j<ii cs:=i4
   have ar:=u _ (qg z);refine(f.seq 4 i0 λ_=>rfl).bD j i0 z _ i0 ?_;have k:cs[j].toNat<ii X:=i4
   refine(f.fA 3 i0).1.lK cs[j].toNat i4 i4 ?_;have ab:ii (X[cs[j].toNat]'k)=p.2.2.toNat:=s _ (qg _);refine abz (R[cs[j].toNat]'(by omega)) sm (X[cs[j].toNat]'k) _ f (St.mk' λh' H'=>Fix.row (H'.fA 2 i0) k) (by rw[ab,H]) i4 λY F=>?_;refine⟨j+1,js,⟨i4,?_⟩,i4⟩;rw[aH _ _ z,BV,mu k];exact F
  ·have Z:j=ii cs:=i4
   subst Z;rw[qV]at f H;refine f.append an 1 i0 gU Qp i0 i5 (λ_=>rfl) (f.seq 0 i0 λ_=>rfl) iF (by rw[E,H];have:i*p.2.2.toNat<=16*24:=Nat.mul_le_mul i4 i4;omega) λo' Y F=>?_;refine⟨(i+1,o'),jj,⟨i6,?_⟩,i6⟩;dsimp only;rw[MP,w];exact F.cu [1,2,3]
 ·have W:i=p.1.toNat:=i4
  subst W;exact⟨o,i0,K.cu [0]⟩
end Go.Qw
namespace Wl
variable {p:Int×Int×Int} {seed:Int} {d:Row} {K H w n:Nat}
def lS(p:Int×Int×Int)(seed:Int)(X:aL)(a:aw):List (Int×Row):=a.map λi=>(i,fR p.2.2.toNat X (dE (bG p).toNat seed i))
theorem co.size(B:co p seed d K H w n):p.2.2.toNat=w:=by have:=B.s;omega
theorem Ik(X:aL)(a:aw):(lS p seed X a).map qK=a:=by simp[lS,w9,Function.comp_def]
theorem co.Rc(B:co p seed d K H w n){a:aw}(hid:∀i∈a,bW i=eR):(lS p seed (dC p seed d) a).all (mG p)=eR:=q7.2 λx c=>by
 obtain⟨i,b,rfl⟩:=qu.1 c;refine(Rb B.may).2 ⟨hid i b,?_⟩;dsimp only;rw[B.size,B.oO];exact B.Xv i
theorem Kf{α β:Type}{f g:α->List β}:∀(l:List α),(∀x∈l,f x=g x)->l.flatMap f=l.flatMap g
 |[],_=>rfl
 |a::l,h=>by rw[zf,zf,h a i9,Kf l λx b=>h x l4]
theorem MQ(d:Row)(w:Nat):∀i,i*w<=ii d->(qz i).flatMap (Go.Vc.DR d w)=d.take (i*w)
 |0,_=>i9
 |i+1,h=>by
  have e:(i+1)*w=i*w+w:=zH i w;rw[zT,zg,MQ d w i i4,e,List.take_add];simp[Go.Vc.DR]
theorem co.out(B:co p seed d K H w n):sv p seed (dC p seed d) p.1.toNat=d:=by
 have b:p.1.toNat=K:=by have:=B.k;omega
 unfold sv;rw[b,B.size,B.oO];have:(qz K).flatMap (λj:Nat=>fR w (dC p seed d) (dE n seed (j:Int)))=(qz K).flatMap (Go.Vc.DR d w):=by exact Kf _ λj a=>B.aax (qJ.1 a)
 rw[this,MQ d w K (by rw[B.len];exact qm _),qi (by rw[B.len];exact qm _)]
theorem co.Zm(B:co p seed d K H w n){a:aw}(hid:∀i∈a,bW i=eR):Wl.fC n w (dP p seed a) (pQ p (lS p seed (dC p seed d) a)) (dC p seed d):=by
 have m:a.filter bW=a:=zZ.2 hid;have l:dP p seed a=bC K H++a.map (nU n seed):=by
  unfold dP;rw[B.may,f9 i0,m,B.oO];have q:p.1.toNat=K:=by have:=B.k;omega
  have g:p.2.1.toNat=H:=by have:=B.h;omega
  rw[q,g]
 have o:pQ p (lS p seed (dC p seed d) a)=qh H (aJ w)++a.map λi=>fR w (dC p seed d) (dE n seed i):=by
  unfold pQ lS;have g:p.2.1.toNat=H:=by have:=B.h;omega
  rw[g,B.size,B.oO,w9];rfl
 refine⟨B.nE.1,B.nE.2,λi j=>?_⟩;rw[l]at j⊢;rw[o];have c:ii (bC K H)=H:=by simp[bC]
 simp only[qw,qx,c]at j;by_cases b:i<H
 ·have e:aB (bC K H++a.map (nU n seed)) i=lM K H i:=by rw[bz i7,w7 i4];simp[bC]
  have f:aB (qh H (aJ w)++a.map λi=>fR w (dC p seed d) (dE n seed i)) i=aJ w:=by rw[bz i7,w7 j6];simp
  rw[e,f];exact B.low b
 ·have e:aB (bC K H++a.map (nU n seed)) i=nU n seed (a[i-H]'(by omega)):=by rw[bz i7,z6 i4];simp[c]
  have f:aB (qh H (aJ w)++a.map λi=>fR w (dC p seed d) (dE n seed i)) i=fR w (dC p seed d) (dE n seed (a[i-H]'(by omega))):=by rw[bz i7,z6 j6];simp
  rw[e,f,B.sym]
theorem Zn{l:List (Int×Row)}(c:∀x∈l,xQ p x):aY p.2.2.toNat (pQ p l):=λx a=>by
 rcases qA.1 a with a|a
 ·rw[(ya.1 a).2];simp[aJ]
 ·obtain⟨y,b,rfl⟩:=qu.1 a;exact(c y b).len
theorem Tg(b:bM p=eR){l:List (Int×Row)}(a:∀x∈l,xQ p x):ii (dP p seed (l.map qK))=ii (pQ p l):=by rw[<-Vh (n:=(bG p).toNat) (seed:=seed) b i0 a,<-Vi (n:=(bG p).toNat) (seed:=seed) (p:=p) (l:=l) rfl];exact tv
theorem Fw(b:bM p=eR){a:aw}:gc p seed a=eR↔ca (dP p seed a)=(bG p).toNat:=by have:=nZ b;have:=(cm p).1 b;unfold gc nO;rw[b,wA];simp;omega
theorem co.dec(B:co p seed d K H w n){a:aw}(hid:∀i∈a,bW i=eR)(c:gc p seed a=eR):lR p seed (lS p seed (dC p seed d) a)=(d,0):=by have b:∀x∈lS p seed (dC p seed d) a,xQ p x:=λx h=>(Rb B.may).1 (q7.1 (B.Rc hid) x h);have g:=B.Zm hid;have e:=Tg (seed:=seed) B.may b;rw[Ik]at e;have j:=(Fw B.may).1 c;have f:=lO e (jx p seed a) (Zn b) j (by rw[B.oO,B.size];exact g);unfold lR;rw[B.may,B.Rc hid,Ik,c];simp only[Bool.and_self,if_true];rw[f9 f.2,<-f.1,B.out]
theorem abA(c:bM p=eR){l:List (Int×Row)}(b:l.all (mG p)=eR)(a:gc p seed (l.map qK)=eS):lR p seed l=([],9):=by unfold lR;rw[c,b,a];rfl
end Wl
namespace Go.Qw
open Go Go.Vc Go.Proofs Wl
theorem Th(l:Sl)(r:aw)(c:eY)(x:Int)(h:f8)(a:cw h c 3 [xt xz x])(b:Rd h l 1 ak r)(d:ii r<=2^30):
  aq xD 305 #[l,xv (dB c)] h λv h'=>v=xx (decide (x∈r))/\h'=h:=by
 refine vt l c ?_;refine⟨x,a.cell0 i0,(nR l r x h b d).mono ?_⟩;rintro _ _ ⟨rfl,rfl⟩;exact⟨_,i0,i0,i0⟩
theorem Ti(s:Sl)(W:bP)(c:eY)(x:Int)(h:f8)(k:cw h c 3 [xt xz x])(g:fW h s 1 ak W)(q:ii W<=2^20)(o:∀l∈W,ii l<=2^20):
  aq xD 304 #[s,.func (.func 305) #[] #[xv (dB c)]] h λv h'=>v=xx (ke W x)/\h'=h:=by
 refine ny s (305,#[],#[xv (dB c)]) ?_;refine(oA s (305,#[],#[xv (dB c)]) (R:=λv h'=>(∃i:Int,v=xt xz i/\(decide (i>=0)=ke W x))/\h'=h) ?_).mono ?_
 ·skip
  have m:=g.len;refine av (λi:Nat=>(i:Int)) (λi h'=>i<=ii W/\ke (W.take i) x=eS/\h'=h) (λi=>ii W-i) 0 i0 ⟨i4,by simp[ke],i0⟩ ?_;rintro i p ⟨j,b,rfl⟩;refine ac (λe=>?_) λe=>?_
  ·have a:i<ii W:=by have n:(i:Int)<(s.len:Int):=e;omega
   refine g.get i i0 a λr d=>fo ld ?_;refine(Th r W[i] c x p k d (by have:=o _ (qg a);omega)).mono ?_;rintro _ _ ⟨rfl,rfl⟩;refine⟨_,i0,ac (λf=>⟨⟨i,i0,?_⟩,i0⟩) λf=>?_⟩
   ·rw[g9 (show(i:Int)>=0 by omega)]
    symm
    unfold ke;rw[wk];exact⟨_,qg a,g9 f⟩
   ·refine⟨i+1,js,⟨i4,?_,i0⟩,i4⟩;unfold ke at b⊢;rw[aH _ _ a,List.any_append,b,List.any_cons,List.any_nil,hU f];rfl
  ·have n:¬(i:Int)<(s.len:Int):=e;rw[qi i4]at b;exact⟨⟨-1,i0,by rw[b];rfl⟩,i0⟩
 ·rintro _ _ ⟨⟨i,rfl,j⟩,rfl⟩;exact⟨i,i0,by rw[j],i0⟩
abbrev gr(x:ir)(a:bm)(wS gS:Sl):ba:=[xt xz x.o,xt xz x.b,xt xB x.seed,.pointer a,wS,gS]
theorem Tj(b:eY)(x:ir)(p:bm)(wS gS:Sl)(h:f8)(k:cw h b 176 (gr x p wS gS))(r:fW h wS 1 ak x.W)(t:ii x.W<=2^20)(q:∀l∈x.W,ii l<=2^20)(w:AK x.W<=2^40):
  aq xD 246 #[xv (dB b)] h λv h'=>v=xt xz (cT x.W)/\Sp h h' []:=by
 refine Be (dB b) ?_;refine(Sp.refl h).alloc an i0 λc z o=>?_;refine o.storeAll an 0 i0 i0 [xt xz 0] i0 i0 i0 i0 λu n=>?_;refine av (λ_:Nat=>()) (λi h'=>i<=AK x.W+1/\(∀j,j<i->ke x.W (j:Int)=eR)/\Sp h h' [al c 3 [xt xz i]]) (λi=>AK x.W+1-i) 0 i0 ⟨i4,λj m=>i4,n⟩ ?_;rintro i h3 ⟨y,a,d⟩;refine⟨b,i0,wS,(k.ag d.ag k.lt).cell i0,(Ti wS x.W c i h3 (d.box 0 i0) (r.up d.ag) t q).mono ?_⟩;rintro _ _ ⟨rfl,rfl⟩;refine⟨_,i0,bA (λe=>?_) λe=>?_⟩
 ·have:=LF e;refine⟨i,(d.box 0 i0).cell0 i0,d.storeAll an 0 i0 i0 [xt xz (qc xz ((i:Int)+1))] i0 i0 i0 i0 λs f=>?_⟩;refine⟨i+1,i0,⟨i4,λj m=>?_,?_⟩,i4⟩
  ·by_cases g:j=i
   ·rw[g];exact e
   ·exact a j i4
  ·have f:Sp h s [al c 3 [xt xz (qc xz ((i:Int)+1))]]:=f;rw[af _]at f;exact f
 ·refine⟨i,(d.box 0 i0).cell0 i0,?_,.zip d.ag⟩;rw[VQ e a]
variable {B:aA} {h0 h:f8} {As:List HP} {a pw:eY} {offs:Int} {da:List bm} {w:Pow} {ds:aE} {m:aC}
theorem abB{k:Int}{d:bj}{b:eY}(y:bX)(n:Int)(g:aX ds k=dB d)(f:ib da k=dB b)(e:dH h y m)(i:dh m)(H:aa B h0 h (bu a pw da offs w ds m::As)):
  aq xD 149 #[xv (dB b),fT y,xt xz n] h λv h'=>v=xx (gP m d n)/\Sp h h' []:=by
 obtain⟨s,o,l,c,j⟩:=If g f H;exact EX s o y m n l c c.len j e i
theorem Fx{k:Int}{d:bj}{b:eY}(c:aX ds k=dB d)(i:ib da k=dB b)(H:aa B h0 h (bu a pw da offs w ds m::As)):
  ∃p A2:HP,aa B h0 h (iU pw b d::dv 121 pw w::p::A2::As)/\
   ∀h' j f,aa B h0 h' (iU pw b f::dv 121 pw j::p::A2::As)->aa B h0 h' (bu a pw da offs j (bK ds k f) m::As):=by
 obtain⟨y,H⟩:=gK H;obtain⟨n,rfl,v⟩:=kD c;have u:ds[n]?=dB (dB d):=by
  unfold aX at c;rw[f9 i4,ql]at c;cases hX:ds[n]? with
  |none=>rw[hX]at c;cases c
  |some o=>rw[hX]at c;exact congrArg dB c
 obtain⟨s,g,r⟩:=Go.Vc.aa.jA H u;have l:s=b:=by unfold ib at i;rw[f9 i4,ql,g]at i;injection i
 subst l;refine⟨_,_,r,λh' j f q=>?_⟩;have t:=Go.Vc.aa.pU (k:=bw) (n:=n) g q;have e:bK ds (n:Int) f=ds.set n (dB f):=by simp only[bK,ql]
 rw[e];exact kP t
theorem abC{k:Int}{d:bj}{b:eY}(y:bX)(n:Int)(l:St B h0 As λh=>dH h y m)(j:dh m)(i:aX ds k=dB d)(f:ib da k=dB b)(H:aa B h0 h (bu a pw da offs w ds m::As)):
  aq xD 150 #[xv (dB b),fT y,xt xz n] h λv h'=>v=xt xz (gj m w d n).1/\aa B h0 h' (bu a pw da offs (gj m w d n).2.1 (bK ds k (gj m w d n).2.2) m::As):=by
 obtain⟨o,A2,g,c⟩:=Fx i f H;refine(Mw y m n l.cons.cons j g).mono ?_;rintro _ h' ⟨rfl,e⟩;exact⟨i0,c _ _ _ e⟩
theorem Wg{k:Int}{d:bj}{b:eY}(x:Sl)(row:aV)(l:Rd h x 1 aD row)(j:ii row<=2^20)(i:aX ds k=dB d)(f:ib da k=dB b)(H:aa B h0 h (bu a pw da offs w ds m::As)):
  aq xD 133 #[xv (dB b),x] h λv h'=>v=xt xz (d.append w row).1/\aa B h0 h' (bu a pw da offs (d.append w row).2.1 (bK ds k (d.append w row).2.2) m::As):=by
 obtain⟨n,A2,g,c⟩:=Fx i f H;refine(GJ x row g l j).mono ?_;rintro _ h' ⟨rfl,e⟩;exact⟨i0,c _ _ _ e⟩
theorem abD(s:Sl)(l:aw)(d:St B h0 As λh=>Rd h s 1 ak l)(e:ii l<=2^30)(b:∀x∈l,0<=x/\x<64)(H:aa B h0 h (bu a pw da offs w ds m::As)):
  aq xD 114 #[.func (.func 23) #[xv (dB a)] #[],s] h λv h'=>v=xt xz (fb (cL l) w ds).1/\aa B h0 h' (bu a pw da offs (fb (cL l) w ds).2.1 (fb (cL l) w ds).2.2 m::As):=by
 obtain⟨y,H⟩:=gK H;refine(Jy s l d.cons e b H).mono ?_;rintro _ h' ⟨rfl,c⟩;exact⟨i0,kP c⟩
theorem Tk(y:bX)(s:Sl)(bQ:aw)(o b:Int)(c:dH h y m)(g:dh m)(i:Rd h s 1 ak bQ)(j:ii bQ<=2^10)(f:∀k∈bQ,∃d,aX ds k=dB d)(H:aa B h0 h (bu a pw da offs w ds m::As)):
  aq xD 49 #[.func (.func 23) #[xv (dB a)] #[],s,fT y,xt xz o,xt xz b] h λv h'=>∃(r:Sl) (e:List (Int×Sl)),v=r/\Sp h h' [cO jq 2 piv r e (fI m ds bQ o b)]:=by
 obtain⟨x,H⟩:=gK H;exact Fe y m s bQ o b c g i j f H
end Go.Qw
namespace Wl
open Go Go.Qw Go.Vc
theorem pr(ds:aE)(k:Int)(d e:bj):bK (bK ds k d) k e=bK ds k e:=by unfold bK;rw[yz]
theorem abE{live:aw}{s i:Int}(l:0<=i↔s∈live)(m:0<=i->live[i.toNat]?=dB s/\∀j,j<i.toNat->live[j]?≠dB s)(h3:-1<=i):fU live s=i:=by
 unfold fU;by_cases c:0<=i
 ·obtain⟨a,b⟩:=m c;have e:live.idxOf? s=dB i.toNat:=by unfold List.idxOf?;rw[List.findIdx?_eq_some_iff_getElem];obtain⟨f,g⟩:=qn.1 a;refine⟨f,by rw[g];simp,λj d=>?_⟩;have:=b j d;rw[qd i4]at this;simpa using λh=>this (by rw[h])
  rw[e];dsimp only;omega
 ·have e:live.idxOf? s=eH:=by unfold List.idxOf?;rw[List.findIdx?_eq_none_iff];intro z k;have:s∉live:=λh=>c (l.2 h);simp only[beq_eq_false_iff_ne];rintro rfl;exact this k
  rw[e];dsimp only;omega
theorem Tl(k:Int)(b:aV):ii (dX k b)<=64:=by
 by_cases h:1<=k/\k<=255/\b.length<=55
 ·rw[mh h.1 h.2.1 h.2.2];exact qm _
 ·unfold dX;rw[g0 h];exact zo _
theorem Gk{o:aw}{i:Int}(a:o≠[])(c:0<=i:=by omega):fZ o i∈o:=by unfold fZ;rw[g0 λh=>h.elim a λh=>i4];have b:0<ii o:=List.length_pos_iff.2 a;have d:=yn i (show(ii o:Int)≠0 by omega);have e:=wP i (show(0:Int)<ii o by omega);unfold Of;rw[qe,qd i4];exact qg _
theorem sZ{o b s:Int}{l:aw}(h:s∈dR o b l):s∈l:=by
 unfold dR at h;split at h
 ·exact((MC _ _ _).1 h).1
 ·cases h
theorem abF(l:aw):ii (je l)<=ii l:=by
 have:=Qx l l.length
 rwa [qi (qm _)]at this
theorem Wh(o b:Int)(l:aw):ii (dR o b l)<=ii l:=by
 unfold dR;split
 ·rw[(JM _ _).length_eq];exact abF l
 ·simp
structure kG (m:aC) (live:aw) (x:ir):Prop where
 seed:0<=x.seed/\x.seed<4294967296
 ev:aY m.p.2.2.toNat x.M
 ml:ii x.M=(bG m.p).toNat
 wl:ii x.W=ii live
 rl:∀l∈x.W,ii l<=2^12+ii x.got
 top:AK x.W<=2^20+ii x.got
 gl:ii x.got<=64
 gi:∀s∈x.got,s∈live
end Wl
namespace Go.Qw
open Go Go.Vc Go.Proofs Wl
theorem _root_.Go.Vc.Seq.aea{h:f8}{p:aA}{s:Sl}{rs:List Sl}(e:Vc.Seq h p s 1 bp rs){n:Nat}(i:n<ii rs){a:eY}(f:s.ptr=dB a):cellOf h (a.add (n*1))=dB (.slice rs[n].ptr rs[n].len rs[n].cap):=by
 obtain⟨b,o,c,j,g⟩:=e.elem n rs[n] (qd i);rw[f]at c;injection c with c
 subst c;have d:=g.1;rw[add_eq,wJ]at d;rw[add_eq];exact d
def re(s:Sl)(W:bP)(k:Nat)(rs:List Sl):HP:=HP.all (ae 22 s 1 bp rs::(bB 3 1 ak rs W).set k emp)
variable {B:aA} {h0 h:f8} {As:List HP} {s:Sl} {W:bP} {k:Nat}
theorem Re(H:aa B h0 h As):aa B h0 h (emp::As):=(H.comp (.one (A:=emp) (aZ.refl _ _) trivial)).bv
theorem afC(f:k<ii W)(H:aa B h0 h (dg 22 s 3 1 ak W::As)):
  ∃(rs:List Sl) (p:eY) (b:ii rs=ii W),s.ptr=dB p/\s.len=ii W/\aa B h0 h (ae 3 (rs[k]'(by omega)) 1 ak W[k]::re s W k rs::As):=by
 obtain⟨rs,b,a⟩:=H.BL;have j:=(a.own 0 i0).len;obtain⟨p,o,d,_⟩:=(a.seq 0 rfl λ_=>rfl).elem k (rs[k]'(by omega)) (qd i4);have e:aa B h0 h (ae 22 s 1 bp rs::emp::(bB 3 1 ak rs W++As)):=(Re a).aT 2 [1,0];have i:=(aa.TW k (fV b k f) e).aT 3 [0,2];have g:aa B h0 h ([ae 3 (rs[k]'(by omega)) 1 ak W[k]]++((ae 22 s 1 bp rs::(bB 3 1 ak rs W).set k emp)++As)):=i;have c:=g.front;rw[List.append_assoc]at c;exact⟨rs,_,b,d,i4,(aa.closeAll _ c).bv⟩
theorem aeb{rs:List Sl}{p:eY}(i:Nat){Bs:List HP}(d:ii rs=ii W)(e:k<ii W)(a:s.ptr=dB p)(c:Bs[i]?=dB (re s W k rs))(H:aa B h0 h Bs):cellOf h (p.add (k*1))=dB (.slice (rs[k]'(by omega)).ptr (rs[k]'(by omega)).len (rs[k]'(by omega)).cap):=by have b:=(H.cons i c).og;exact(b.seq 0 i0 λ_=>rfl).aea i4 a
theorem afD{rs:List Sl}{v:Sl}{l:aw}{x:Int}(f:ii rs=ii W)(n:k<ii W)(m:x=k)(H:aa B h0 h (ae 3 v 1 ak l::re s W k rs::As)){K:f8->Prop}
  (j:∀h',aa B h0 h' (dg 22 s 3 1 ak (W.set k l)::As)->K h'):
  ∃a:eY,(s.ptr=dB a/\0<=x/\x<((s.len:Nat):Int))/\az xD (qf 22 (xv (dB (a.add (x.toNat*1)))) (xu v.ptr v.len v.cap)) h λ_ h'=>K h':=by
 have i:=H.nC.og;refine i.set an 0 i0 (λ_=>rfl) i0 k m i4 v i0 i0 i0 λh' g=>j h' ?_;have b:ii (bB 3 1 ak rs W)=ii W:=by simp[bB];omega
 have d:=g.cons (ii W+1) (A:=ae 3 v 1 ak l) (by
  show((ae 22 s 1 bp (rs.set k v)::((bB 3 1 ak rs W).set k emp++ae 3 v 1 ak l::As)))[ii W+1]?=_;rw[qy,qj l4];simp[b])
 have e:((ae 22 s 1 bp (rs.set k v)::((bB 3 1 ak rs W).set k emp++ae 3 v 1 ak l::As))).set (ii W+1) emp=ae 22 s 1 bp (rs.set k v)::((bB 3 1 ak rs W).set k emp++emp::As):=by rw[zA,List.set_append_right _ _ l4];simp[b]
 have d:aa B h0 h' (ae 3 v 1 ak l::ae 22 s 1 bp (rs.set k v)::((bB 3 1 ak rs W).set k emp++emp::As)):=by rw[<-e];exact d
 have c:=(aa.Gg k i4 ((Re d).aT 3 [1,0,2])).aT 2 [0];have c:aa B h0 h' (ae 22 s 1 bp (rs.set k v)::((bB 3 1 ak rs W).set k (ae 3 v 1 ak l)++emp::As)):=c;rw[kJ f]at c;exact(aa.DW p0 c).aT 2 [0]
def pu(b a:eY)(x:ir):HP:=HP.ex λp:Sl×Sl=>(al b 176 (gr x (dB a) p.1 p.2)).sep ((dg 22 p.1 3 1 ak x.W).sep (ae 3 p.2 1 ak x.got))
variable {b cd:eY} {x:ir}
theorem Gl(H:aa B h0 h (pu b cd x::As)):∃wS gS:Sl,aa B h0 h (ae 3 gS 1 ak x.got::dg 22 wS 3 1 ak x.W::al b 176 (gr x (dB cd) wS gS)::As):=by obtain⟨⟨wS,gS⟩,H⟩:=H.rx;exact⟨wS,gS,H.rO.rO⟩
theorem uJ{wS gS:Sl}(H:aa B h0 h (ae 3 gS 1 ak x.got::dg 22 wS 3 1 ak x.W::al b 176 (gr x (dB cd) wS gS)::As)):aa B h0 h (pu b cd x::As):=
 aa.tQ (F:=λp:Sl×Sl=>(al b 176 (gr x (dB cd) p.1 p.2)).sep ((dg 22 p.1 3 1 ak x.W).sep (ae 3 p.2 1 ak x.got))) (wS,gS) H.lJ.lJ
variable {a pw:eY} {offs:Int} {da:List bm} {w:Pow} {ds:aE} {m:aC}
theorem Zo{c b n:eY}(y:bX)(E g:Sl)(live set:aw)(t most k:Int)(x:ir)(hm:bL m=eR)(hp:bM m.p=eR)(hl:ii live<=64)(a7:∀k∈live,∃d,aX ds k=dB d)(hk:0<=k/\k<=2^40)(F:kG m live x)(ei:ii set<=2^20)
  (hS:St B h0 As λh=>dH h y m/\Rd h E 1 ak live/\Rd h g 1 ak set/\uA h n m.p x.seed x.M)
  (H:aa B h0 h (bu a pw da offs w ds m::al c 104 (cR a y E t most k)::pu b n x::As)):
  aq xD 176 #[xv (dB c),xv (dB b),g] h λv h'=>v=xt xz (di m live set w ds x).1/\
   aa B h0 h' (bu a pw da offs (di m live set w ds x).2.1 (di m live set w ds x).2.2.1 m::al c 104 (cR a y E t most (if(di m live set w ds x).1=0 then k+1 else k))::pu b n (di m live set w ds x).2.2.2::As):=by
 refine uV (dB c) (dB b) g ?_;obtain⟨wS,gS,H1⟩:=Gl (H.aT 3 [2,0,1]);have ad:=H1.box 2 i0;have b7:=H1.box 4 i0;have c7:fW h wS 1 ak x.W:=aa.DX (H1.aT 2 [1,0]) λ_=>rfl;have ej:=F.gl;have bs:∀l∈x.W,ii l<=2^13:=λl hl=>by have:=F.rl l hl;omega
 obtain⟨id,hid⟩:∃id,id=cT x.W:=⟨_,rfl⟩
 have eb:id<=2^21:=by have:=QP x.W;have:=F.top;omega
 refine(Tj b x (dB n) wS gS h ad c7 qa (λl hl=>by have:=bs l hl;omega) (by have:=F.top;omega)).mono ?_;rintro _ h1 ⟨rfl,R1⟩;rw[<-hid];have H1:=H1.up R1.ag;have du:=(hS.cons.cons.cons.cons.cons).here H1;obtain⟨eg,cl,eh,ek⟩:=du;have ad:=H1.box 2 i0;have b7:=H1.box 4 i0;refine⟨(id:Int),i0,b,i0,x.o,ad.cell0 i0,b,i0,x.b,ad.cell i0,c,i0,E,b7.cell i0,(GQ x.o x.b E live h1 cl).mono ?_⟩;rintro _ h2 ⟨r8,rfl,R2⟩;obtain⟨o,ho⟩:∃o,o=dR x.o x.b live:=⟨_,rfl⟩
 rw[<-ho]at R2;have et:ii o<=64:=by rw[ho];exact zd (Wh _ _ _) hl
 have H2:=H1.cj R2;have eq:=(H2.own 0 i0).len;refine⟨r8,i0,trivial,?_⟩;obtain⟨cell,O⟩:∃cell,cell=dn (x.Fp m id):=⟨_,rfl⟩
 have e0:di m live set w ds x=(let r:=gy m live set o cell id w ds (qz o.length);(r.1.1,r.1.2.1,r.1.2.2,if r.1.1=0 then x.su id r.2.1 r.2.2 else x)):=by rw[ho,O,hid];rfl
 rw[e0];refine av (λi:Nat=>(i:Int)) (λi h'=>i<=ii o/\gy m live set o cell id w ds (qz o.length)=gy m live set o cell id w ds ((qz o.length).drop i)/\aa B h0 h' (ae 3 r8 1 ak o::ae 3 gS 1 ak x.got::dg 22 wS 3 1 ak x.W::al b 176 (gr x (dB n) wS gS)::bu a pw da offs w ds m::al c 104 (cR a y E t most k)::As)) (λi=>ii o-i) 0 i0 ⟨i4,i0,H2⟩ ?_;rintro i h3 ⟨hi,b0,T⟩;refine ac (λe=>?_) λe=>?_
 rotate_left
 ·have er:i=ii o:=i4
  have hd:(qz o.length).drop i=[]:=List.drop_eq_nil_of_le i7;rw[b0,hd];refine⟨i0,?_⟩;have T:=T.rest;exact((uJ (T.aT 5 [0,1,2,3,4])).aT 3 [1,2,0])
 have cc:i<ii o:=i4
 have hd:(qz o.length).drop i=i::(qz o.length).drop (i+1):=by rw[qQ i7,vJ]
 rw[af ((id:Int)+(i:Int))];refine(Ub r8 o ((id:Int)+i) h3 (T.seq 0 i0 λ_=>rfl)).mono ?_;rintro _ _ ⟨rfl,rfl⟩;obtain⟨s,hs⟩:∃s,s=fZ o ((id:Int)+i):=⟨_,rfl⟩
 rw[<-hs];have d0:s∈o:=by rw[hs];exact Gk (by intro h;rw[h]at cc;simp at cc)
 have a1:s∈live:=sZ (by rw[<-ho];exact d0);obtain⟨d,U⟩:=a7 s a1;have N:gy m live set o cell id w ds (qz o.length)=(if fU live s∈set∨gP m d 1=eS then gy m live set o cell id w ds ((qz o.length).drop (i+1))else(iG m cell w ds s d,fU live s,s)):=by rw[b0,hd,gy,<-hs,U]
 obtain⟨d9,br,dy,en⟩:=(hS.cons.cons.cons.cons.cons.cons).here T;have X:=T.box 5 i0;refine⟨_,i0,c,i0,E,X.cell i0,(index_spec E live s _ br i4).mono ?_⟩;rintro _ _ ⟨⟨G,rfl,q1,q2,q3,q4⟩,rfl⟩;have a8:fU live s=G:=abE q1 q2 q4;have dr:0<=G:=q1.2 a1;refine⟨G,i0,c,i0,dB a,X.cell0 i0,(Fi s (T.aT 5 [4])).mono ?_⟩;rintro _ _ ⟨rfl,rfl⟩;obtain⟨dp,ax⟩:=LA U (T.aT 5 [4]);rw[ax];refine⟨_,i0,?_⟩;refine bT (λ(_:Unit) h'=>¬(fU live s∈set∨gP m d 1=eS)/\aa B h0 h' (ae 3 r8 1 ak o::ae 3 gS 1 ak x.got::dg 22 wS 3 1 ak x.W::al b 176 (gr x (dB n) wS gS)::bu a pw da offs w ds m::al c 104 (cR a y E t most k)::As)) ?_ ?_
 ·refine(nR g set G _ dy i4).mono ?_;rintro _ _ ⟨rfl,rfl⟩;refine⟨_,i0,ac (λe1=>?_) λe1=>?_⟩
  ·refine⟨i+1,js,⟨i4,?_,T⟩,i4⟩;rw[N,f9 (.inl (by rw[a8];exact e1))]
  ·refine⟨c,i0,y,X.cells 1 _ i0,(abB y 1 U ax d9 (kl hm) (T.aT 5 [4])).mono ?_⟩;rintro _ h4 ⟨rfl,R4⟩;refine⟨_,i0,bi (λe2=>?_) λe2=>?_⟩
   ·refine⟨i+1,js,⟨i4,?_,T.up R4.ag⟩,i4⟩;rw[N,f9 (.inr e2)]
   ·exact⟨λh=>h.elim (λh=>e1 (by rw[<-a8];exact h)) (λh=>by rw[h]at e2;cases e2),T.up R4.ag⟩
 rintro _ h5 ⟨c6,H5⟩;rw[N,g0 c6];dsimp only;have bq:=H5.box 5 i0;have H5:aa B h0 h5 (bu a pw da offs w ds m::ae 3 gS 1 ak x.got::dg 22 wS 3 1 ak x.W::al b 176 (gr x (dB n) wS gS)::al c 104 (cR a y E t most k)::As):=H5.aT 6 [4,1,2,3,5];refine⟨c,i0,y,bq.cells 1 _ i0,(abC y 1 (hS.cons.cons.cons.cons.mono λ_ q=>q.1) (kl hm) U ax H5).mono ?_⟩;rintro _ h6 ⟨rfl,H6⟩;obtain⟨mk,a4⟩:∃mk,mk=gj m w d 1:=⟨_,rfl⟩
 rw[<-a4]at H6⊢;refine⟨_,i0,ci (λe3=>?_) λe3=>?_⟩
 ·have ea:iG m cell w ds s d=(mk.1,mk.2.1,bK ds s mk.2.2):=by unfold iG;rw[<-a4];dsimp only;rw[f9 e3]
  rw[ea];dsimp only;rw[g0 e3,g0 e3];refine⟨i0,?_⟩;exact(uJ (H6.aT 5 [1,2,3,0,4])).aT 3 [1,2,0]
 have cp:aX (bK ds s mk.2.2) s=dB mk.2.2:=by rw[gq (md H).1 U,f9 rfl]
 obtain⟨j,b1⟩:∃j,j=mk.2.2.append mk.2.1 cell:=⟨_,rfl⟩
 have ea:iG m cell w ds s d=(j.1,j.2.1,bK (bK ds s mk.2.2) s j.2.2):=by unfold iG;rw[<-a4];dsimp only;rw[g0 λh=>h e3,<-b1,pr]
 rw[ea];dsimp only;obtain⟨c9,ed,ep,c2⟩:=(hS.cons.cons.cons.cons.cons).here H6;have Q:=H6.box 3 i0;have b9:=H6.box 4 i0;have b5:∀{h':f8},cw h' c 104 (cR a y E t most k)->dH h' y m->aj h' ((c.add 1).add 2) 0 [xt xz m.p.1,xt xz m.p.2.1,xt xz m.p.2.2]:=λ{h'} hb hy=>by
  have d5:y.2.2.1=m.p.1:=congrArg (·.1) hy.p;have dx:y.2.2.2.1=m.p.2.1:=congrArg (·.2.1) hy.p;have c0:y.2.2.2.2.1=m.p.2.2:=congrArg (·.2.2) hy.p;rw[addr_add,<-d5,<-dx,<-c0];exact hb.cells 3 _ i0
 refine bT (λ(z:eY) h'=>∃D:Sl,aa B h0 h' (al z 164 (bO (x.o,x.b,(id:Int),m.p.1,m.p.2.1,m.p.2.2,x.seed,D))::ae 5 D 1 aD (x.Fp m id).data::bu a pw da offs mk.2.1 (bK ds s mk.2.2) m::ae 3 gS 1 ak x.got::dg 22 wS 3 1 ak x.W::al b 176 (gr x (dB n) wS gS)::al c 104 (cR a y E t most k)::As)) ?_ ?_
 ·have c8:=b5 b9 c9;have L:∀{h':f8},cw h' b 176 (gr x (dB n) wS gS)->cw h' c 104 (cR a y E t most k)->dH h' y m->au.ok [(b.add 2,xt xB x.seed),((c.add 1).add 2,xt xz m.p.1),(((c.add 1).add 2).add 1,xt xz m.p.2.1),(((c.add 1).add 2).add 2,xt xz m.p.2.2),(b.add 1,xt xz x.b),(b,xt xz x.o)] h':=λ{h'} hb hc hy=>by
   have q:=b5 hc hy;exact⟨hb.cell i0,q.1,q.2.1,q.2.2.1,hb.cell i0,hb.cell0 i0,trivial⟩
  refine⟨b,i0,x.o,Q.cell0 i0,b,i0,x.b,Q.cell i0,c,i0,m.p,c8,b,i0,x.seed,Q.cell i0,b,i0,dB n,Q.cell i0,?_,?_⟩
  ·refine(AG n m.p x.seed id x.M (bG m.p).toNat m.p.2.2.toNat h6 c2 hp (by have:=(cm m.p).1 hp;omega) i0 F.ev F.ml).mono ?_;rintro _ h7 ⟨D,rfl,R7⟩;have H7:=H6.cj R7;refine⟨D,i0,L (H7.box 4 i0) (H7.box 5 i0) ((hS.cons.cons.cons.cons.cons.cons).here H7).1,H7.alloc an i0 λc1 h8 P=>?_⟩;have P:=P.bv;refine⟨L (P.box 5 i0) (P.box 6 i0) ((hS.cons.cons.cons.cons.cons.cons.cons).here P).1,?_⟩;refine P.storeAll an 0 i0 i0 (bO (x.o,x.b,(id:Int),m.p.1,m.p.2.1,m.p.2.2,x.seed,D)) i0 i0 i0 i0 λh9 H9=>⟨trivial,D,H9⟩
  ·refine H6.alloc an i0 λc1 h8 P=>?_;have P:=P.bv;obtain⟨d4,_,_,dk⟩:=(hS.cons.cons.cons.cons.cons.cons).here P;refine⟨⟨(P.box 4 i0).cell i0,L (P.box 4 i0) (P.box 5 i0) d4⟩,?_⟩;refine(AG n m.p x.seed id x.M (bG m.p).toNat m.p.2.2.toNat h8 dk hp (by have:=(cm m.p).1 hp;omega) i0 F.ev F.ml).mono ?_;rintro _ h7 ⟨D,rfl,R7⟩;have H7:=P.cj R7;refine⟨D,i0,L (H7.box 5 i0) (H7.box 6 i0) ((hS.cons.cons.cons.cons.cons.cons.cons).here H7).1,?_⟩;refine H7.storeAll an 1 i0 i0 (bO (x.o,x.b,(id:Int),m.p.1,m.p.2.1,m.p.2.2,x.seed,D)) i0 i0 i0 i0 λh9 H9=>⟨trivial,D,H9.nC⟩
 rintro z d2 ⟨D,bd⟩;have cn:=bd.box 0 i0;refine⟨(x.o,x.b,(id:Int),m.p.1,m.p.2.1,m.p.2.2,x.seed,D),cn.aP _ i0,?_⟩;have a5:=bd.seq 1 i0 λ_=>rfl;refine(rF (x.o,x.b,(id:Int),m.p.1,m.p.2.1,m.p.2.2,x.seed,D) (x.Fp m id) d2 ⟨⟨i0,i0,i0,i0,i0,F.seed⟩,a5⟩).mono ?_;rintro _ dd ⟨a6,rfl,cq⟩;rw[<-O]at cq;have a0:=bd.cj cq;have c5:ii cell<=2^20:=by
  rw[O];unfold dn;split
  ·exact zd (Tl _ _) i5
  ·simp
 have a0:aa B h0 dd (bu a pw da offs mk.2.1 (bK ds s mk.2.2) m::ae 5 a6 1 aD cell::ae 3 gS 1 ak x.got::dg 22 wS 3 1 ak x.W::al b 176 (gr x (dB n) wS gS)::al c 104 (cR a y E t most k)::As):=a0.aT 8 [3,0,4,5,6,7];refine⟨a6,i0,(Wg a6 cell (a0.seq 1 i0 λ_=>rfl) c5 cp ax a0).mono ?_⟩;rintro _ b6 ⟨rfl,Y⟩;rw[<-b1]at Y⊢;have Y:aa B h0 b6 (ae 3 gS 1 ak x.got::dg 22 wS 3 1 ak x.W::al b 176 (gr x (dB n) wS gS)::bu a pw da offs j.2.1 (bK (bK ds s mk.2.2) s j.2.2) m::al c 104 (cR a y E t most k)::As):=Y.aT 6 [2,3,4,0,5];refine⟨_,i0,ci (λe4=>?_) λe4=>?_⟩
 ·rw[g0 e4,g0 e4];refine⟨i0,?_⟩;exact(uJ Y).aT 3 [1,2,0]
 rw[e4,f9 i0,f9 rfl];obtain⟨f,ab⟩:∃f:Nat,G=(f:Int):=⟨G.toNat,i4⟩
 have J:f<ii x.W:=qa
 have a3:x.su id (fU live s) s={x with W:=x.W.set f (x.W[f]++[(id:Int)]),got:=x.got++[s]}:=by unfold ir.su;rw[a8,ab,ql,qe,qd J];rfl
 rw[a3];refine bT (λ(_:Unit) h'=>aa B h0 h' (bu a pw da offs j.2.1 (bK (bK ds s mk.2.2) s j.2.2) m::al c 104 (cR a y E t most k)::pu b n {x with W:=x.W.set f (x.W[f]++[(id:Int)]),got:=x.got++[s]}::As)) ?_ ?_
 ·obtain⟨rs,pp,cr,b3,d1,S⟩:=afC J (Y.aT 2 [1,0]);have ec:=bs _ (qg J);have S:aa B h0 b6 (ae 3 (rs[f]'(by omega)) 1 ak x.W[f]::re wS x.W f rs::ae 3 gS 1 ak x.got::al b 176 (gr x (dB n) wS gS)::bu a pw da offs j.2.1 (bK (bK ds s mk.2.2) s j.2.2) m::al c 104 (cR a y E t most k)::As):=S;have K:∀{h':f8} {r r':HP} {Cs:List HP},aa B h0 h' (r::re wS x.W f rs::r'::al b 176 (gr x (dB n) wS gS)::Cs)->cw h' b 176 (gr x (dB n) wS gS)/\cellOf h' (pp.add (G.toNat*1))=dB (.slice (rs[f]'(by omega)).ptr (rs[f]'(by omega)).len (rs[f]'(by omega)).cap):=λ{h' r r' Cs} R=>
   ⟨R.box 3 i0,by rw[ab,ql];exact aeb 1 cr J b3 i0 R⟩
  have Z:=S.box 3 i0;have fin:∀{h':f8} {v v':Sl} {Cs:List HP},aa B h0 h' (ae 3 v 1 ak (x.W[f]++[(id:Int)])::re wS x.W f rs::ae 3 v' 1 ak (x.got++[s])::al b 176 (gr x (dB n) wS gS)::bu a pw da offs j.2.1 (bK (bK ds s mk.2.2) s j.2.2) m::al c 104 (cR a y E t most k)::As)->
    au.ok [(b.add 4,xu wS.ptr wS.len wS.cap),(b.add 4,xu wS.ptr wS.len wS.cap)] h'/\∃a55:eY,(wS.ptr=dB a55/\0<=G/\G<(wS.len:Int))/\az xD (qf 22 (xv (dB (a55.add (G.toNat*1)))) (xu v.ptr v.len v.cap)) h' λ_ bk=>
     au.ok [] bk/\∃b2:eY,(dB b=dB b2)/\az xD (qf 22 (xv (dB (b2.add 5))) (xu v'.ptr v'.len v'.cap)) bk λ_ ao=>au.ok [] ao/\
      aa B h0 ao (bu a pw da offs j.2.1 (bK (bK ds s mk.2.2) s j.2.2) m::al c 104 (cR a y E t most k)::pu b n {x with W:=x.W.set f (x.W[f]++[(id:Int)]),got:=x.got++[s]}::As):=λ{h' v v' Cs} R=>by
   have cs:=(K R).1;refine⟨⟨cs.cell i0,cs.cell i0,trivial⟩,afD cr J ab R λbk d8=>⟨trivial,b,i0,d8.storeAt an 2 i0 i0 i0 i0 i0 (show 5<6 by decide) λao a2=>⟨trivial,?_⟩⟩⟩;have a2:aa B h0 ao (dg 22 wS 3 1 ak (x.W.set f (x.W[f]++[(id:Int)]))::ae 3 v' 1 ak (x.got++[s])::al b 176 (gr x (dB n) wS v')::bu a pw da offs j.2.1 (bK (bK ds s mk.2.2) s j.2.2) m::al c 104 (cR a y E t most k)::As):=a2;exact(uJ (x:={x with W:=x.W.set f (x.W[f]++[(id:Int)]),got:=x.got++[s]}) (wS:=wS) (gS:=v') (a2.aT 5 [1,0,2,3,4])).aT 3 [1,2,0]
  have ay:∀{h':f8} {r r':HP} {Cs:List HP},aa B h0 h' (r::re wS x.W f rs::r'::al b 176 (gr x (dB n) wS gS)::Cs)->
    au.ok [(b.add 5,xu gS.ptr gS.len gS.cap),(b.add 4,xu wS.ptr wS.len wS.cap),(b.add 4,xu wS.ptr wS.len wS.cap)] h':=λR=>⟨(K R).1.cell i0,(K R).1.cell i0,(K R).1.cell i0,trivial⟩
  have ar:∀{h':f8} {r r':HP} {Cs:List HP},aa B h0 h' (r::re wS x.W f rs::r'::al b 176 (gr x (dB n) wS gS)::Cs)->
    au.ok [(b.add 5,xu gS.ptr gS.len gS.cap),(pp.add (G.toNat*1),.slice (rs[f]'(by omega)).ptr (rs[f]'(by omega)).len (rs[f]'(by omega)).cap),(b.add 4,xu wS.ptr wS.len wS.cap),(b.add 4,xu wS.ptr wS.len wS.cap)] h':=λR=>⟨(K R).1.cell i0,(K R).2,(K R).1.cell i0,(K R).1.cell i0,trivial⟩
  refine⟨b,i0,wS,Z.cell i0,b,i0,wS,Z.cell i0,pp,⟨b3,dr,(by rw[ab,d1];exact Int.ofNat_lt.2 J)⟩,rs[f]'(by omega),(K S).2,b,i0,gS,Z.cell i0,?_,?_⟩
  ·refine S.lit an ak fS i0 [(id:Int)] i0 (show 1*1<=2^20 by decide) i0 λv51 a9 I=>?_;have I:aa B h0 a9 (ae 3 v51 1 ak [(id:Int)]::ae 3 (rs[f]'(by omega)) 1 ak x.W[f]::re wS x.W f rs::ae 3 gS 1 ak x.got::al b 176 (gr x (dB n) wS gS)::bu a pw da offs j.2.1 (bK (bK ds s mk.2.2) s j.2.2) m::al c 104 (cR a y E t most k)::As):=I.bv;refine⟨ar I.rest,?_,?_⟩
   ·refine I.append an 1 i0 fS ⟨_,_,i0,i0⟩ i0 i5 (λ_=>rfl) (I.seq 0 i0 λ_=>rfl) eJ i7 λc4 am u=>⟨ay u.rest,?_⟩
    refine u.lit an ak fS i0 [s] i0 (show 1*1<=2^20 by decide) i0 λv53 bb A=>?_;have A:aa B h0 bb (ae 3 v53 1 ak [s]::ae 3 c4 1 ak (x.W[f]++[(id:Int)])::re wS x.W f rs::ae 3 gS 1 ak x.got::al b 176 (gr x (dB n) wS gS)::bu a pw da offs j.2.1 (bK (bK ds s mk.2.2) s j.2.2) m::al c 104 (cR a y E t most k)::As):=(A.bv).aT 3 [0,2];refine⟨ay A.rest,?_⟩;refine A.append an 3 i0 fS ⟨_,_,i0,i0⟩ i0 i5 (λ_=>rfl) (A.seq 0 i0 λ_=>rfl) eJ i7 λew cf V=>?_;exact fin (Cs:=[]) V.rest
   ·refine I.lit an ak fS i0 [s] i0 (show 1*1<=2^20 by decide) i0 λd3 am u=>?_;have u:aa B h0 am (ae 3 d3 1 ak [s]::ae 3 v51 1 ak [(id:Int)]::ae 3 (rs[f]'(by omega)) 1 ak x.W[f]::re wS x.W f rs::ae 3 gS 1 ak x.got::al b 176 (gr x (dB n) wS gS)::bu a pw da offs j.2.1 (bK (bK ds s mk.2.2) s j.2.2) m::al c 104 (cR a y E t most k)::As):=u.bv;refine⟨ar u.rest.rest,?_⟩;refine u.append an 2 i0 fS ⟨_,_,i0,i0⟩ i0 i5 (λ_=>rfl) (u.seq 1 i0 λ_=>rfl) eJ i7 λel bb A=>⟨ay A.rest.rest,?_⟩
    refine A.append an 4 i0 fS ⟨_,_,i0,i0⟩ i0 i5 (λ_=>rfl) (A.seq 0 i0 λ_=>rfl) eJ i7 λes cf V=>?_;exact fin (Cs:=[]) V.rest.rest
  ·refine S.lit an ak fS i0 [s] i0 (show 1*1<=2^20 by decide) i0 λbl a9 I=>?_;have I:aa B h0 a9 (ae 3 bl 1 ak [s]::ae 3 (rs[f]'(by omega)) 1 ak x.W[f]::re wS x.W f rs::ae 3 gS 1 ak x.got::al b 176 (gr x (dB n) wS gS)::bu a pw da offs j.2.1 (bK (bK ds s mk.2.2) s j.2.2) m::al c 104 (cR a y E t most k)::As):=I.bv;refine⟨ar I.rest,?_⟩;refine I.lit an ak fS i0 [(id:Int)] i0 (show 1*1<=2^20 by decide) i0 λd7 am u=>?_;have u:aa B h0 am (ae 3 d7 1 ak [(id:Int)]::ae 3 bl 1 ak [s]::ae 3 (rs[f]'(by omega)) 1 ak x.W[f]::re wS x.W f rs::ae 3 gS 1 ak x.got::al b 176 (gr x (dB n) wS gS)::bu a pw da offs j.2.1 (bK (bK ds s mk.2.2) s j.2.2) m::al c 104 (cR a y E t most k)::As):=u.bv;refine⟨ar u.rest.rest,?_⟩;refine u.append an 2 i0 fS ⟨_,_,i0,i0⟩ i0 i5 (λ_=>rfl) (u.seq 0 i0 λ_=>rfl) eJ i7 λef bb A=>⟨ay A.rest.rest,?_⟩
   refine A.append an 4 i0 fS ⟨_,_,i0,i0⟩ i0 i5 (λ_=>rfl) (A.seq 1 i0 λ_=>rfl) eJ i7 λe5 cf V=>?_;exact fin (Cs:=[]) V.rest.rest
 rintro _ eo b4;refine⟨c,i0,k,(b4.box 1 i0).cell i0,c,i0,b4.storeAt an 1 i0 i0 i0 i0 i0 (show 12<13 by decide) λd6 ah=>⟨i0,?_⟩⟩;have ah:aa B h0 d6 (bu a pw da offs j.2.1 (bK (bK ds s mk.2.2) s j.2.2) m::al c 104 (cR a y E t most (qc xz (k+1)))::pu b n {x with W:=x.W.set f (x.W[f]++[(id:Int)]),got:=x.got++[s]}::As):=ah;rw[af _]at ah;exact ah
end Go.Qw
namespace Wl
open Go Go.Qw Go.Vc
theorem Il{m:aC}{live set order:aw}{c:aV}{id:Nat}{w:Pow}{ds:aE}:∀{l:List Nat},(gy m live set order c id w ds l).1.1=0->
  ∃i∈l,∃d,aX ds (fZ order ((id:Int)+i))=dB d/\fU live (fZ order ((id:Int)+i))∉set/\gP m d 1=eR/\gy m live set order c id w ds l=(iG m c w ds (fZ order ((id:Int)+i)) d,fU live (fZ order ((id:Int)+i)),fZ order ((id:Int)+i))
 |[],h=>j8
 |i::l,h=>by
  unfold gy at h⊢;dsimp only at h⊢;cases hd:aX ds (fZ order ((id:Int)+i))with
  |none=>
   rw[hd]at h;obtain⟨j,b,r⟩:=Il h;exact⟨j,qD _ b,r⟩
  |some d=>
   rw[hd]at h;dsimp only at h⊢;by_cases a:fU live (fZ order ((id:Int)+i))∈set∨gP m d 1=eS
   ·rw[f9 a]at h⊢;obtain⟨j,b,r⟩:=Il h;exact⟨j,qD _ b,r⟩
   ·rw[g0 a];exact⟨i,qI,d,hd,λh=>a (.inl h),by cases hf:gP m d 1 with|true=>rfl|false=>exact absurd (.inr hf) a,rfl⟩
theorem Zp{m:aC}{c:aV}{w:Pow}{ds:aE}{s:Int}{d:bj}:∃a,(iG m c w ds s d).2.2=bK ds s a:=by
 unfold iG;dsimp only;split
 ·exact⟨_,i0⟩
 ·exact⟨_,pr _ _ _ _⟩
theorem Im{m:aC}{live set order:aw}{c:aV}{id:Nat}{w:Pow}{ds:aE}(a:ii ds=64){P:Int->Prop}(b:∀k,P k->∃d,aX ds k=dB d):∀{l:List Nat},∀k,P k->∃d,aX (gy m live set order c id w ds l).1.2.2 k=dB d
 |[],k,hk=>b k hk
 |i::l,k,hk=>by
  unfold gy;dsimp only;cases hd:aX ds (fZ order ((id:Int)+i))with
  |none=>exact Im a b k hk
  |some d=>
   dsimp only;split
   ·exact Im a b k hk
   ·obtain⟨f,e⟩:=Zp (m:=m) (c:=c) (w:=w) (ds:=ds) (s:=fZ order ((id:Int)+i)) (d:=d);dsimp only;rw[e,gq a hd];split
    ·exact⟨_,i0⟩
    ·exact b k hk
theorem Rf{W:bP}{n:Nat}(h:∀l∈W,∀x∈l,x.toNat<=n):AK W<=n:=by
 have b:∀l:aw,(∀x∈l,x.toNat<=n)->l.foldr (λx a=>max a x.toNat) 0<=n:=by
  intro l
  induction l with
  |nil=>intro _;exact zo _
  |cons x l ih=>
   intro h;rw[List.foldr_cons];have f:=ih λy d=>h y (qD _ d);have g:=h x qI;omega
 exact b _ λx c=>by
  obtain⟨l,e,c⟩:=yw.1 c;exact h l e x c
theorem CO{m:aC}{live set:aw}{w:Pow}{ds:aE}{x:ir}(F:kG m live x)(E:ii x.got<64):kG m live (di m live set w ds x).2.2.2/\((di m live set w ds x).1=0->∃s,s∈live/\(di m live set w ds x).2.2.2=x.su (cT x.W) (fU live s) s)/\((di m live set w ds x).1≠0->(di m live set w ds x).2.2.2=x):=by
 unfold di;dsimp only;obtain⟨r,p⟩:∃r,r=gy m live set (dR x.o x.b live) (dn (x.Fp m (cT x.W))) (cT x.W) w ds (qz (dR x.o x.b live).length):=⟨_,rfl⟩
 rw[<-p];by_cases h:r.1.1=0
 ·rw[f9 h];obtain⟨i,n,d,H,B,h3,t⟩:=Il (by rw[<-p];exact h);rw[<-p]at t;have n:=qJ.1 n;have v:fZ (dR x.o x.b live) ((cT x.W:Int)+i)∈live:=sZ (Gk (by intro h;rw[h]at n;simp at n));have A:r.2.1=fU live (fZ (dR x.o x.b live) ((cT x.W:Int)+i)):=by rw[t]
  have y:r.2.2=fZ (dR x.o x.b live) ((cT x.W:Int)+i):=by rw[t]
  refine⟨?_,λ_=>⟨_,v,by rw[A,y]⟩,λq=>absurd h q⟩;have g:(x.su (cT x.W) r.2.1 r.2.2).got.length=ii x.got+1:=by simp[ir.su]
  have e:∀l∈(x.su (cT x.W) r.2.1 r.2.2).W,l∈x.W∨l=x.W.getD r.2.1.toNat []++[(cT x.W:Int)]:=λl j=>zU j;have a:∀k,x.W.getD k []∈x.W∨x.W.getD k []=[]:=λk=>by
   by_cases u:k<ii x.W
   ·rw[eE [] u];exact .inl (qg u)
   ·exact .inr (by rw[qe,qP i4];rfl)
  have D:=QP x.W;have G:=F.top;refine⟨F.seed,F.ev,F.ml,by show(x.W.set _ _).length=_;rw[zl];exact F.wl,λl j=>?_,?_,i4,λs f=>?_⟩
  ·rw[g];rcases e l j with h|rfl
   ·have:=F.rl l h;omega
   ·rw[qw,List.length_singleton];rcases a r.2.1.toNat with h|h
    ·have:=F.rl _ h;omega
    ·rw[h,List.length_nil];omega
  ·rw[g];refine Rf λl j z c=>?_;rcases e l j with h|rfl
   ·have:=LD (yw.2 ⟨l,h,c⟩);omega
   ·rcases qA.1 c with c|c
    ·rcases a r.2.1.toNat with h|h
     ·have:=LD (yw.2 ⟨_,h,c⟩);omega
     ·rw[h]at c;cases c
    ·rw[qB.1 c];omega
  ·have f:s∈x.got++[r.2.2]:=f;rcases qA.1 f with h|h
   ·exact F.gi s h
   ·rw[qB.1 h,y];exact v
 ·rw[g0 h];exact⟨F,λq=>absurd q h,λ_=>rfl⟩
theorem Zq(p:Pm)(seed:Int)(W:bP)(t:Int):(ig p seed W t).1.length<=64:=by
 unfold ig;split
 ·split
  ·split
   ·exact zo _
   ·rename_i h _;split
    ·rename_i g b;obtain⟨y,a,rfl⟩:=qu.1 (List.mem_of_find?_eq_some b);dsimp only;rw[kQ,(BW a).1];omega
    ·exact zo _
  ·exact zo _
 ·exact zo _
end Wl
namespace Go.Qw
open Go Go.Vc Go.Proofs Wl
variable {B:aA} {h0 h:f8} {As:List HP} {a pw:eY} {offs:Int} {da:List bm} {w:Pow} {ds:aE} {m:aC}
theorem Wi{c b O:eY}(y:bX)(D:Sl)(live:aw)(t most k:Int)(x:ir)(hm:bL m=eR)(hp:bM m.p=eR)(hl:ii live<=64)(L:∀k∈live,∃d,aX ds k=dB d)(hk:0<=k/\k<=2^39)(F:kG m live x)(E:x.got=[])(J:0<=most/\most<=64)
  (hS:St B h0 As λh=>dH h y m/\Rd h D 1 ak live/\uA h O m.p x.seed x.M)
  (H:aa B h0 h (bu a pw da offs w ds m::al c 104 (cR a y D t most k)::pu b O x::As)):
  aq xD 113 #[xv (dB c),xv (dB b)] h λv h'=>v=xt xz (cX m live t most 65 w ds x).1/\
   aa B h0 h' (bu a pw da offs (cX m live t most 65 w ds x).2.1 (cX m live t most 65 w ds x).2.2.1 m::al c 104 (cR a y D t most (k+(cX m live t most 65 w ds x).2.2.2.got.length))::pu b O (cX m live t most 65 w ds x).2.2.2::As):=by
 refine uR (dB c) (dB b) ?_;obtain⟨G,hG⟩:∃G,G=cX m live t most 65 w ds x:=⟨_,rfl⟩
 rw[<-hG];refine av (λ_:Nat×Pow×aE×ir=>()) (λz h'=>z.1+ii z.2.2.2.got=65/\(ii z.2.2.2.got:Int)<=most/\G=cX m live t most z.1 z.2.1 z.2.2.1 z.2.2.2/\kG m live z.2.2.2/\z.2.2.2.seed=x.seed/\z.2.2.2.M=x.M/\(∀k∈live,∃d,aX z.2.2.1 k=dB d)/\
  aa B h0 h' (bu a pw da offs z.2.1 z.2.2.1 m::al c 104 (cR a y D t most (k+ii z.2.2.2.got))::pu b O z.2.2.2::As)) (λz=>z.1) (65,w,ds,x) i0 ⟨by rw[E];rfl,by rw[E];exact J.1,hG,F,i0,i0,L,by rw[E];show aa B h0 h (_::al c _ (cR a y D t most (k+0))::_);rw[Int.add_zero];exact H⟩ ?_
 rintro⟨f,w1,n,j⟩ h1 ⟨hf,ax,g,K,es,eM,i,N⟩;dsimp only at hf ax g K es eM i N⊢;obtain⟨f',rfl⟩:∃f',f=f'+1:=⟨f-1,i4⟩
 have X:=N.box 1 i0;obtain⟨wS,gS,H2⟩:=Gl (N.aT 3 [2,0,1]);have R:=H2.box 2 i0;have ah:fW h1 wS 1 ak j.W:=aa.DX (H2.aT 2 [1,0]) λ_=>rfl;have ay:dQ (bH (cF 1 ak) 1 bp) h1 wS j.W:=by obtain⟨rs,q1,q2,q3⟩:=ah;exact⟨rs,q1,q2,q3⟩
 obtain⟨hy,a2,hM⟩:=(hS.cons.cons.cons).here N;have a0:y.2.2.1=m.p.1:=congrArg (·.1) hy.p;have ar:y.2.2.2.1=m.p.2.1:=congrArg (·.2.1) hy.p;have ab:y.2.2.2.2.1=m.p.2.2:=congrArg (·.2.2) hy.p;have am:aj h1 ((c.add 1).add 2) 0 [xt xz m.p.1,xt xz m.p.2.1,xt xz m.p.2.2]:=by rw[addr_add,<-a0,<-ar,<-ab];exact X.cells 3 _ i0
 refine⟨c,i0,m.p,am,b,i0,j.seed,R.cell i0,b,i0,wS,R.cell i0,c,i0,t,X.cell i0,?_⟩;refine(JY m.p j.seed wS j.W t h1 ay (by rw[K.wl];omega) (λl hl=>by have:=K.rl l hl;have:=K.gl;omega) (xk _)).mono ?_;rintro _ h2 ⟨r,rfl,R2⟩;obtain⟨q,U⟩:∃q,q=ig m.p j.seed j.W t:=⟨_,rfl⟩
 rw[<-U]at R2⊢;rw[cX]at g;dsimp only at g;rw[<-U]at g;have H3:=N.up R2.ag;refine⟨(r,q.2.1,q.2.2),i0,trivial,?_⟩;dsimp only;refine ci (λe=>?_) λe=>?_
 ·rw[f9 e]at g;rw[g];exact⟨i0,H3⟩
 rw[g0 λh=>h e]at g;refine bi (λe1=>?_) λe1=>?_
 ·rw[f9 e1]at g;rw[g];exact⟨i0,H3⟩
 rw[g0 n7]at g;obtain⟨a1,ao,H4⟩:=Gl (H3.aT 3 [2,0,1]);have Y:=H4.box 2 i0;have u:=(H4.own 0 i0).len;have Z:=H3.box 1 i0;refine⟨b,i0,ao,Y.cell i0,c,i0,most,Z.cell i0,ac (λV=>?_) λV=>?_⟩
 ·rw[u]at V;rw[f9 V]at g;rw[g];exact⟨i0,H3⟩
 rw[u]at V;rw[g0 V]at g;have H5:aa B h0 h2 (bu a pw da offs w1 n m::al c 104 (cR a y D t most (k+ii j.got))::pu b O j::EA (cF 1 ak) r q.1::As):=(N.cj R2).aT 4 [1,2,3,0];have ad:ii q.1<=2^20:=by have:=Zq m.p j.seed j.W t;rw[U];omega
 have ap:St B h0 (EA (cF 1 ak) r q.1::As) λh=>dH h y m/\Rd h D 1 ak live/\Rd h r 1 ak q.1/\uA h O m.p j.seed j.M:=λBs h' H'=>by
  obtain⟨z1,z2,z3⟩:=hS.cons Bs h' H';rw[es,eM];exact⟨z1,z2,(St.dS (A:=EA (cF 1 ak) r q.1) (Q:=λh=>Rd h r 1 ak q.1) 0 i0 λh' U=>U) Bs h' H',z3⟩
 refine(Zo y D r live q.1 t most (k+ii j.got) j hm hp hl i (by have:=K.gl;omega) K ad ap H5).mono ?_;rintro _ h6 ⟨rfl,o⟩;obtain⟨g1,g2,g3⟩:=CO (set:=q.1) (w:=w1) (ds:=n) K i4;have S:∀k∈live,∃d,aX (di m live q.1 w1 n j).2.2.1 k=dB d:=λk hk=>Im (P:=λk=>k∈live) (md N).1 i k hk;obtain⟨Q,hQ⟩:∃Q,Q=di m live q.1 w1 n j:=⟨_,rfl⟩
 rw[<-hQ]at o g1 g2 g3 S g⊢;have o:=o.aT 4 [0,1,2];refine⟨_,i0,ci (λI=>?_) λI=>?_⟩
 ·rw[f9 I]at g;rw[g];refine⟨i0,?_⟩;rw[g0 I]at o;rw[g3 I]at o⊢;exact o
 ·rw[g0 λh=>h I]at g;rw[f9 I]at o;obtain⟨s,hs,eg⟩:=g2 I;have T:ii Q.2.2.2.got=ii j.got+1:=by rw[eg];simp[ir.su]
  refine⟨(f',Q.2.1,Q.2.2.1,Q.2.2.2),i0,⟨?_,?_,g,g1,?_,?_,S,?_⟩,i6⟩
  ·dsimp only;omega
  ·dsimp only;omega
  ·dsimp only;rw[eg];exact es
  ·dsimp only;rw[eg];exact eM
  ·dsimp only;rw[T,Int.natCast_add,<-Int.add_assoc];exact o
theorem Rg{m:aC}{offs:Int}{w:Pow}{ds:aE}{n:aC}(p:w.calm)(l:ii ds=64)(u:fd w offs=eS)(r:bL n=eR)(y:n.seq=m.seq+1):
  let live:=aQ ds n.drives;let N:Int->Int:=λ_=>(ii (bn n):Int)
  (live=[]∨dN m ds live N=eS->dc m offs w ds n=(7,m,w,ds))/\(live≠[]->dN m ds live N=eR->∃ds',dc m offs w ds n=(0,n,w,ds')/\ds'.length=64/\
   ∀k,aX ds' k=(aX ds k).map λd=>if k∈live then eI (bn n) (cK m d (bn n).length)else d):=by
 intro live N;have b:live.Nodup:=lA (nf r);have e:dc m offs w ds n=(if live=[]∨dN m ds live N=eS then(7,m,w,ds)else
   if(makes m N live w ds).1≠0 then((makes m N live w ds).1,m,(makes m N live w ds).2)else
   ((layAll (bJ n live) (makes m N live w ds).2.1 (makes m N live w ds).2.2).1,if(layAll (bJ n live) (makes m N live w ds).2.1 (makes m N live w ds).2.2).1=0 then n else m,(layAll (bJ n live) (makes m N live w ds).2.1 (makes m N live w ds).2.2).2)):=by
  unfold dc;rw[g0 (by rw[u];decide),g0 (by rw[r,hU (by simpa using y)];decide)]
 refine⟨λh=>by rw[e,f9 h],λg i=>?_⟩;rw[e,g0 (by rintro(h|h);exact g h;rw[i]at h;cases h)];obtain⟨E,t,v,q⟩:=CK p (N:=N) b l i;rw[t];dsimp only;rw[g0 i9];obtain⟨D,A,z,s⟩:=JS p (ds:=E) (P:=bJ n live) v λx H=>by
  obtain⟨a,f⟩:=kO H;obtain⟨B,o,j⟩:=AI (q7.1 i x.1 a);obtain⟨F,G,I⟩:=sW j;refine⟨f,cK m B (N x.1),?_,F,?_⟩
  ·rw[q,o,Option.map_some,f9 a]
  ·rw[oz b,f9 a,G];have:N x.1=(ii (bn n):Int):=rfl;omega
 rw[A];refine⟨D,i0,z,λk=>?_⟩;rw[s,q,Option.map_map];congr 1;funext d;show eI (ly (bJ n live) k) (if k∈live then cK m d (N k)else d)=_;rw[oz b];by_cases c:k∈live
 ·rw[f9 c,f9 c,f9 c]
 ·rw[g0 c,g0 c,g0 c];rfl
end Go.Qw
namespace Wl
open Go
structure Pg where
 seq:Int
 num:Int
 many:Int
 bears:aV
 cell:aV
def afE(x c:aV):Pg:=⟨dF (x.take 4),((x.getD 4 0).toNat:Int),((x.getD 5 0).toNat:Int),(x.drop 7).take (x.getD 6 0).toNat,c⟩
def rV(c:aV):Option Pg:=
 match fu c with
 |some (k,x)=>if k=2/\(x.getD 6 0).toNat<=48/\(x.drop (7+(x.getD 6 0).toNat)).all (λb=>decide (b=0))=eR then dB (afE x c)else eH
 |none=>eH
theorem Wj{seq c a:Int}{b:aV}(i:0<=seq/\seq<4294967296)(q:0<=c/\c<256)(h3:0<=a/\a<256)(r:ii b<=48):rV (kg seq c a b)=dB ⟨seq,c,a,b,kg seq c a b⟩:=by
 have k:ii (cg seq 4++([b8 c,b8 a,b8 b.length]++b))=7+ii b:=l9
 obtain⟨x,e⟩:∃x,x=cg seq 4++([b8 c,b8 a,b8 b.length]++b)++qh (55-ii (cg seq 4++([b8 c,b8 a,b8 b.length]++b))) 0:=⟨_,rfl⟩
 have o:fu (kg seq c a b)=dB (2,x):=by unfold kg;rw[xG,e]
 have d:=IJ seq;have f:x.getD 6 0=b8 b.length:=by rw[e,d];rfl
 have l:x.getD 5 0=b8 a:=by rw[e,d];rfl
 have n:x.getD 4 0=b8 c:=by rw[e,d];rfl
 have m:x.take 4=cg seq 4:=by rw[e,d];rfl
 have h:x.drop 7=b++qh (55-(7+ii b)) 0:=by rw[e,k,d];rfl
 have g:((b8 (ii b:Int)).toNat)=ii b:=by have:=oH (ii b:Int);omega
 unfold rV;rw[o];dsimp only;have p:(b8 (ii b:Int)).toNat<=48:=i4
 rw[f9 ⟨i0,by rw[f];exact p,by
  rw[f,g,<-List.drop_drop,h,List.drop_left];exact q7.2 λy j=>g9 (vC j)⟩]
 unfold afE;rw[m,n,l,f,h,LW i.1 i.2,g,vN];have:=oH c;have:=oH a;congr 2<;>omega
def pgN(m:aC)(i:Nat):Pg:=⟨m.seq,i,iB (gN m),((gN m).drop (48*i)).take 48,kg m.seq i (iB (gN m)) (((gN m).drop (48*i)).take 48)⟩
theorem MR(m:aC):bn m=(qz (iB (gN m))).map λi=>(pgN m i).cell:=rfl
theorem aec{m:aC}(a:bL m=eR):iB (gN m)<=9:=by
 have:=Go.Qw.afv a;unfold bn at this
 rwa [qx,List.length_range]at this
theorem Wk{m:aC}(a:bL m=eR){i:Nat}(b:i<iB (gN m)):rV (pgN m i).cell=dB (pgN m i):=by have d:=aec a;have c:=((fy m).1 ((cx m).1 a).1).1;exact Wj ⟨i4,i4⟩ ⟨i4,i4⟩ ⟨i4,i4⟩ i7
variable {p:Int×Int×Int} {seed:Int} {d:Row} {K H w n:Nat}
theorem Tm{n:Nat}{A:aL}(o:aY n A)(d:ca A=n){y:Nat->UInt8}(q:∀r∈A,bR (λj=>aN r j) y n=0):∀i,i<n->y i=0:=by
 intro i p;let Y:aL:=(qz n).map λc=>[y c]
 have l:aY 1 (qh A.length (aJ 1)):=λr d=>by rw[(ya.1 d).2];rfl
 have a:ii A=ii (qh A.length (aJ 1)):=i9
 have e:∀j,j<ii A->aB (qh A.length (aJ 1)) j=aJ 1:=λj g=>by rw[bz m4];simp
 have f:∀z:Nat->UInt8,(∀r∈A,bR (λj=>aN r j) z n=0)->fC n 1 A (qh A.length (aJ 1)) ((qz n).map λc=>[z c]):=λz t=>by
  have b:aY 1 ((qz n).map λc=>[z c]):=λr d=>by obtain⟨c,_,rfl⟩:=qu.1 d;rfl
  refine⟨i9,b,λj g=>?_⟩;rw[e j g];refine eO (n:=1) (iJ b i9 _ n (qm _)) i0 λk w=>?_;obtain rfl:k=0:=i4
  rw[gY b i9 _ 0 n (qm _),cB,<-t _ (mem_row g)];refine gd n (λ_ _=>rfl) λc v=>?_;rw[bz (by simpa using v)];simp[aN]
 have s:=(lO a o l d (f (λ_=>0) λr _=>dot_zero' r n)).1;have u:=(lO a o l d (f y q)).1;have h:aN (aB ((qz n).map λc=>[y c]) i) 0=aN (aB ((qz n).map λ_=>[(0:UInt8)]) i) 0:=congrArg (λm=>aN (aB m i) 0) (u.trans s.symm);rw[bz o7,bz o7]at h;simpa[aN]using h
where
 dot_zero' (r:Row):∀n,bR (λj=>aN r j) (λ_=>(0:UInt8)) n=0
  |0=>rfl
  |n+1=>by rw[bR,dot_zero' r n,Gf.mul_zero];rfl
theorem aed{b d:aw}(h:∀i∈b,i∈d):∀r∈dP p seed b,r∈dP p seed d:=λr a=>by
 unfold dP at*;cases hm:bM p
 ·rw[hm]at a;simp at a
 ·rw[hm,f9 rfl,qA]at a;rw[f9 i0,qA];rcases a with a|a
  ·exact .inl a
  ·obtain⟨i,c,rfl⟩:=qu.1 a;rw[qH]at c;exact .inr (qu.2 ⟨i,qH.2 ⟨h i c.1,c.2⟩,i0⟩)
theorem Zr(e:bM p=eR){a b:aw}(h:∀i∈a,i∈b)(g:gc p seed a=eR):gc p seed b=eR:=by
 have d:=(Fw e).1 g;refine(Fw e).2 ?_;have k:=lm (jx p seed b);by_cases c:ca (dP p seed b)<(bG p).toNat
 ·exfalso;obtain⟨y,⟨i,j,f⟩,l⟩:=kernel (jx p seed b) c;exact f (Tm (jx p seed a) d (λr d=>l r (aed h r d)) i j)
 ·omega
end Wl
namespace Go.Qw
open Go Go.Vc Go.Proofs Wl
theorem lH(a b:cW):nN a b=eR↔a.object=b.object/\a.block=b.block/\a.id=b.id:=by unfold nN;rw[decide_eq_true_eq]
theorem Uh{l:List cW}{i:Nat}(a:i<ii l)(b:oI l i=eR):l[i]∈oJ l:=by unfold oJ;exact qu.2 ⟨i,qH.2 ⟨qJ.2 a,b⟩,eE _ a⟩
theorem abG{l:List cW}{r:cW}(h:r∈l):∃c∈oJ l,nN c r=eR:=by
 have e:∀i (a:i<ii l),∃c∈oJ l,nN c l[i]=eR:=by
  intro i
  induction i with
  |zero=>intro a;exact⟨l[0],Uh a (by unfold oI;simp),(lH _ _).2 ⟨i0,i0,i0⟩⟩
  |succ i ih=>
   intro a;cases hk:oI l (i+1)with
   |true=>exact⟨_,Uh a hk,(lH _ _).2 ⟨i0,i0,i0⟩⟩
   |false=>
    obtain⟨c,f,d⟩:=ih i4;unfold oI at hk;rw[Bool.or_eq_false_iff,Bool.not_eq_false']at hk;have b:=hk.2;rw[Nat.add_sub_cancel,eE _ a,eE _ (show i<ii l by omega)]at b;rw[lH]at d b;exact⟨c,f,(lH _ _).2 ⟨by rw[d.1,b.1],by rw[d.2.1,b.2.1],by rw[d.2.2,b.2.2]⟩⟩
 obtain⟨i,a,rfl⟩:=qL h;exact e i a
theorem iQ{m:aC}{r:cW}:eN m r=eR↔jg r=eR/\r.p=m.p/\∃x∈m.aF,x.object=r.object/\r.block<(x.tries.length:Int)/\r.seed=ck r.object r.block (x.tries.getD r.block.toNat 0):=by unfold eN;rw[qC,qC,decide_eq_true_eq,wk];simp only[qC,decide_eq_true_eq]
theorem Rh{m:aC}(e:bL m=eR){x y:Wl.cz}(f:x∈m.aF)(d:y∈m.aF)(h:x.object=y.object):x=y:=by
 have b:=zu.1 ((cx m).1 e).2.2.2.2.2.2;obtain⟨i,c,rfl⟩:=qL f;obtain⟨j,a,rfl⟩:=qL d;rcases Nat.lt_trichotomy i j with hl|rfl|hl
 ·exact absurd h (b i j c a hl)
 ·rfl
 ·exact absurd h.symm (b j i a c hl)
def ik(m:aC)(C:Int->aV)(o b:Int):aV:=(splitB m.p (C o)).getD b.toNat []
def CP(m:aC)(C:Int->aV)(r:cW):Prop:=r.data=so m.p r.seed (ik m C r.object r.block) r.id
theorem abH{m:aC}{C:Int->aV}{r a:cW}(n:bL m=eR)(v:eN m r=eR)(o:eN m a=eR)(e:CP m C r)(f:CP m C a)(g:nN a r=eR):a=r:=by
 obtain⟨_,t,s,b,i,_,k⟩:=iQ.1 v;obtain⟨_,p,x2,d,u,_,l⟩:=iQ.1 o;rw[lH]at g;obtain⟨c,h,j⟩:=g;have w:s=x2:=Rh n b d (by rw[i,u,c]);subst w;have q:a.seed=r.seed:=by rw[k,l,c,h]
 unfold CP at e f;cases r;cases a;simp only at*;subst c h j q;rw[t,p,e,f]
structure dw (m:aC) (C:Int->aV) (c:aV):Prop where
 old:∀r,dT c=dB r->r.object<m.next
 tru:∀r,dT c=dB r->eN m r=eR->CP m C r
 page:∀g,rV c=dB g->g.seq<=m.seq/\(g.seq=m.seq->c∈bn m)
theorem mZ{m:aC}{C:Int->aV}{l:cI}(n:bL m=eR)(g:∀c∈l,dw m C c){c:aV}(h:c∈l){r:cW}(i:dT c=dB r)(f:eN m r=eR):r∈cM m l:=by have b:r∈(l.filterMap (jd m)).mergeSort pA:=List.mem_mergeSort.2 (List.mem_filterMap.2 ⟨c,h,by unfold jd;rw[i];dsimp only;rw[f9 f]⟩);obtain⟨k,j,p⟩:=abG b;obtain⟨o,e,d,a⟩:=sV (m:=m) (l:=l) (r:=k) j;have:=abH n f a ((g c h).tru r i f) ((g o e).tru k d a) p;rw[<-this];exact j
theorem iW{m:aC}{l:cI}{r:cW}(h:r∈cM m l):dn r∈l/\dT (dn r)=dB r/\eN m r=eR:=by obtain⟨c,b,a,d⟩:=sV h;rw[(UP a).1];exact⟨b,a,d⟩
theorem Gm{n:aC}(C:Int->aV){c:aV}(e:bL n=eR)(h:c∈bn n):dw n C c:=by
 have h0:=rC h;refine⟨λr a=>(by rw[h0]at a;cases a),λr a _=>(by rw[h0]at a;cases a),λg b=>?_⟩;rw[MR]at h;obtain⟨i,d,rfl⟩:=qu.1 h;rw[Wk e (qJ.1 d)]at b;injection b with b
 subst b;exact⟨xk _,λ_=>by rw[MR];exact qu.2 ⟨i,d,i0⟩⟩
theorem Gn{m:aC}{C:Int->aV}{l:cI}(a:bL m=eR)(b:∀c∈l,dw m C c):∀c∈bN m l,dw m C c:=λc d=>by
 rcases qA.1 d with h|h
 ·exact Gm C a h
 ·obtain⟨r,e,rfl⟩:=qu.1 h;exact b _ (iW e).1
theorem Gp{m:aC}{C:Int->aV}{d:bj}{N:Int}(e:bL m=eR)(b:∀c∈d.l,dw m C c):∀c∈(cK m d N).l,dw m C c:=λc a=>by
 unfold cK at a;split at a
 ·exact b c a
 ·exact Gn e b c a
theorem Kg{r:cW}(h:jg r=eR):rV (dn r)=eH:=by have a:=ol h;unfold rV dn;rw[f9 h,xG];dsimp only;rw[g0 (by rintro⟨h,_⟩;exact absurd h i5)]
theorem Wm{m n:aC}{C D:Int->aV}{o b:Int}(a:n.p=m.p)(h:D o=C o):ik n D o b=ik m C o b:=by unfold ik;rw[a,h]
theorem CP.congr{m n:aC}{C D:Int->aV}{r:cW}(a:n.p=m.p)(b:D r.object=C r.object)(h:CP m C r):CP n D r:=by unfold CP at h⊢;rw[Wm a b,a];exact h
theorem Wo{m n:aC}{r:cW}(c:n.p=m.p)(a:∀x∈n.aF,x∈m.aF)(h:eN n r=eR):eN m r=eR:=by obtain⟨b,e,x,d,h3⟩:=iQ.1 h;exact iQ.2 ⟨b,by rw[e,c],x,a x d,h3⟩
theorem dw.next{m n:aC}{C:Int->aV}{c:aV}(h:dw m C c)(d:n.p=m.p)(k:m.next<=n.next)(j:m.seq<n.seq)(a:∀x∈n.aF,x∈m.aF):dw n C c:=
 ⟨λr b=>by have:=h.old r b;omega,λr b i=>(h.tru r b (Wo d a i)).congr d i0,λg f=>by have:=(h.page g f).1;exact⟨i4,λe=>i4⟩⟩
def rf(C:Int->aV)(o:Int)(b:aV):Int->aV:=λk=>if k=o then b else C k
theorem dw.with{m:aC}{C:Int->aV}{e:Wl.cz}{b c:aV}(h:dw m C c)(o:e.object=m.next):dw (iC m e) (rf C m.next b) c:=by
 refine⟨λr a=>?_,λr a l=>?_,λg i=>?_⟩
 ·have:=h.old r a;show r.object<m.next+1;omega
 ·have k:=h.old r a;obtain⟨n,f,x,d,h3,j⟩:=iQ.1 l;rcases Ic.1 d with d|rfl
  ·refine(h.tru r a (iQ.2 ⟨n,f,x,d,h3,j⟩)).congr (m:=m) i0 ?_;unfold rf;rw[g0 i4]
  ·omega
 ·have:=(h.page g i).1;show g.seq<=m.seq+1/\(g.seq=m.seq+1->_)
  exact⟨i4,λe=>i4⟩
theorem afG{m:aC}{C:Int->aV}{e:Wl.cz}{b:aV}{seed:Int}{i id:Nat}(f:0<=seed/\seed<4294967296)(c:jg (mz m m.next i seed ((splitB m.p b).getD i []) id)=eR):
  dw (iC m e) (rf C m.next b) (dn (mz m m.next i seed ((splitB m.p b).getD i []) id)):=by
 have a:=xH c f;refine⟨λr h=>?_,λr h j=>?_,λg h=>?_⟩
 ·rw[a]at h;injection h with h;subst h
  show m.next<m.next+1;omega
 ·rw[a]at h;injection h with h;subst h
  have d:ik (iC m e) (rf C m.next b) m.next (i:Int)=(splitB m.p b).getD i []:=by unfold ik rf;rw[f9 i0,ql];rfl
  show so m.p seed ((splitB m.p b).getD i []) id=so (iC m e).p seed (ik (iC m e) (rf C m.next b) m.next (i:Int)) id;rw[d];rfl
 ·rw[Kg c]at h;cases h
structure fM (m:aC) (C:Int->aV) (ds:aE):Prop where
 may:bL m=eR
 len:ds.length=64
 cells:∀k d,aX ds k=dB d->∀c∈d.l,dw m C c
 ents:∀e∈m.aF,((C e.object).length:Int)=e.length/\dm m.p e.object (splitB m.p (C e.object)).length=dB e.tries
theorem fM.old{m:aC}{C:Int->aV}{ds:aE}(S:fM m C ds){e:Wl.cz}(a:e∈m.aF):e.object<m.next:=((hJ m e).1 (((cx m).1 S.may).2.2.2.2.1 e a)).2.1.2
theorem Ri{ds ds':aE}{f:Int->bj->bj}(h:∀k,aX ds' k=(aX ds k).map (f k)){k:Int}{d:bj}(a:aX ds' k=dB d):∃b,aX ds k=dB b/\d=f k b:=by
 rw[h]at a;cases h0:aX ds k with
 |none=>rw[h0]at a;cases a
 |some b=>rw[h0]at a;injection a with a;exact⟨b,i0,a.symm⟩
theorem Ui{n:aC}{C:Int->aV}{a:cI}{d:bj}(f:∀c∈d.l,dw n C c)(e:∀c∈a,dw n C c):∀c∈(eI a d).l,dw n C c:=λc b=>by
 rw[YF]at b;rcases qA.1 b with h|h
 ·exact f c h
 ·exact e c h
def Gq(m:aC)(ds:aE)(t:aw)(b:aV)(n:aC)(k:Int)(d:bj):bj:=
 if k∈aQ ds m.drives then eI ((lx m m.next t (splitB m.p b) (aQ ds m.drives) k (splitB m.p b).length).map dn++bn n) (cK m d (kE (bn n).length (dW m m.next t (splitB m.p b) (aQ ds m.drives) (splitB m.p b).length) k))else d
theorem aee{m:aC}{offs:Int}{w:Pow}{ds:aE}{C:Int->aV}{name:ByteArray}{b:aV}(A:w.calm)(S:fM m C ds):
  ((∃e,e≠0/\iy m offs w ds name b=(e,m,w,ds))/\((iy m offs w ds name b).1=eV m (fd w offs) ds name b.length∨(eV m (fd w offs) ds name b.length=0/\((iy m offs w ds name b).1=8/\dm m.p m.next (splitB m.p b).length=eH∨(iy m offs w ds name b).1=7/\∃t,dm m.p m.next (splitB m.p b).length=dB t/\dN m ds (aQ ds m.drives) (kE (bn (iC m ⟨name,m.next,b.length,t⟩)).length (dW m m.next t (splitB m.p b) (aQ ds m.drives) (splitB m.p b).length))=eS))))∨
  (eV m (fd w offs) ds name b.length=0/\∃t ds',dm m.p m.next (splitB m.p b).length=dB t/\iy m offs w ds name b=(0,iC m ⟨name,m.next,b.length,t⟩,w,ds')/\fM (iC m ⟨name,m.next,b.length,t⟩) (rf C m.next b) ds'/\
   ∀k,aX ds' k=(aX ds k).map (Gq m ds t b (iC m ⟨name,m.next,b.length,t⟩) k)):=by
 obtain⟨D,H⟩:=YG (offs:=offs) (name:=name) (b:=b) A S.len S.may;by_cases a:eV m (fd w offs) ds name b.length=0
 ·obtain⟨B,x⟩:=H a;cases ht:dm m.p m.next (splitB m.p b).length with
  |none=>rw[B ht];exact .inl ⟨⟨8,i5,i0⟩,.inr ⟨a,.inl ⟨i0,i0⟩⟩⟩
  |some t=>
   obtain⟨g,z,v⟩:=x t ht;cases hf:dN m ds (aQ ds m.drives) (kE (bn (iC m ⟨name,m.next,b.length,t⟩)).length (dW m m.next t (splitB m.p b) (aQ ds m.drives) (splitB m.p b).length))with
   |false=>rw[z hf];exact .inl ⟨⟨7,i5,i0⟩,.inr ⟨a,.inr ⟨i0,t,i0,hf⟩⟩⟩
   |true=>
    obtain⟨ds',u,G,s⟩:=v hf;have j:∀k,aX ds' k=(aX ds k).map (Gq m ds t b (iC m ⟨name,m.next,b.length,t⟩) k):=s;refine .inr ⟨a,t,ds',i0,u,⟨g,G,λk d y=>?_,λe l=>?_⟩,j⟩
    ·obtain⟨q,h0,rfl⟩:=Ri j y;unfold Gq;split
     ·refine Ui (λc f=>(Gp S.may (S.cells k q h0) c f).with i0) λc f=>?_;rcases qA.1 f with h|h
      ·obtain⟨r,o,rfl⟩:=qu.1 h;obtain⟨i,id,rfl,F,hid⟩:=VI o;obtain⟨I,J,z3,z4,z5⟩:=pj a;have n:=((fy m).1 ((cx m).1 S.may).1)
       have h8:=Ly n.2.2.1 λh=>z4 (.inl h);exact afG (ms _ _ _) (Ud S.may (by have:¬16777215<m.next:=λh=>z5 (.inr (.inl h));omega) h8 ht F hid)
      ·exact Gm _ g h
     ·exactλc f=>(S.cells k q h0 c f).with i0
    ·rcases Ic.1 l with l|rfl
     ·have E:=S.old l;have:rf C m.next b e.object=C e.object:=by unfold rf;rw[g0 i4]
      rw[this];exact S.ents e l
     ·have:rf C m.next b m.next=b:=by unfold rf;rw[f9 rfl]
      show((rf C m.next b m.next).length:Int)=(b.length:Int)/\dm m.p m.next (splitB m.p (rf C m.next b m.next)).length=dB t;rw[this];exact⟨i0,ht⟩
 ·rw[D a];exact .inl ⟨⟨_,a,i0⟩,.inl i0⟩
theorem Wq{m n:aC}{offs:Int}{w:Pow}{ds:aE}{C:Int->aV}(z:w.calm)(S:fM m C ds)(y:fd w offs=eS)(l:bL n=eR)(A:n.seq=m.seq+1)(i:n.p=m.p)(t:m.next<=n.next)(a:∀x∈n.aF,x∈m.aF):
  ((aQ ds n.drives=[]∨dN m ds (aQ ds n.drives) (λ_=>(ii (bn n):Int))=eS)/\dc m offs w ds n=(7,m,w,ds))∨
  ((aQ ds n.drives≠[]/\dN m ds (aQ ds n.drives) (λ_=>(ii (bn n):Int))=eR)/\∃ds',dc m offs w ds n=(0,n,w,ds')/\fM n C ds'/\
   ∀k,aX ds' k=(aX ds k).map λd=>if k∈aQ ds n.drives then eI (bn n) (cK m d (bn n).length)else d):=by
 obtain⟨B,E⟩:=Rg (m:=m) (n:=n) (offs:=offs) (w:=w) (ds:=ds) z S.len y l A;by_cases g:aQ ds n.drives=[]∨dN m ds (aQ ds n.drives) (λ_=>(ii (bn n):Int))=eS
 ·exact .inl ⟨g,B g⟩
 ·have s:aQ ds n.drives≠[]:=λh=>g (.inl h);have r:dN m ds (aQ ds n.drives) (λ_=>(ii (bn n):Int))=eR:=by
   cases h:dN m ds (aQ ds n.drives) (λ_=>(ii (bn n):Int))with
   |false=>exact absurd (.inr h) g
   |true=>rfl
  obtain⟨ds',v,D,o⟩:=E s r;refine .inr ⟨⟨s,r⟩,ds',v,⟨l,D,λk d j=>?_,λe u=>?_⟩,o⟩
  ·obtain⟨q,h0,rfl⟩:=Ri (f:=λk d=>if k∈aQ ds n.drives then eI (bn n) (cK m d (bn n).length)else d) o j;split
   ·exact Ui (λc b=>(Gp S.may (S.cells k q h0) c b).next i t i4 a) λc b=>Gm C l b
   ·exactλc b=>(S.cells k q h0 c b).next i t i4 a
  ·have:=S.ents e (a e u);rw[i];exact this
end Go.Qw
namespace Wl
open Go Go.Qw Go.Vc
noncomputable def Fy(m:aC)(ds:aE)(o:Int)(tries:aw)(k:Nat):aV×Int:=lR m.p (ck o k (tries.getD k 0)) (fI m ds (aQ ds m.drives) o k)
def BA(m:aC)(ds:aE)(o b:Int):aw:=(fI m ds (aQ ds m.drives) o b).map qK
end Wl
namespace Go.Qw
open Go Go.Vc Go.Proofs Wl
variable {m:aC} {C:Int->aV} {ds:aE} {offs:Int} {w:Pow}
theorem ta{o b k:Int}{x:Int×aV}(h:x∈eF m ds o b k):∃d r,aX ds k=dB d/\r∈cM m d.l/\r.object=o/\r.block=b/\x=(r.id,r.data):=by
 unfold eF at h;cases hd:aX ds k with
 |none=>rw[hd]at h;cases h
 |some d=>
  rw[hd]at h;unfold Bv at h;obtain⟨r,e,rfl⟩:=qu.1 h;obtain⟨c,a⟩:=qH.1 e;rw[qC,decide_eq_true_eq,decide_eq_true_eq]at a;exact⟨d,r,i0,c,a.1,a.2,i0⟩
theorem fM.entry(S:fM m C ds){e:Wl.cz}(a:e∈m.aF):gX m e=eR:=((cx m).1 S.may).2.2.2.2.1 e a
theorem fM.Rj(S:fM m C ds):bM m.p=eR:=((fy m).1 ((cx m).1 S.may).1).2.2.1
theorem fM.blocks(S:fM m C ds){e:Wl.cz}(a:e∈m.aF):(splitB m.p (C e.object)).length=e.tries.length:=(kC (S.ents e a).2).symm
theorem fM.ga(S:fM m C ds){e:Wl.cz}(a:e∈m.aF){k:Nat}(b:k<e.tries.length):∃K H w n,co m.p (ck e.object k (e.tries.getD k 0)) (ik m C e.object k) K H w n:=by have h:=Uc S.Rj (S.ents e a).2 (i:=k) (by rw[S.blocks a];exact b);unfold ik;rw[ql];exact h
theorem fM.sym(S:fM m C ds){e:Wl.cz}(o:e∈m.aF){k:Nat}(z:k<e.tries.length){s:Int}{x:Int×aV}(h:x∈eF m ds e.object k s):
  bW x.1=eR/\x.2=fR m.p.2.2.toNat (dC m.p (ck e.object k (e.tries.getD k 0)) (ik m C e.object k)) (dE (bG m.p).toNat (ck e.object k (e.tries.getD k 0)) x.1):=by
 obtain⟨d,r,q,u,f,g,rfl⟩:=ta h;obtain⟨v,w,i⟩:=iW u;obtain⟨t,A,y,l,n,_,j⟩:=iQ.1 i;have b:y=e:=Rh S.may l o (by rw[n,f]);subst b;have hid:=((jO r).1 t).2.2.1;have a:bW r.id=eR:=by unfold bW;simp;omega
 have c:=(S.cells s d q _ v).tru r w i;unfold CP at c;rw[f,g]at c;rw[f,g,ql]at j;refine⟨a,?_⟩;show r.data=_;rw[c,j];unfold so;rw[f9 a]
theorem Kh{α β:Type}{f:α->β}:∀{l:List (α×β)},(∀x∈l,x.2=f x.1)->l=(l.map qK).map λi=>(i,f i)
 |[],_=>rfl
 |x::l,h=>by
  have b:=h x qI;have c:=Kh (l:=l) λy a=>h y (qD _ a);rw[zK,zK,<-c,<-b]
theorem fM.syms(S:fM m C ds){e:Wl.cz}(f:e∈m.aF){k:Nat}(c:k<e.tries.length)(bQ:aw):
  fI m ds bQ e.object k=lS m.p (ck e.object k (e.tries.getD k 0)) (dC m.p (ck e.object k (e.tries.getD k 0)) (ik m C e.object k)) ((fI m ds bQ e.object k).map qK)/\∀i∈(fI m ds bQ e.object k).map qK,bW i=eR:=by
 have b:∀x∈fI m ds bQ e.object k,bW x.1=eR/\x.2=fR m.p.2.2.toNat (dC m.p (ck e.object k (e.tries.getD k 0)) (ik m C e.object k)) (dE (bG m.p).toNat (ck e.object k (e.tries.getD k 0)) x.1):=λx a=>by
  unfold fI at a;obtain⟨s,_,a⟩:=List.mem_flatMap.1 a;exact S.sym f c a
 refine⟨Kh λx a=>(b x a).2,λi d=>?_⟩;obtain⟨x,a,rfl⟩:=qu.1 d;exact(b x a).1
theorem fM.Fy(S:fM m C ds){e:Wl.cz}(d:e∈m.aF){k:Nat}(c:k<e.tries.length):
  Wl.Fy m ds e.object e.tries k=if gc m.p (ck e.object k (e.tries.getD k 0)) (BA m ds e.object k)=eR then(ik m C e.object k,0)else([],9):=by
 obtain⟨K,H,w,n,B⟩:=S.ga d c;obtain⟨f,b⟩:=S.syms d c (aQ ds m.drives);unfold Wl.Fy;rw[f];by_cases a:gc m.p (ck e.object k (e.tries.getD k 0)) (BA m ds e.object k)=eR
 ·rw[f9 a];exact B.dec b a
 ·rw[g0 a];refine abA B.may (B.Rc b) ?_;rw[Ik];exact eq_false_of_ne_true a
end Go.Qw
namespace Wl
open Go Go.Qw Go.Vc
end Wl
namespace Go.Qw
open Go Go.Vc Go.Proofs Wl
variable {B:aA} {h0 h:f8} {As:List HP} {a pw:eY} {offs:Int} {da:List bm} {w:Pow} {ds:aE} {m:aC}
end Go.Qw
namespace Wl
open Go Go.Qw Go.Vc
noncomputable def fe(m:aC)(live:aw)(ds:aE)(o:Int)(tries:aw)(i:Nat):Int×ir:=
 let seed:=ck o i (tries.getD i 0);let r:=lR m.p seed (fI m ds live o i)
 if r.2≠0 then(11,⟨o,i,seed,[],[],[]⟩)else if iN m.p seed r.1.length≠0 then(11,⟨o,i,seed,[],[],[]⟩)else(0,⟨o,i,seed,dC m.p seed r.1,cb m ds o i (aQ ds m.drives),[]⟩)
theorem Zs{p:Pm}{seed:Int}{l:Nat}(h:iN p seed l=0):bM p=eR/\gc p seed (fQ p)=eR/\(l:Int)=p.1*p.2.2:=by
 unfold iN at h;split at h
 ·rename_i a;rw[qC,decide_eq_true_eq]at a;split at h
  ·rename_i b;exact⟨a.1,b,a.2⟩
  ·cases h
 ·cases h
theorem CQ{m:aC}{ds:aE}{o b k:Int}(a:∀k d,aX ds k=dB d->ii d.l<=512):ii (eF m ds o b k)<=512:=by
 unfold eF;cases hd:aX ds k with
 |none=>exact zo _
 |some d=>exact zd (JP m o b d.l) (a k d hd)
theorem Zt{m:aC}{ds:aE}{o b:Int}{live:aw}(e:ii live<=64)(a:∀k d,aX ds k=dB d->ii d.l<=512):ii (fI m ds live o b)<=64*512:=by unfold fI;exact zd (Gi (c:=512) λj _=>CQ a) (Nat.mul_le_mul_right _ e)
theorem Zu{m:aC}{ds:aE}{o b k:Int}{x:Int×aV}(h:x∈eF m ds o b k):0<=x.1/\x.1<=65535:=by obtain⟨d,r,_,e,_,_,rfl⟩:=ta h;obtain⟨_,_,_,c⟩:=sV e;have a:=(iQ.1 c).1;unfold jg at a;rw[qC,qC,qC]at a;have:=a.1.2.2;unfold bW at this;rw[qC,decide_eq_true_eq,decide_eq_true_eq]at this;exact this
theorem Fz{m:aC}{ds:aE}{o b:Int}{live l:aw}(h:l∈cb m ds o b live):∃k∈live,l=(eF m ds o b k).map qK:=by unfold cb at h;obtain⟨k,a,rfl⟩:=qu.1 h;refine⟨k,a,?_⟩;unfold fI;rw[zf,List.flatMap_nil,qM]
theorem CR{m:aC}{live:aw}{ds:aE}{o:Int}{tries:aw}{i:Nat}(e:∀k d,aX ds k=dB d->ii d.l<=512)(y:ii (aQ ds m.drives)=ii live)(h:(fe m live ds o tries i).1=0):kG m live (fe m live ds o tries i).2/\(fe m live ds o tries i).2.got=[]:=by
 unfold fe at h⊢;dsimp only at h⊢;obtain⟨r,t⟩:∃r,r=lR m.p (ck o i (tries.getD i 0)) (fI m ds live o i):=⟨_,rfl⟩
 rw[<-t]at h⊢;by_cases j:r.2≠0
 ·rw[f9 j]at h;cases h
 rw[g0 j]at h⊢;by_cases g:iN m.p (ck o i (tries.getD i 0)) r.1.length≠0
 ·rw[f9 g]at h;cases h
 rw[g0 g]at h⊢;obtain⟨a,b,c⟩:=Zs m4;obtain⟨K,H,w,n,B⟩:=UV a b c;have u:m.p.2.2.toNat=w:=B.size;have A:(bG m.p).toNat=n:=by have:=B.k;have:=B.h;have:=B.n;rw[bG,f9 a];omega
 refine⟨⟨ms _ _ _,by rw[u];exact B.nE.2,by rw[A];exact B.nE.1,by show(cb _ _ _ _ _).length=_;unfold cb;rw[qx];exact y,λl f=>?_,?_,zo _,λs v=>by cases v⟩,i0⟩
 ·obtain⟨k,_,rfl⟩:=Fz f;rw[qx];have:=CQ (m:=m) (ds:=ds) (o:=o) (b:=i) (k:=k) e;omega
 ·refine zd (Rf (n:=65535) λl f x D=>?_) (by show(65535:Nat)<=2^20+0;decide);obtain⟨k,_,rfl⟩:=Fz f;obtain⟨z,q,rfl⟩:=qu.1 D;have:=Zu q;omega
end Wl
namespace Go.Qw
open Go Go.Vc Go.Proofs Wl
def uK(a:eY)(p:Pm)(seed:Int)(M:aL):HP:=HP.ex λm:Sl=>(al a 259 (AF p seed m)).sep (fN 71 m 1 aD M)
variable {B:aA} {h0 h:f8} {As:List HP} {a pw:eY} {offs:Int} {da:List bm} {w:Pow} {ds:aE} {m:aC}
theorem age{a:eY}{p:Pm}{seed:Int}{M:aL}:St B h0 (uK a p seed M::As) λh=>uA h a p seed M:=λBs h' e=>by
 have d:=e.cons Bs.length (A:=uK a p seed M) (by rw[qj (qm _),Nat.sub_self];rfl);obtain⟨q,c⟩:=d.rx;have b:=c.rO;exact⟨q,b.box 1 i0,b.DQ 0 i0⟩
theorem Wr{c:eY}(y:bX)(f:Sl)(live:aw)(t most k:Int)(x:dV)(e:Wl.cz)(i:Nat)(hm:bL m=eR)(hl:live.length<=64)(L:∀k∈live,∃d,aX ds k=dB d)(hi:i<e.tries.length)(bk:e.tries.length<=2^20)
  (hS:St B h0 As λh=>dH h y m/\Rd h f 1 ak live/\dQ jk h x e)
  (H:aa B h0 h (bu a pw da offs w ds m::al c 104 (cR a y f t most k)::As)):
  aq xD 112 #[xv (dB c),xy (bE x).toArray,xt xz i] h λv h'=>
   ((fe m live ds e.object e.tries i).1≠0->v=.tuple #[xv eH,xt xz (fe m live ds e.object e.tries i).1]/\aa B h0 h' (bu a pw da offs w ds m::al c 104 (cR a y f t most k)::As))/\
   ((fe m live ds e.object e.tries i).1=0->∃b cd:eY,v=.tuple #[xv (dB b),xt xz 0]/\aa B h0 h' (bu a pw da offs w ds m::al c 104 (cR a y f t most k)::pu b cd (fe m live ds e.object e.tries i).2::uK cd m.p (fe m live ds e.object e.tries i).2.seed (fe m live ds e.object e.tries i).2.M::As)):=by
 have hz:=kl hm;have ao:=(md H).2;have K:∀k d,aX ds k=dB d->d.l.length<=512:=λk d hd=>by have:=ao k d hd;omega
 obtain⟨seed,V⟩:∃seed,seed=ck e.object i (e.tries.getD i 0):=⟨_,rfl⟩
 obtain⟨r,hr⟩:∃r,r=lR m.p seed (fI m ds live e.object i):=⟨_,rfl⟩
 have eP:fe m live ds e.object e.tries i=(if r.2≠0 then(11,⟨e.object,i,seed,[],[],[]⟩)else if iN m.p seed r.1.length≠0 then(11,⟨e.object,i,seed,[],[],[]⟩)else(0,⟨e.object,i,seed,dC m.p seed r.1,cb m ds e.object i (aQ ds m.drives),[]⟩)):=by rw[hr,V];rfl
 refine uQ (dB c) x i ?_;refine H.boxed λj h1 Y=>?_;have Y:aa B h0 h1 (al j 94 (bE x)::bu a pw da offs w ds m::al c 104 (cR a y f t most k)::As):=Y.bv;obtain⟨hy,b0,hx⟩:=(hS.cons.cons.cons).here Y;have n:=Y.box 0 i0;obtain⟨⟨x1,x2,x3⟩,x4⟩:=id hx;have br:=x4.len;have no:∀{h':f8} {Cs:List HP},aa B h0 h' (al j 94 (bE x)::bu a pw da offs w ds m::al c 104 (cR a y f t most k)::As)->(fe m live ds e.object e.tries i).1=11->
   ((fe m live ds e.object e.tries i).1≠0->Value.tuple #[xv eH,xt xz 11]=.tuple #[xv eH,xt xz (fe m live ds e.object e.tries i).1]/\aa B h0 h' (bu a pw da offs w ds m::al c 104 (cR a y f t most k)::As))/\
   ((fe m live ds e.object e.tries i).1=0->∃b cd:eY,Value.tuple #[xv eH,xt xz 11]=.tuple #[xv (dB b),xt xz 0]/\aa B h0 h' (bu a pw da offs w ds m::al c 104 (cR a y f t most k)::pu b cd (fe m live ds e.object e.tries i).2::uK cd m.p (fe m live ds e.object e.tries i).2.seed (fe m live ds e.object e.tries i).2.M::As)):=λ{h' Cs} H' he=>by
  rw[he];exact⟨λ_=>⟨i0,H'.rest⟩,λh=>absurd h i5⟩
 have N:∀{h':f8},dH h' y m->cw h' c 104 (cR a y f t most k)->aj h' ((c.add 1).add 2) 0 [xt xz m.p.1,xt xz m.p.2.1,xt xz m.p.2.2]:=λ{h'} hy hc=>by
  have a6:y.2.2.1=m.p.1:=congrArg (·.1) hy.p;have ay:y.2.2.2.1=m.p.2.1:=congrArg (·.2.1) hy.p;have ab:y.2.2.2.2.1=m.p.2.2:=congrArg (·.2.2) hy.p;rw[addr_add,<-a6,<-ay,<-ab];exact hc.cells 3 _ i0
 obtain⟨g,s⟩:∃g:ir,g=⟨e.object,i,seed,[],[],[]⟩:=⟨_,rfl⟩
 refine bT (λ(z:bm) h'=>∃b:eY,z=dB b/\aa B h0 h' (al b 176 (gr g eH ⟨eH,0,0⟩ ⟨eH,0,0⟩)::al j 94 (bE x)::bu a pw da offs w ds m::al c 104 (cR a y f t most k)::As)) ?_ ?_
 ·refine⟨x.2.1,n.cell i0,x.2.1,n.cell i0,x.2.2.2,n.cell i0,?_⟩;refine x4.bD i i0 hi e.tries[i] i0 ?_;refine(pc x.2.1 i e.tries[i] h1).mono ?_;rintro _ _ ⟨rfl,rfl⟩;refine⟨_,i0,⟨n.cell i0,n.cell i0,trivial⟩,?_⟩;refine Y.boxed λa8 h3 S=>?_;have S:=S.bv;refine⟨⟨(S.box 1 i0).cell i0,(S.box 1 i0).cell i0,trivial⟩,a8,i0,?_⟩;have es:ck x.2.1 i e.tries[i]=seed:=by rw[V,x2,eE 0 hi]
  rw[es,x2]at S;rw[s];exact S
 rintro _ h4 ⟨b,rfl,T⟩;have ad:=T.box 0 i0;have u:=T.box 3 i0;have a5:=T.box 1 i0;obtain⟨Z,X,bd⟩:=(hS.cons.cons.cons.cons).here T;have P:g.seed=seed:=by rw[s]
 have bs:g.o=e.object:=by rw[s]
 refine bT (λ(z:Sl×Int) h'=>z.2=r.2/\aa B h0 h' (ae 5 z.1 1 aD r.1::al b 176 (gr g eH ⟨eH,0,0⟩ ⟨eH,0,0⟩)::al j 94 (bE x)::bu a pw da offs w ds m::al c 104 (cR a y f t most k)::As)) ?_ ?_
 ·refine⟨c,i0,m.p,N Z u,b,i0,seed,by rw[<-P];exact ad.cell i0,c,i0,dB a,u.cell0 i0,c,i0,f,u.cell i0,c,i0,y,u.cells 1 _ i0,x.2.1,a5.cell i0,?_⟩;rw[x2];refine(Tk y f live e.object i Z hz X i4 L (T.aT 3 [2])).mono ?_;rintro _ h5 ⟨D,ss,rfl,R5⟩;have W:=T.up R5.ag;have O:Fix jq 2 piv h5 (λb=>b<h5.size) D ss (fI m ds live e.object i):=R5.at 0 i0;have ar:dQ Ke h5 D (fI m ds live e.object i):=⟨ss,O.1,O.2.1,O.2.2⟩
  have bb:=Zt (m:=m) (o:=e.object) (b:=i) hl K;obtain⟨ax,_,_⟩:=(hS.cons.cons.cons.cons).here W;have q5:=N ax (W.box 3 i0);refine⟨D,i0,⟨(W.box 3 i0).cell0 i0,by rw[<-P];exact(W.box 0 i0).cell i0,q5.1,q5.2.1,q5.2.2.1,trivial⟩,?_⟩;refine(Wf m.p seed D _ h5 ar i4).mono ?_;rintro _ h6 ⟨a3,rfl,R6⟩;rw[<-hr]at R6⊢;have H6:=W.cj R6;refine⟨(a3,r.2),i0,⟨(H6.box 4 i0).cell0 i0,trivial⟩,i0,?_⟩;exact H6
 rintro⟨z,_⟩ h7 ⟨rfl,G⟩;dsimp only at G⊢;refine ci (λe1=>?_) λe1=>?_
 ·exact no (Cs:=[]) G.rest.rest (by rw[eP,f9 e1])
 have a4:=G.own 0 i0;refine bT (λ(_:Unit) h'=>iN m.p seed r.1.length=0/\∃cd:eY,aa B h0 h' (al b 176 (gr g (dB cd) ⟨eH,0,0⟩ ⟨eH,0,0⟩)::uK cd m.p seed (dC m.p seed r.1)::al j 94 (bE x)::bu a pw da offs w ds m::al c 104 (cR a y f t most k)::As)) ?_ ?_
 ·refine bT (λ(z:Int) h'=>(z≠0->iN m.p seed r.1.length≠0/\aa B h0 h' (al j 94 (bE x)::bu a pw da offs w ds m::al c 104 (cR a y f t most k)::As))/\(z=0->iN m.p seed r.1.length=0/\∃cd:eY,aa B h0 h' (al b 176 (gr g (dB cd) ⟨eH,0,0⟩ ⟨eH,0,0⟩)::uK cd m.p seed (dC m.p seed r.1)::al j 94 (bE x)::bu a pw da offs w ds m::al c 104 (cR a y f t most k)::As))) ?_ ?_
  ·obtain⟨am,_,_⟩:=(hS.cons.cons.cons.cons.cons).here G;refine⟨c,i0,m.p,N am (G.box 4 i0),b,i0,seed,by rw[<-P];exact(G.box 1 i0).cell i0,?_⟩;refine(Qq m.p seed z r.1 h7 (G.seq 0 i0 λ_=>rfl) a4.cap).mono ?_;rintro _ h8 ⟨n1,n2⟩;by_cases J:iN m.p seed r.1.length=0
   ·obtain⟨cd,mm,rfl,R8⟩:=n1 J;have H8:=(G.comp R8).front;refine⟨(dB cd,0),i0,trivial,b,i0,?_⟩;refine H8.storeAt an 3 i0 i0 i0 i0 i0 (show 3<6 by decide) λU I=>⟨trivial,?_⟩
    have I:aa B h0 U (fN 71 mm 1 aD (dC m.p seed r.1)::al cd 259 (AF m.p seed mm)::ae 5 z 1 aD r.1::al b 176 (gr g (dB cd) ⟨eH,0,0⟩ ⟨eH,0,0⟩)::al j 94 (bE x)::bu a pw da offs w ds m::al c 104 (cR a y f t most k)::As):=I;have a9:aa B h0 U (uK cd m.p seed (dC m.p seed r.1)::ae 5 z 1 aD r.1::al b 176 (gr g (dB cd) ⟨eH,0,0⟩ ⟨eH,0,0⟩)::al j 94 (bE x)::bu a pw da offs w ds m::al c 104 (cR a y f t most k)::As):=
     aa.tQ (F:=λq:Sl=>(al cd 259 (AF m.p seed q)).sep (fN 71 q 1 aD (dC m.p seed r.1))) mm I.lJ
    exact⟨λh=>absurd i0 h,λ_=>⟨J,cd,a9.aT 3 [2,0]⟩⟩
   ·obtain⟨rfl,R8⟩:=n2 J;have H8:=G.up R8.ag;refine⟨(eH,iN m.p seed r.1.length),i0,trivial,b,i0,?_⟩;refine H8.storeAt an 1 i0 i0 i0 i0 i0 (show 3<6 by decide) λU I=>⟨trivial,?_⟩
    have I:aa B h0 U (ae 5 z 1 aD r.1::al b 176 (gr g eH ⟨eH,0,0⟩ ⟨eH,0,0⟩)::al j 94 (bE x)::bu a pw da offs w ds m::al c 104 (cR a y f t most k)::As):=I;exact⟨λ_=>⟨J,I.rest.rest⟩,λh=>absurd h J⟩
  ·rintro z U ⟨n1,n2⟩;refine ci (λe2=>?_) λe2=>n2 e2;obtain⟨J,I⟩:=n1 e2;exact no (Cs:=[]) I (by rw[eP,g0 λh=>h e1,f9 J])
 rintro _ bl ⟨J,cd,E⟩;have ah:fe m live ds e.object e.tries i=(0,⟨e.object,i,seed,dC m.p seed r.1,cb m ds e.object i (aQ ds m.drives),[]⟩):=by rw[eP,g0 λh=>h e1,g0 λh=>h J]
 rw[ah];dsimp only;refine bT (λ(_:Unit) h'=>aa B h0 h' (bu a pw da offs w ds m::al c 104 (cR a y f t most k)::pu b cd ⟨e.object,i,seed,dC m.p seed r.1,cb m ds e.object i (aQ ds m.drives),[]⟩::uK cd m.p seed (dC m.p seed r.1)::As)) ?_ ?_
 ·refine⟨c,i0,dB a,(E.box 4 i0).cell0 i0,x.2.1,(E.box 2 i0).cell i0,?_⟩;rw[x2];refine(Fj e.object i hm (E.aT 4 [3])).mono ?_;rintro _ bq ⟨R,rfl,ap⟩;have a2:=E.cj ap;refine⟨R,i0,trivial,b,i0,?_⟩;refine a2.storeAt an 1 i0 i0 i0 i0 i0 (show 4<6 by decide) λa0 A=>⟨trivial,?_⟩
  have A:aa B h0 a0 (dg 22 R 3 1 ak (cb m ds e.object i (aQ ds m.drives))::al b 176 (gr ⟨e.object,i,seed,dC m.p seed r.1,cb m ds e.object i (aQ ds m.drives),[]⟩ (dB cd) R ⟨eH,0,0⟩)::uK cd m.p seed (dC m.p seed r.1)::al j 94 (bE x)::bu a pw da offs w ds m::al c 104 (cR a y f t most k)::As):=by rw[s]at A;exact A
  have Q:=(A.nil 3 1 ak).bv;have a7:=uJ (x:=⟨e.object,i,seed,dC m.p seed r.1,cb m ds e.object i (aQ ds m.drives),[]⟩) Q;exact a7.aT 5 [3,4,0,1]
 ·rintro _ b1 Q;exact⟨λh=>absurd i0 h,λ_=>⟨b,cd,i0,Q⟩⟩
end Go.Qw
namespace Wl
open Go Go.Qw Go.Vc
theorem Tn(w:Pow)(d:bj)(b:aV):(d.append w b).2.2.lost=d.lost:=by unfold bj.append;(repeat' split)<;>rfl
theorem FA(w:Pow)(d:bj)(l:cI):(d.rewrite w l).2.2.lost=d.lost:=by unfold bj.rewrite;(repeat' split)<;>rfl
theorem Zv(w:Pow)(d:bj):(d.sync w).2.2.lost=d.lost:=by unfold bj.sync;(repeat' split)<;>rfl
theorem Ki(m:aC)(w:Pow)(d:bj)(n:Int):(gj m w d n).2.2.lost=d.lost:=by
 unfold gj;split
 ·rfl
 ·split
  ·rfl
  ·split
   ·rfl
   ·exact FA _ _ _
structure iE (ds ds':aE):Prop where
 len:ii ds'=ii ds
 at_:∀k,(aX ds' k).map bj.lost=(aX ds k).map bj.lost
theorem iE.refl(ds:aE):iE ds ds:=⟨i0,λ_=>rfl⟩
theorem iE.trans{a b c:aE}(d:iE a b)(e:iE b c):iE a c:=⟨e.len.trans d.len,λk=>(e.at_ k).trans (d.at_ k)⟩
theorem iE.set{ds:aE}{k:Int}{d e:bj}(a:ii ds=64)(b:aX ds k=dB d)(c:e.lost=d.lost):iE ds (bK ds k e):=⟨uG _ _ _,λs=>by
 rw[gq a b];split
 ·rename_i h;subst h;rw[b];simp[c]
 ·rfl⟩
theorem iE.live{ds ds':aE}(h:iE ds ds')(l:aw):aQ ds' l=aQ ds l:=by unfold aQ;refine List.filter_congr λx _=>?_;unfold isLive;have:=h.at_ x;cases h1:aX ds' x<;>cases h2:aX ds x<;>rw[h1,h2]at this<;>first|rfl|cases this|(injection this with this;simp only[this])
theorem To{m:aC}{c:aV}{w:Pow}{ds:aE}{s:Int}{d:bj}(a:ii ds=64)(b:aX ds s=dB d):iE ds (iG m c w ds s d).2.2:=by
 unfold iG;dsimp only;split
 ·exact .set a b (Ki _ _ _ _)
 ·rw[pr];exact .set a b ((Tn _ _ _).trans (Ki _ _ _ _))
theorem CS{m:aC}{live set order:aw}{c:aV}{id:Nat}{w:Pow}{ds:aE}(a:ii ds=64):∀{l:List Nat},iE ds (gy m live set order c id w ds l).1.2.2
 |[]=>.refl _
 |i::l=>by
  unfold gy;dsimp only;cases hd:aX ds (fZ order ((id:Int)+i))with
  |none=>exact CS a
  |some d=>
   dsimp only;split
   ·exact CS a
   ·exact To a hd
theorem Zw{m:aC}{live set:aw}{w:Pow}{ds:aE}{x:ir}(a:ii ds=64):iE ds (di m live set w ds x).2.2.1:=CS a
theorem Kj{m:aC}{live:aw}{t most:Int}:∀{f:Nat} {w:Pow} {ds:aE} {x:ir},ii ds=64->iE ds (cX m live t most f w ds x).2.2.1
 |0,_,_,_,_=>.refl _
 |f+1,w,ds,x,h64=>by
  unfold cX;dsimp only;split
  ·exact .refl _
  ·split
   ·exact .refl _
   ·split
    ·exact .refl _
    ·have a:=Zw (m:=m) (live:=live) (set:=(ig m.p x.seed x.W t).1) (w:=w) (x:=x) h64;split
     ·exact a
     ·exact a.trans (Kj (a.len.trans h64))
theorem FB{m:aC}{live:aw}{t most:Int}(i:most<=64):∀{f:Nat} {w:Pow} {ds:aE} {x:ir},kG m live x->kG m live (cX m live t most f w ds x).2.2.2/\(cX m live t most f w ds x).2.2.2.seed=x.seed/\(cX m live t most f w ds x).2.2.2.M=x.M
 |0,_,_,_,F=>⟨F,i0,i0⟩
 |f+1,w,ds,x,F=>by
  unfold cX;dsimp only;split
  ·exact⟨F,i0,i0⟩
  ·split
   ·exact⟨F,i0,i0⟩
   ·split
    ·exact⟨F,i0,i0⟩
    ·rename_i k;obtain⟨g,j,h3⟩:=CO (set:=(ig m.p x.seed x.W t).1) (w:=w) (ds:=ds) F i4;have d:(di m live (ig m.p x.seed x.W t).1 w ds x).2.2.2.seed=x.seed/\(di m live (ig m.p x.seed x.W t).1 w ds x).2.2.2.M=x.M:=by
      by_cases h:(di m live (ig m.p x.seed x.W t).1 w ds x).1=0
      ·obtain⟨s,_,e⟩:=j h;rw[e];exact⟨i0,i0⟩
      ·rw[h3 h];exact⟨i0,i0⟩
     split
     ·exact⟨g,d⟩
     ·obtain⟨a,b,c⟩:=FB i (f:=f) (w:=(di m live (ig m.p x.seed x.W t).1 w ds x).2.1) (ds:=(di m live (ig m.p x.seed x.W t).1 w ds x).2.2.1) g;exact⟨a,b.trans d.1,c.trans d.2⟩
theorem Kk:∀{l:aw} {w:Pow} {ds:aE},ii ds=64->iE ds (fb l w ds).2.2
 |[],_,_,_=>.refl _
 |x::l,w,ds,h64=>by
  have a:iE ds (gH w ds x).2.2:=by
   unfold gH;cases hd:aX ds x with
   |none=>exact .refl _
   |some d=>exact .set h64 hd (Zv _ _)
  rw[sF];split
  ·exact a.trans (Kk (a.len.trans h64))
  ·exact a
theorem td{m:aC}:∀{l:aw} {w:Pow} {ds:aE},ii ds=64->iE ds (cS m l w ds).2.2
 |[],_,_,_=>.refl _
 |k::l,w,ds,h64=>by
  unfold cS;cases hd:aX ds k with
  |none=>exact td h64
  |some d=>
   dsimp only;split
   ·exact td h64
   ·have a:iE ds (bK ds k (d.rewrite w (bN m d.l)).2.2):=.set h64 hd (FA _ _ _);split
    ·exact a.trans (td (a.len.trans h64))
    ·exact a
noncomputable def de(m:aC)(live:aw)(t most:Int)(w:Pow)(ds:aE)(e:cz)(i:Nat):Int×Pow×aE×Nat:=
 let p:=fe m live ds e.object e.tries i
 if p.1≠0 then(p.1,w,ds,0)else
  let q:=cX m live t most 65 w ds p.2
  if q.1=14 then(14,q.2.1,q.2.2.1,q.2.2.2.got.length)else
   let z:=fb (cL q.2.2.2.got) q.2.1 q.2.2.1
   (if z.1≠0 then z.1 else q.1,z.2.1,z.2.2,q.2.2.2.got.length)
theorem Tp{m:aC}{live:aw}{t most:Int}{w:Pow}{ds:aE}{e:cz}{i:Nat}(a:ds.length=64):iE ds (de m live t most w ds e i).2.2.1:=by
 unfold de;dsimp only;split
 ·exact .refl _
 ·have b:=Kj (m:=m) (live:=live) (t:=t) (most:=most) (f:=65) (w:=w) (x:=(fe m live ds e.object e.tries i).2) a;split
  ·exact b
  ·exact b.trans (Kk (b.len.trans a))
theorem Ws{m:aC}{live:aw}{t most:Int}{w:Pow}{ds:aE}{e:cz}{i:Nat}(b:most<=64)(a:∀k d,aX ds k=dB d->ii d.l<=512)(c:ii (aQ ds m.drives)=ii live):(de m live t most w ds e i).2.2.2<=64:=by
 unfold de;dsimp only;split
 ·exact zo _
 ·rename_i h;have F:=(CR a c j5).1;have:=(FB (t:=t) (most:=most) b (f:=65) (w:=w) (ds:=ds) F).1.gl;split<;>exact this
noncomputable def eW(m:aC)(live:aw)(t most:Int)(e:cz):List Nat->Pow->aE->Nat->Int×Pow×aE×Nat
 |[],w,ds,k=>(0,w,ds,k)
 |i::l,w,ds,k=>
  let q:=de m live t most w ds e i
  if q.1≠0 then(q.1,q.2.1,q.2.2.1,k+q.2.2.2)else eW m live t most e l q.2.1 q.2.2.1 (k+q.2.2.2)
noncomputable def il(m:aC)(live:aw)(t most:Int):List cz->Pow->aE->Nat->Int×Pow×aE×Nat
 |[],w,ds,k=>(0,w,ds,k)
 |e::l,w,ds,k=>
  let q:=eW m live t most e (qz e.tries.length) w ds k
  if q.1≠0 then q else il m live t most l q.2.1 q.2.2.1 q.2.2.2
noncomputable def eZ(m:aC)(offs:Int)(w:Pow)(ds:aE)(t most:Int):Nat×Int×Pow×aE:=
 if fd w offs then(0,14,w,ds)else if t<0∨t>=(ii (aQ ds m.drives):Int)∨most<0∨most>64 then(0,1,w,ds)else if gI (ii (aQ ds m.drives):Int) t>4096 then(0,13,w,ds)else
 let c:=cS m (aQ ds m.drives) w ds
 if c.1≠0 then(0,c.1,c.2.1,c.2.2)else
  let q:=il m (aQ ds m.drives) t most m.aF c.2.1 c.2.2 0
  (q.2.2.2,q.1,q.2.1,q.2.2.1)
end Wl
namespace Go.Qw
open Go Go.Vc Go.Proofs Wl
variable {B:aA} {h0 h:f8} {As:List HP} {a pw:eY} {offs:Int} {da:List bm} {w:Pow} {ds:aE} {m:aC}
theorem Tq{c:eY}(y:bX)(u:Sl)(live:aw)(t most:Int)(k:Nat)(x:dV)(e:Wl.cz)(i:Nat)(I:bL m=eR)(r:live=aQ ds m.drives)(Z:k<=2^30)(j:0<=most/\most<=64)(hi:i<e.tries.length)(Q:e.tries.length<=2^20)
  (hS:St B h0 As λh=>dH h y m/\Rd h u 1 ak live/\dQ jk h x e)
  (H:aa B h0 h (bu a pw da offs w ds m::al c 104 (cR a y u t most k)::As)):
  aq xD 55 #[xv (dB c),xy (bE x).toArray,xt xz i] h λv h'=>v=xt xz (de m live t most w ds e i).1/\
   aa B h0 h' (bu a pw da offs (de m live t most w ds e i).2.1 (de m live t most w ds e i).2.2.1 m::al c 104 (cR a y u t most ((k+(de m live t most w ds e i).2.2.2:Nat):Int))::As):=by
 refine um (dB c) x i ?_;have hp:bM m.p=eR:=((fy m).1 ((cx m).1 I).1).2.2.1;have S:=jy I;have hl:live.length<=64:=by rw[r];exact zd (qT _ _) S
 have n:∀k∈live,∃d,aX ds k=dB d:=λk Z=>by obtain⟨_,d,U,_⟩:=jh (show k∈aQ ds m.drives by rw[<-r];exact Z);exact⟨d,U⟩
 have W:=(md H).2;have ad:=(md H).1;have z:∀k d,aX ds k=dB d->d.l.length<=512:=λk d U=>by have:=W k d U;omega
 obtain⟨p,g⟩:∃p,p=fe m live ds e.object e.tries i:=⟨_,rfl⟩
 refine H.boxed λX h1 K=>?_;have K:aa B h0 h1 (bu a pw da offs w ds m::al c 104 (cR a y u t most k)::al X 94 (bE x)::As):=K.bv.aT 3 [1,2,0];refine⟨x,(K.box 2 i0).aP _ i0,(Wr y u live t most k x e i I hl n hi Q hS.cons K).mono ?_⟩;rw[<-g];rintro _ h2 ⟨n1,n2⟩;by_cases E:p.1=0
 rotate_left
 ·obtain⟨rfl,P⟩:=n1 E;have J:de m live t most w ds e i=(p.1,w,ds,0):=by unfold de;dsimp only;rw[<-g,f9 E]
  rw[J];exact⟨(eH,p.1),i0,ci (λ_=>⟨i0,P.aT 3 [0,1]⟩) λh=>absurd h E⟩
 obtain⟨b,cd,rfl,P⟩:=n2 E;have F:=CR (m:=m) (live:=live) (ds:=ds) (o:=e.object) (tries:=e.tries) (i:=i) z q0 (by rw[<-g];exact E);rw[<-g]at F;obtain⟨q,G⟩:∃q,q=cX m live t most 65 w ds p.2:=⟨_,rfl⟩
 have J:de m live t most w ds e i=(if q.1=14 then(14,q.2.1,q.2.2.1,q.2.2.2.got.length)else
   (if(fb (cL q.2.2.2.got) q.2.1 q.2.2.1).1≠0 then(fb (cL q.2.2.2.got) q.2.1 q.2.2.1).1 else q.1,(fb (cL q.2.2.2.got) q.2.1 q.2.2.1).2.1,(fb (cL q.2.2.2.got) q.2.1 q.2.2.1).2.2,q.2.2.2.got.length)):=by
  unfold de;dsimp only;rw[<-g,g0 λh=>h E,<-G]
 refine⟨(dB b,0),i0,ci (λh=>absurd i0 h) λ_=>?_⟩;have O:St B h0 (uK cd m.p p.2.seed p.2.M::al X 94 (bE x)::As) λh=>dH h y m/\Rd h u 1 ak live/\uA h cd m.p p.2.seed p.2.M:=λBs h' H'=>by
  obtain⟨z1,z2,_⟩:=hS.cons.cons Bs h' H';exact⟨z1,z2,age Bs h' H'⟩
 refine(Wi y u live t most k p.2 I hp hl n i4 F.1 F.2 j O P).mono ?_;rw[<-G];rintro _ h3 ⟨rfl,H3⟩;refine⟨_,i0,cy (λL=>?_) λL=>?_⟩
 ·rw[J,f9 L];exact⟨by rw[L],H3.aT 5 [0,1]⟩
 rw[J,g0 L];have V:=(FB (m:=m) (live:=live) (t:=t) (most:=most) j.2 (f:=65) (w:=w) (ds:=ds) F.1).1;rw[<-G]at V;obtain⟨wS,gS,D⟩:=Gl (H3.aT 3 [2,0,1]);have ab:=D.box 4 i0;have D:aa B h0 h3 (bu a pw da offs q.2.1 q.2.2.1 m::al c 104 (cR a y u t most ((k:Int)+q.2.2.2.got.length))::ae 3 gS 1 ak q.2.2.2.got::al b 176 (gr q.2.2.2 (dB cd) wS gS)::uK cd m.p p.2.seed p.2.M::al X 94 (bE x)::As):=D.aT 5 [3,4,0,2];have T:∀s∈q.2.2.2.got,0<=s/\s<64:=λs N=>by
  have N:=V.gi s N;rw[r]at N;exact kL I s (jh N).1
 refine⟨c,i0,dB a,(D.box 1 i0).cell0 i0,b,i0,gS,(D.box 3 i0).cell i0,?_⟩;refine(abD gS q.2.2.2.got (St.dS (A:=ae 3 gS 1 ak q.2.2.2.got) 1 i0 λh' G=>G.1.seq (λ_=>rfl) G.2) (by have:=V.gl;omega) T D).mono ?_;rintro _ h5 ⟨rfl,R⟩;refine⟨_,i0,⟨(R.box 1 i0).cell0 i0,trivial⟩,ci (λY=>?_) λY=>?_⟩
 ·rw[f9 Y];exact⟨i0,R.aT 6 [0,1]⟩
 ·rw[g0 λh=>h Y];exact⟨i0,R.aT 6 [0,1]⟩
def FC(y:bX)(m:aC)(i:Nat)(e:Wl.cz)(x:dV):HP:=
 ⟨λh q=>(bS y m).p h q/\jk.p h q x e/\∃d,Vc.Seq h q y.2.2.2.2.2.2.2 4 bE d/\d[i]?=dB x,
  λa f=>⟨(bS y m).loc a.1 f,jk.loc a.2.1 f,by obtain⟨d,b,c⟩:=a.2.2;exact⟨d,b.ag f,c⟩⟩,
  λa g=>⟨(bS y m).mono a.1 g,jk.mono a.2.1 g,by obtain⟨d,b,c⟩:=a.2.2;exact⟨d,b.mono g,c⟩⟩⟩
theorem afH{y:bX}{i:Nat}(e:i<ii m.aF)(H:aa B h0 h (bS y m::As)):∃x,aa B h0 h (FC y m i m.aF[i] x::As):=
 aa.rx (F:=λx=>FC y m i m.aF[i] x) (H.gb 0 i0 λq b=>by
  have a:rD h q y m:=b;obtain⟨c,f,g,d⟩:=bH.jl a.aF;exact⟨c[i]'(by omega),b,d i i4 e,c,f,qd i4⟩)
theorem agf{y:bX}{i:Nat}{e:Wl.cz}{x:dV}(H:aa B h0 h (FC y m i e x::As)):aa B h0 h (bS y m::As):=H.gb 0 i0 λq a=>a.1
theorem Wt(t most:Int)(R:bL m=eR)(ht:-(2^62)<=t/\t<=2^62)(H:aa B h0 h (bu a pw da offs w ds m::As)):
  aq xD 13 #[xv (dB a),xt xz t,xt xz most] h λv h'=>v=.tuple #[xt xz ((eZ m offs w ds t most).1:Nat),xt xz (eZ m offs w ds t most).2.1]/\aa B h0 h' (bu a pw da offs (eZ m offs w ds t most).2.2.1 (eZ m offs w ds t most).2.2.2 m::As):=by
 refine xR (dB a) t most ?_;have a0:=jy R;have ah:=(md H).1;obtain⟨live,f⟩:∃live,live=aQ ds m.drives:=⟨_,rfl⟩
 have a7:live.length<=64:=by rw[f];exact zd (qT _ _) a0
 obtain⟨G,l⟩:∃G,G=eZ m offs w ds t most:=⟨_,rfl⟩
 rw[<-l];unfold eZ at l;rw[<-f]at l;refine bc (bA (λe=>j0) λ_=>(QL H).mono ?_);rintro _ h1 ⟨rfl,rfl⟩;refine⟨_,i0,bA (λe=>?_) λe1=>?_⟩
 ·rw[f9 e]at l;rw[l];exact⟨i0,H⟩
 rw[g0 n7]at l;refine(Ie R H).mono ?_;rintro _ h2 ⟨y,rfl,R2⟩;have H2:=H.cj R2;refine⟨y,i0,(CL R (H2.aT 2 [1,0])).mono ?_⟩;rintro _ h3 ⟨c,rfl,R3⟩;rw[<-f]at R3;have H3:=H2.cj R3;refine⟨c,i0,H3.boxed λa5 h5 M=>?_⟩;have M:aa B h0 h5 (bu a pw da offs w ds m::al a5 104 (cR a y c t most 0)::ae 3 c 1 ak live::bS y m::As):=(M.bv).aT 4 [3,0,1,2];have ab:=(M.own 2 i0).len;have W:=M.box 1 i0;refine bc (bT (λ(b:Bool) h'=>b=decide (t<0∨t>=(live.length:Int)∨most<0∨most>64)/\h'=h5) ?_ ?_)
 ·refine ac (λe=>⟨by rw[g9 (.inl e)],i0⟩) λea=>⟨a5,i0,c,W.cell i0,ac (λe=>⟨by rw[g9 (.inr (.inl i4))],i0⟩) λeb=>ac (λe=>⟨by rw[g9 (.inr (.inr (.inl e)))],i0⟩) λec=>⟨?_,i0⟩⟩
  rw[decide_eq_decide];omega
 rintro b h6 ⟨rfl,rfl⟩;refine ac (λe=>by rw[f9 e]at l;rw[l];exact⟨i0,M.aT 4 [0]⟩) λe2=>?_;rw[g0 e2]at l;have s:0<=most/\most<=64:=i4
 refine⟨a5,i0,c,W.cell i0,(rc ((c.len:Nat):Int) t h6 i4 ht).mono ?_⟩;rintro _ h7 ⟨rfl,rfl⟩;rw[ab];refine⟨_,i0,ac (λe=>by rw[f9 e]at l;rw[l];exact⟨i0,M.aT 4 [0]⟩) λe3=>?_⟩;rw[g0 e3]at l;dsimp only at l;have hS:St B h0 (al a5 104 (cR a y c t most 0)::ae 3 c 1 ak live::bS y m::As) λh=>cw h a5 104 (cR a y c t most 0)/\dH h y m/\Rd h c 1 ak live:=λBs h' I=>
  ⟨(St.dS (A:=al a5 104 (cR a y c t most 0)) 0 i0 λ_ o=>o.1) Bs h' I,(St.dS (A:=bS y m) 2 i0 λ_ o=>o) Bs h' I,(St.dS (A:=ae 3 c 1 ak live) (Q:=λh=>Rd h c 1 ak live) 1 i0 λh' o=>o.1.seq (λ_=>rfl) o.2) Bs h' I⟩
 refine(JW y c live t most 0 R a7 (λk hk=>by obtain⟨_,d,hd,_⟩:=jh (show k∈aQ ds m.drives by rw[<-f];exact hk);exact⟨d,hd⟩) hS M).mono ?_;rintro _ h8 ⟨rfl,Y⟩;obtain⟨U,X⟩:∃U,U=cS m live w ds:=⟨_,rfl⟩
 have S:iE ds U.2.2:=by rw[X];exact td ah
 rw[<-X]at Y l⊢;refine⟨_,i0,ci (λe=>by rw[f9 e]at l;rw[l];exact⟨i0,Y.aT 4 [0]⟩) λe4=>?_⟩;rw[g0 λh=>h e4]at l;have bd:=Y.box 1 i0;have a9:dH h8 y m:=Y.at 3 i0;refine⟨a5,i0,y.2.2.2.2.2.2.2,by rw[addr_add];exact bd.cell i0,?_⟩;have bs:m.aF.length<=12:=((cx m).1 R).2.2.2.1;have ap:∀e∈m.aF,e.tries.length<=8:=λe he=>by
  have h1:=(hJ m e).1 (((cx m).1 R).2.2.2.2.1 e he);have h2:=nu h1.2.2.1.2;omega
 have b6:=bH.len a9.aF;have b0:St B h0 (ae 3 c 1 ak live::bS y m::As) λh=>dH h y m/\Rd h c 1 ak live:=λBs h' I=>
  ⟨(St.dS (A:=bS y m) 1 i0 λ_ o=>o) Bs h' I,(St.dS (A:=ae 3 c 1 ak live) (Q:=λh=>Rd h c 1 ak live) 0 i0 λh' o=>o.1.seq (λ_=>rfl) o.2) Bs h' I⟩
 refine av (λz:Nat×Pow×aE×Nat=>(z.1:Int)) (λz h'=>z.1<=m.aF.length/\z.2.2.2<=z.1*512/\iE ds z.2.2.1/\il m live t most m.aF U.2.1 U.2.2 0=il m live t most (m.aF.drop z.1) z.2.1 z.2.2.1 z.2.2.2/\
  aa B h0 h' (bu a pw da offs z.2.1 z.2.2.1 m::al a5 104 (cR a y c t most (z.2.2.2:Nat))::ae 3 c 1 ak live::bS y m::As)) (λz=>m.aF.length-z.1) (0,U.2.1,U.2.2,0) i0 ⟨zo _,zo _,S,i0,Y⟩ ?_
 rintro⟨i,w1,O,k⟩ h9 ⟨hi,hk,Z,F,H9⟩;dsimp only at hi hk Z F H9⊢;refine ac (λe5=>?_) λe5=>?_
 rotate_left
 ·have a6:i=m.aF.length:=i4
  rw[a6,List.drop_length]at F;rw[F]at l;rw[l];exact⟨a5,i0,(k:Int),(H9.box 1 i0).cell i0,i0,H9.aT 4 [0]⟩
 have P:i<m.aF.length:=by have b2:(i:Int)<(y.2.2.2.2.2.2.2.len:Int):=e5;omega
 obtain⟨x,V⟩:=afH P (H9.aT 4 [3,0,1,2]);obtain⟨E,L⟩:∃E,E=m.aF[i]:=⟨_,rfl⟩
 rw[<-L]at V;obtain⟨bl,br,ys,a2,ax⟩:=V.at 0 rfl;obtain⟨ar,a3⟩:=qn.1 ax;have b1:E.tries.length<=8:=ap E (by rw[L];exact qg P);refine a2.dZ (g:=bE) i i0 ar x (by rw[a3]) ?_;refine V.alloc an i0 λN b3 T=>?_;have T:=T.bv;refine T.storeAll an 0 i0 i0 (bE x) i0 i0 i0 i0 λa1 D=>?_;have D:aa B h0 a1 (bu a pw da offs w1 O m::al a5 104 (cR a y c t most (k:Nat))::al N 94 (bE x)::FC y m i E x::ae 3 c 1 ak live::As):=D.aT 5 [2,3,0,1,4];have b4:=(D.at 3 i0).2.1.2.len;refine⟨x.2.2.2,(D.box 2 i0).cell i0,?_⟩;have a4:St B h0 (al N 94 (bE x)::FC y m i E x::ae 3 c 1 ak live::As) λh=>dH h y m/\Rd h c 1 ak live/\dQ jk h x E:=λBs h' I=>by
  obtain⟨z1,z2,_⟩:=(St.dS (A:=FC y m i E x) (Q:=λh=>(FC y m i E x).p h λb=>b<h.size) 1 rfl λ_ o=>o) Bs h' I;exact⟨z1,(St.dS (A:=ae 3 c 1 ak live) (Q:=λh=>Rd h c 1 ak live) 2 i0 λh' o=>o.1.seq (λ_=>rfl) o.2) Bs h' I,z2⟩
 have e0:m.aF.drop i=E::m.aF.drop (i+1):=by rw[L];exact qQ P
 rw[e0,il]at F;obtain⟨Q,hQ⟩:∃Q,Q=eW m live t most E (qz E.tries.length) w1 O k:=⟨_,rfl⟩
 rw[<-hQ]at F;refine av (λz:Nat×Pow×aE×Nat=>(z.1:Int)) (λz h'=>z.1<=E.tries.length/\z.2.2.2<=k+z.1*64/\iE ds z.2.2.1/\Q=eW m live t most E ((qz E.tries.length).drop z.1) z.2.1 z.2.2.1 z.2.2.2/\
  aa B h0 h' (bu a pw da offs z.2.1 z.2.2.1 m::al a5 104 (cR a y c t most (z.2.2.2:Nat))::al N 94 (bE x)::FC y m i E x::ae 3 c 1 ak live::As)) (λz=>E.tries.length-z.1) (0,w1,O,k) i0 ⟨zo _,qm _,Z,hQ,D⟩ ?_
 rintro⟨j,w2,q,k2⟩ b5 ⟨hj,a8,r,n,u⟩;dsimp only at hj a8 r n u⊢;have bq:i<=12:=i4
 refine ac (λe6=>?_) λe6=>?_
 ·have ay:j<E.tries.length:=by have ao:(j:Int)<(x.2.2.2.len:Int):=e6;omega
  have hd:(qz E.tries.length).drop j=j::(qz E.tries.length).drop (j+1):=by rw[qQ i7,vJ]
  rw[hd,eW]at n;have K:live=aQ q m.drives:=by rw[r.live];exact f
  refine⟨x,(u.box 2 i0).aP _ i0,(Tq y c live t most k2 x E j R K i4 s ay i4 a4 u).mono ?_⟩;rintro _ b7 ⟨rfl,J⟩;have am:=Ws (m:=m) (live:=live) (t:=t) (most:=most) (w:=w2) (ds:=q) (e:=E) (i:=j) s.2 (λk d hd=>by have:=(md u).2 k d hd;omega) (by rw[<-K]);have ad:=Tp (m:=m) (live:=live) (t:=t) (most:=most) (w:=w2) (ds:=q) (e:=E) (i:=j) (r.len.trans ah);obtain⟨b,hb⟩:∃b,b=de m live t most w2 q E j:=⟨_,rfl⟩
  rw[<-hb]at J n am ad⊢;refine⟨_,i0,ci (λe7=>?_) λe7=>?_⟩
  ·rw[f9 e7]at n;rw[n,f9 e7]at F;rw[F]at l;rw[l];exact⟨a5,i0,((k2+b.2.2.2:Nat):Int),(J.box 1 i0).cell i0,i0,J.aT 5 [0]⟩
  ·rw[g0 λh=>h e7]at n;refine⟨(j+1,b.2.1,b.2.2.1,k2+b.2.2.2),jj,⟨i6,i6,r.trans ad,n,J⟩,i6⟩
 ·have bk:j=E.tries.length:=by have ao:¬(j:Int)<(x.2.2.2.len:Int):=e6;omega
  rw[bk,zk i9,eW]at n;rw[n,g0 λh=>h rfl]at F;have bb:=(agf (u.aT 4 [3,0,1])).aT 3 [1,2,0];refine⟨(i+1,w2,q,k2),jj,⟨i6,i6,r,F,?_⟩,i6⟩;exact bb.aT 4 [0,1,3,2]
theorem abI{a b:cW}(d:pA a b=eR)(c:pA b a=eR):nN a b=eR:=by unfold pA at d c;rw[decide_eq_true_eq]at d c;rw[lH];omega
theorem abJ{a b c:cW}(h:pA a b=eR)(d:nN a c=eR):pA c b=eR:=by rw[lH]at d;unfold pA at h⊢;rw[decide_eq_true_eq]at h⊢;omega
theorem Wu{l:List cW}(h:l.Pairwise λa b=>pA a b=eR):(oJ l).Pairwise λa b=>nN a b=eS:=by
 unfold oJ;rw[List.pairwise_map];have o:((qz l.length).filter (oI l)).Pairwise (·<·):=(List.pairwise_lt_range (n:=ii l)).filter _;refine o.imp_of_mem λ{i j} hi hj hlt=>?_;have c:=qJ.1 (qH.1 hj).1;have d:=(qH.1 hj).2;rw[eE _ (show i<ii l by omega),eE _ c];refine eq_false_of_ne_true λg=>?_;unfold oI at d;rw[hU i4,Bool.false_or,Bool.not_eq_true',eE _ c,eE _ (show j-1<ii l by omega)]at d;have f:=zu.1 h;have m:pA l[i] l[j-1]=eR:=by
  by_cases e:i=j-1
  ·subst e;unfold pA;rw[decide_eq_true_eq];omega
  ·exact f i (j-1) i4 i4 i4
 have k:pA l[j-1] l[j]=eR:=f (j-1) j i4 c i4;have:=abI (abJ m g) k;rw[d]at this;cases this
theorem Tr(m:aC)(l:cI):(cM m l).Pairwise λa b=>nN a b=eS:=Wu (List.pairwise_mergeSort aeA.1 aeA.2 _)
theorem rg{α:Type}[DecidableEq α]:∀{l m:List α},l.Nodup->(∀x∈l,x∈m)->ii l<=ii m
 |[],m,_,_=>zo _
 |x::l,m,h,hs=>by
  obtain⟨d,f⟩:=List.nodup_cons.1 h;have c:=hs x qI;have:=rg (l:=l) (m:=m.erase x) f λy b=>by
   have a:y≠x:=λe=>d (e▸b);exact(List.mem_erase_of_ne a).2 (hs y (qD _ b))
  rw[List.length_erase_of_mem c]at this;have:=List.length_pos_of_mem c;rw[zh];omega
theorem LJ{α β:Type}{f:α->List β}{c:Nat}:∀{l:List α},(∀x∈l,ii (f x)=c)->ii (l.flatMap f)=ii l*c
 |[],_=>i9
 |x::l,h=>by
  rw[zf,qw,h x qI,LJ λy a=>h y (qD _ a),zh,zH];omega
variable {C:Int->aV}
def Low(m:aC)(ds:aE):Prop:=∀k d,aX ds k=dB d->∀c∈d.l,∀r,dT c=dB r->eN m r=eR->r.id<m.p.1+m.extra
structure Full (m:aC) (C:Int->aV) (ds:aE):Prop where
 live:∀k∈m.drives,∃d,aX ds k=dB d/\d.lost=eS/\uE m d.l=eR
 all:∀e∈m.aF,∀i:Nat,i<e.tries.length->∀id:Nat,id<(m.p.1+m.extra).toNat->∃k∈m.drives,∃d,aX ds k=dB d/\dn (mz m e.object i (ck e.object i (e.tries.getD i 0)) (ik m C e.object i) id)∈d.l
theorem Full.aQ(F:Full m C ds):Wl.aQ ds m.drives=m.drives:=zZ.2 λk c=>by
 obtain⟨d,a,b,_⟩:=F.live k c;unfold isLive;rw[a];simp[b]
theorem fM.afI(S:fM m C ds){e:Wl.cz}(a:e∈m.aF):e.tries.length<=8:=by obtain⟨_,_,h3,_,b⟩:=(hJ m e).1 (S.entry a);have:=nu h3.2;omega
theorem fM.FD(S:fM m C ds){e:Wl.cz}(a:e∈m.aF){i:Nat}(c:i<e.tries.length){id:Nat}(hid:id<=65535):jg (mz m e.object i (ck e.object i (e.tries.getD i 0)) (ik m C e.object i) id)=eR:=by obtain⟨K,H,w,n,B⟩:=S.ga a c;have h8:=S.afI a;have d:=((hJ m e).1 (S.entry a)).2.1;have b:=((fy m).1 ((cx m).1 S.may).1).2.1;exact Qz B ⟨d.1,i4⟩ ⟨i4,i4⟩ ⟨i4,i4⟩
theorem fM.counts(S:fM m C ds){e:Wl.cz}(a:e∈m.aF){i:Nat}(b:i<e.tries.length){id:Nat}(hid:id<=65535):eN m (mz m e.object i (ck e.object i (e.tries.getD i 0)) (ik m C e.object i) id)=eR:=
 iQ.2 ⟨S.FD a b hid,i0,e,a,i0,by show(i:Int)<_;omega,by show ck e.object i _=ck e.object (i:Int) (e.tries.getD (i:Int).toNat 0);rw[ql]⟩
theorem MS(m:aC)(d:bj)(N:Int):(cK m d N).lost=d.lost/\(cK m d N).room=d.room:=by unfold cK;split<;>exact⟨i0,i0⟩
end Go.Qw
namespace Wl
open Go Go.Qw Go.Vc
def Io(m:aC)(i:Nat):aC:={m with seq:=m.seq+1,aF:=m.aF.take i++m.aF.drop (i+1)}
def gz(m:aC)(offs:Int)(w:Pow)(ds:aE)(name:ByteArray):Int×aC×Pow×aE:=
 if fd w offs then(14,m,w,ds)else if m.aF.any (mb name)=eS then(5,m,w,ds)else if m.seq>=2147483647 then(7,m,w,ds)else
 dc m offs w ds (Io m (m.aF.findIdx (mb name)))
end Wl
namespace Go.Vc
open Go
theorem Rk{C:Ctx}{t e k:Nat}{z:ba}{c:Nat}{h:f8}{s:Sl}(b:C.Ok)(a:bU C.toAO t e k z c){x y u:Int}(i j n:Nat)(J:x=i)(d:y=j)(m:u=n)(L:i<=j)(D:j<=n)(h3:n<=s.cap){K:Sl->f8->Prop}(p:∀v,K v h):
  bV C.P (yx t (xu s.ptr s.len s.cap) (dB (xt xz x)) (dB (xt xz y)) (dB (xt xz u))) (.one (.sc .slc)) h K:=by
 subst J;subst d;subst m;have l:aK C.P (wH eR s.len s.cap (dB (xt xz (i:Int))) (dB (xt xz (j:Int))) (dB (xt xz (n:Int)))) (i,j,n):=λw=>by
  have F:¬((n:Int)<0):=i4
  have x2:¬((s.cap:Int)<(n:Int)):=i4
  have x3:(n:Int)<=(s.cap:Int):=i4
  have H:(0:Int)<=(n:Int):=i4
  have G:(0:Int)<=(j:Int):=i4
  have A:(0:Int)<=(i:Int):=i4
  have B:(j:Int)<=(n:Int):=i4
  have E:(i:Int)<=(j:Int):=i4
  have g:¬((j:Int)<0):=i4
  have o:¬((i:Int)<0):=i4
  have M:¬((n:Int)<(j:Int)):=i4
  have q:¬((j:Int)<(i:Int)):=i4
  have I:¬(n<j):=i4
  have r:¬(j<i):=i4
  have f:¬(s.cap<n):=i4
  simp[wH,Instr.sliceBound,asIntOf,F,x2,x3,H,G,A,B,E,g,o,M,q,I,r,f,L,D,h3]
 unfold bV yx;refine az.bind (az.always (aR (a.under b)) ?_);show az C.P (xq t (xu s.ptr s.len s.cap) (dB (xt xz (i:Int))) (dB (xt xz (j:Int))) (dB (xt xz (n:Int)))) h _;unfold xq;refine az.bind (az.always (aR (a.under b)) ?_);refine az.bind (az.always l ?_);refine az.bind (az.always (a.size b) ?_);exact az.pure' ⟨⟨_,_,_⟩,i0,p _⟩
end Go.Vc
namespace Go.Qw
open Go Go.Vc Go.Proofs Wl
variable {B:aA} {h0 h:f8} {As:List HP} {a pw:eY} {offs:Int} {da:List bm} {w:Pow} {ds:aE} {m:aC} {s:Sl}
theorem Ts(d:List dV)(i:Nat)(l:i<ii d)(o:ii d<=2^30)(H:aa B h0 h (ae 94 s 4 bE d::As)):
  aq xD 91 #[s,xt xz i,xt xz (i+1)] h λv h'=>∃r:Sl,v=r/\aa B h0 h' (ae 94 r 4 bE (d.take i++d.drop (i+1))::As):=by
 refine mH s i (i+1) ?_;have f:=H.own 0 i0;have q:=f.len;have k:=f.cap;refine Rk an Lr i (i+1) s.len i0 i0 i0 i4 i4 k λ_=>?_;refine cy (λe=>absurd e i4) λ_=>⟨⟨i4,i4⟩,⟨i4,i4⟩,?_⟩
 have j:((i:Int)+1).toNat=i+1:=i4
 rw[j,ql];refine H.KT an 0 i0 Lr ⟨_,_,i0,i0⟩ (λ_=>rfl) Lq i l λm a=>⟨trivial,⟨i4,i6,i6⟩,?_⟩
 have a:aa B h0 m (ae 94 s 4 bE ((d.take i++d.drop (i+1))++d.drop (ii d-1))::As):=a;have b:ii (d.take i++d.drop (i+1))=ii d-1:=i7
 dsimp only;rw[ql,ql];refine a.om an 0 i0 Lr (λ_=>rfl) i0 (by intro v g;simp at g;rcases g with rfl|rfl|rfl<;>rfl) (ii d-1) i7 λp c=>?_;have n:((d.take i++d.drop (i+1))++d.drop (ii d-1)).take (ii d-1)=d.take i++d.drop (i+1):=by rw[<-b,vN]
 rw[n]at c;exact⟨⟨s.ptr,ii d-1,s.cap⟩,i0,c⟩
theorem Rl(name:ByteArray)(x:bX)(m:aC)(G:bL m=eR)(H:aa B h0 h (bh bw a pw (aS x) offs da w ds::bS x m::As)):
  aq xD 36 #[xv (dB a),xw name] h λv h'=>v=xt xz (gz m offs w ds name).1/\
   ∃y,aa B h0 h' (bh bw a pw (aS y) offs da (gz m offs w ds name).2.2.1 (gz m offs w ds name).2.2.2::bS y (gz m offs w ds name).2.1::As):=by
 refine Ao (dB a) name ?_;have r:=kl G;have S:=jy G;obtain⟨g1,g2,g3,g4⟩:=(fy m).1 ((cx m).1 G).1;have V:=((cx m).1 G).2.2.2.1;refine(EZ H).mono ?_;rintro _ h1 ⟨rfl,rfl⟩;refine⟨_,i0,bA (λe=>?_) λK=>?_⟩
 ·have k:gz m offs w ds name=(14,m,w,ds):=by unfold gz;rw[f9 e]
  rw[k];exact⟨i0,x,H⟩
 refine(find_spec x m name (H.at 1 i0) r H).mono ?_;rintro _ T ⟨⟨i,rfl,hi⟩,R2⟩;have t:=H.up R2.ag;refine⟨i,i0,?_⟩;rcases hi with⟨rfl,hno⟩|⟨n,hn,rfl,c,hbef⟩
 ·refine ac (λ_=>?_) λe=>absurd i5 e;have k:gz m offs w ds name=(5,m,w,ds):=by unfold gz;rw[g0 m5,f9 hno]
  rw[k];exact⟨i0,x,t⟩
 have f:m.aF.any (mb name)=eR:=wk.2 ⟨_,qg hn,c⟩;have u:m.aF.findIdx (mb name)=n:=by rw[List.findIdx_eq hn];refine⟨c,λj hj=>?_⟩;have:=wL.1 hbef (m.aF[j]'(by omega)) (List.mem_take_iff_getElem.2 ⟨j,i4,i0⟩);simpa using this
 have D:=(aa.dl t).2;have A:dH T x m:=t.at 1 i0;refine ac (λe=>absurd e (Int.not_lt.2 (Int.natCast_nonneg n))) λ_=>⟨a,i0,x.1,D.cell0 i0,?_⟩
 rw[A.seq];refine ac (λO=>?_) λO=>?_
 ·have k:gz m offs w ds name=(7,m,w,ds):=by unfold gz;rw[g0 m5,g0 (by rw[f];decide),f9 O]
  rw[k];exact⟨i0,x,t⟩
 refine⟨a,i0,x,D.aP _ i0,(np x m T A r).mono ?_⟩;rintro _ h3 ⟨y,L,pool,rfl,I,s,W,R3⟩;have Z:=(t.comp R3).front;refine⟨y,i0,Z.alloc an i0 λa3 h4 R=>?_⟩;have R:=R.bv;refine R.storeAll an 0 i0 i0 (aS y) i0 i0 i0 i0 λY F=>?_;have F:aa B h0 Y (al a3 29 (aS y)::dM 1 ak pool::ae 3 y.2.2.2.2.2.2.1 1 ak m.drives::ae 94 y.2.2.2.2.2.2.2 4 bE (L.map qK)::bh bw a pw (aS x) offs da w ds::bS x m::As):=F;refine⟨y.1,(F.box 0 i0).cell0 i0,?_⟩;dsimp only;rw[I.1,af (m.seq+1)];refine F.jJ an 0 i0 i0 [xt xz (m.seq+1)] i0 i0 i0 j7 λh6 q=>?_;have q:aa B h0 h6 (al a3 29 (xt xz (m.seq+1)::(aS y).drop 1)::dM 1 ak pool::ae 3 y.2.2.2.2.2.2.1 1 ak m.drives::ae 94 y.2.2.2.2.2.2.2 4 bE (L.map qK)::bh bw a pw (aS x) offs da w ds::bS x m::As):=q;refine⟨_,(q.box 0 i0).cell i0,?_⟩;have ab:ii L=ii m.aF:=by rw[<-s,qx]
 have q:=q.aT 6 [3,0,1,2,4,5];rw[af ((n:Int)+1)];refine(Ts (L.map qK) n oj oj q).mono ?_;rintro _ h7 ⟨o,rfl,J⟩;have J:aa B h0 h7 (al a3 29 (xt xz (m.seq+1)::(aS y).drop 1)::dM 1 ak pool::ae 3 y.2.2.2.2.2.2.1 1 ak m.drives::ae 94 o 4 bE ((L.map qK).take n++(L.map qK).drop (n+1))::bh bw a pw (aS x) offs da w ds::bS x m::As):=J.aT 6 [1,2,3,0,4,5];refine⟨o,i0,J.store an 0 i0 i0 7 [o] i0 i0 i0 j7 λh8 E=>?_⟩;obtain⟨b,d⟩:∃b:bX,b=(m.seq+1,y.2.1,y.2.2.1,y.2.2.2.1,y.2.2.2.2.1,y.2.2.2.2.2.1,y.2.2.2.2.2.2.1,o):=⟨_,rfl⟩
 have ed:b.2.2.2.2.2.2.1=y.2.2.2.2.2.2.1:=by rw[d]
 have X:b.2.2.2.2.2.2.2=o:=by rw[d]
 obtain⟨L2,l⟩:∃L2,L2=L.take n++L.drop (n+1):=⟨_,rfl⟩
 have N:L2.map qK=(L.map qK).take n++(L.map qK).drop (n+1):=by rw[l,qS,List.map_take,List.map_drop]
 have E:aa B h0 h8 (al a3 29 (aS b)::dM 1 ak pool::ae 3 b.2.2.2.2.2.2.1 1 ak m.drives::ae 94 b.2.2.2.2.2.2.2 4 bE (L2.map qK)::bh bw a pw (aS x) offs da w ds::bS x m::As):=by rw[ed,X,N,d];exact E
 refine⟨b,(E.box 0 i0).aP _ i0,?_⟩;obtain⟨M,z⟩:∃M,M=Io m n:=⟨_,rfl⟩
 have H9:aa B h0 h8 (bS b M::bh bw a pw (aS x) offs da w ds::bS x m::As):=aa.Cz (m:=M) (L:=L2) (pool:=pool) (by rw[z,d];exact⟨i0,I.2.1,I.2.2.1,I.2.2.2⟩)
  (by rw[z,l,qS,List.map_take,List.map_drop,s];rfl) (λp c=>W p (by
   rw[l]at c;rcases qA.1 c with c|c
   ·exact zD c
   ·exact List.mem_of_mem_drop c)) (by rw[z];exact E.aT 6 [1,2,3,4,5])
 have P:dh M:=by
  rw[z];have sub:∀e,e∈m.aF.take n++m.aF.drop (n+1)->e∈m.aF:=λe g=>by
   rcases qA.1 g with g|g
   ·exact zD g
   ·exact List.mem_of_mem_drop g
  refine⟨r.dr,?_,?_⟩
  ·have:=r.ob;show(m.aF.take n++m.aF.drop (n+1)).length<=_;simp;omega
  ·exactλe g=>r.nm e (sub e g)
 refine(GS x m b M (As:=bS b M::As) (St.dS 0 i0 λ_ hq=>hq) r P i4 (H9.aT 3 [1,2,0])).mono ?_;rintro _ ad ⟨rfl,U,Q⟩;have k:gz m offs w ds name=dc m offs w ds M:=by unfold gz;rw[g0 m5,g0 (by rw[f];decide),g0 O,u,z]
 rw[k];exact⟨_,i0,i0,U,Q.aT 3 [0,1]⟩
theorem Wv(name:ByteArray)(b:bL m=eR)(H:aa B h0 h (bu a pw da offs w ds m::As)):
  aq xD 36 #[xv (dB a),xw name] h λv h'=>v=xt xz (gz m offs w ds name).1/\
   aa B h0 h' (bu a pw da offs (gz m offs w ds name).2.2.1 (gz m offs w ds name).2.2.2 (gz m offs w ds name).2.1::As):=by
 obtain⟨x,H⟩:=gK H;refine(Rl name x m b H).mono ?_;rintro _ h' ⟨rfl,y,c⟩;exact⟨i0,kP c⟩
variable {B':aA} {h0' h':f8} {As':List HP} {b pw2:eY} {d:bj}
variable {a2:eY} {mc:ba} {da2:List bm}
variable {x:bX}
end Go.Qw
namespace Go.Vc
open Go Wl Go.Qw
def rh(l:aw)(k:Nat):Int:=l.getD k 0
def iX(l:aw):Pm:=Bw (rh l 0) (rh l 1) (rh l 2)
def sw(l:aw):Nat:=(2+rh l 4%4).toNat
def CT(l:aw):aw:=(qz (sw l)).map λi=>8+rh l (5+i)%50
def Ww(l:aw):Int:=rh l 3%7
theorem Uj(l:aw):2<=sw l/\sw l<=5:=by unfold sw;omega
theorem Rm(l:aw):ii (CT l)=sw l:=by simp[CT]
end Go.Vc
namespace Go.Qw
open Go Go.Vc Go.Proofs Wl
variable {B:aA} {h0 h:f8} {As:List HP} {a pw:eY} {offs:Int} {da:List bm} {w:Pow} {ds:aE}
theorem ri(s:Sl)(l:aw)(k:Nat)(h:f8)(a:Rd h s 1 ak l):aq xD 71 #[s,xt xz k] h λv h'=>v=xt xz (rh l k)/\h'=h:=by
 refine Ap s k ?_;unfold rh;have c:=a.len;refine ac (λe=>?_) (λe=>⟨?_,i0⟩)
 ·have b:k<ii l:=i4
  refine a.bD k i0 b (l.getD k 0) (by rw[getD_lt b];rfl) ⟨i0,i0⟩
 ·rw[qe,qP i4];rfl
theorem Tt(s:Sl)(l:aw)(h:f8)(q:Rd h s 1 ak l):aq xD 31 #[s] h λv h'=>∃r:Sl,v=.tuple #[kb (iX l),xt xz (Ww l),r]/\Sp h h' [ae 3 r 1 ak (CT l)]:=by
 refine sQ s ?_;refine(Sp.refl h).alloc an i0 λw M p=>?_;have a:=q.up p.ag;refine(ri s l 0 M a).mono ?_;rintro _ _ ⟨rfl,rfl⟩;refine⟨_,i0,(ri s l 1 _ a).mono ?_⟩;rintro _ _ ⟨rfl,rfl⟩;refine⟨_,i0,(ri s l 2 _ a).mono ?_⟩;rintro _ I ⟨rfl,rfl⟩;refine⟨_,i0,(VO _ _ _ I).mono ?_⟩;rintro _ N ⟨rfl,A⟩;have y:=p.up A.ag;refine⟨iX l,i0,?_⟩;refine y.alloc an i0 λf Q G=>?_;refine G.storeAll an 1 i0 i0 [xt xz (iX l).1,xt xz (iX l).2.1,xt xz (iX l).2.2] i0 i0 i0 i0 λF k=>?_;have k:Sp h F [ae 3 ⟨eH,0,0⟩ 1 ak ((CT l).take 0),al f 26 [xt xz (iX l).1,xt xz (iX l).2.1,xt xz (iX l).2.2],al w 26 [xt xz 0,xt xz 0,xt xz 0]]:=(k.nil 3 1 ak).cu [2,1,0];have P:=Uj l;have L:=Rm l;refine av (λt:Sl×Nat=>(t.1,(t.2:Int))) (λt h'=>t.2<=sw l/\Sp h h' [ae 3 t.1 1 ak ((CT l).take t.2),al f 26 [xt xz (iX l).1,xt xz (iX l).2.1,xt xz (iX l).2.2],al w 26 [xt xz 0,xt xz 0,xt xz 0]]) (λt=>sw l-t.2) (⟨eH,0,0⟩,0) i0 ⟨i9,k⟩ ?_;rintro⟨o,i⟩ h8 ⟨O,d⟩;dsimp only at*;have b:=q.up d.ag;refine(ri s l 4 h8 b).mono ?_;rintro _ _ ⟨rfl,rfl⟩;refine⟨_,i0,(cD _ 4 _).mono ?_⟩;rintro _ h8 ⟨rfl,rfl⟩;refine⟨_,i0,?_⟩;have g:=d.box 1 i0;dsimp only;rw[af (2+rh l 4%4)];have j:2+rh l 4%4=(sw l:Int):=by unfold sw;omega
 rw[j];refine ac (λe=>?_) (λe=>?_)
 ·have B:i<sw l:=i4
  rw[af ((5:Int)+i)];have E:(5:Int)+i=((5+i:Nat):Int):=i4
  rw[E];refine(ri s l (5+i) h8 b).mono ?_;rintro _ _ ⟨rfl,rfl⟩;refine⟨_,i0,(cD _ 50 _).mono ?_⟩;rintro _ x ⟨rfl,rfl⟩;refine⟨_,i0,?_⟩;dsimp only;rw[af (8+rh l (5+i)%50)];refine d.push an 0 i0 fS i0 i5 (λ_=>rfl) eJ (8+rh l (5+i)%50) i0 i5 i7 λD H m=>?_;refine⟨(D,i+1),jj,⟨i6,?_⟩,i6⟩;dsimp only;rw[aH _ _ (show i<ii (CT l) by omega)];have K:(CT l)[i]'(by omega)=8+rh l (5+i)%50:=by simp[CT]
  rw[K];exact m
 ·have n:i=sw l:=i4
  subst n;rw[qi i4]at d;have u:au.ok [(f,(xt xz (iX l).1)),(f.add 1,(xt xz (iX l).2.1)),(f.add 2,(xt xz (iX l).2.2))] h8:=⟨g.cell0 i0,g.cell i0,g.cell i0,trivial⟩
  refine⟨iX l,g.aP _ i0,(ri s l 3 h8 b).mono ?_⟩;rintro _ _ ⟨rfl,rfl⟩;refine⟨_,i0,u,(cD _ 7 _).mono ?_⟩;rintro _ J ⟨rfl,rfl⟩;refine⟨_,i0,u,?_⟩;refine d.storeAll an 2 i0 i0 [xt xz (iX l).1,xt xz (iX l).2.1,xt xz (iX l).2.2] i0 i0 i0 i0 λz c=>⟨trivial,?_⟩
  exact⟨iX l,(c.box 2 i0).aP _ i0,o,i0,c.cu [0]⟩
end Go.Qw
namespace Wl
structure Mv where
 kind:Int
 name:ByteArray
 data:aV
 slot:Int
 n:Int
 m:Int
 mask:Int
 keeps:aw
 torns:aw
def Kl:List ByteArray:=[⟨#[97]⟩,⟨#[98]⟩,⟨#[99,97,116,45,55]⟩,⟨#[100]⟩,⟨#[101,49,50,51,52,53,54,55,56,57,48,49]⟩]
def mA(p:Int×Int×Int)(b:Mv):Prop:=
 (b.kind=1/\b.name∈Kl/\(ii b.data:Int)<=3*(p.1*p.2.2)+1)∨((b.kind=2∨b.kind=3∨b.kind=5)/\b.name∈Kl)∨b.kind=4∨
 (b.kind=6/\(0<=b.slot/\b.slot<9)/\6<=b.n/\b.n<66)∨(b.kind=7/\0<=b.slot/\b.slot<8)∨(b.kind=8/\(0<=b.slot/\b.slot<8)/\6<=b.n/\b.n<66)∨(b.kind=9/\0<=b.slot/\b.slot<8)∨
 (b.kind=10/\(-1<=b.n/\b.n<=7)/\-1<=b.m/\b.m<=68)∨(b.kind=11/\(0<=b.slot/\b.slot<7)/\(0<=b.n/\b.n<40)/\(0<=b.m/\b.m<61)/\0<=b.mask/\b.mask<4294967296)
def Rn(b:Mv):Prop:=b=⟨b.kind,if b.kind=1∨b.kind=2∨b.kind=3∨b.kind=5 then b.name else⟨#[]⟩,if b.kind=1 then b.data else[],if b.kind=6∨b.kind=7∨b.kind=8∨b.kind=9∨b.kind=11 then b.slot else 0,
 if b.kind=6∨b.kind=8∨b.kind=10∨b.kind=11 then b.n else 0,if b.kind=10∨b.kind=11 then b.m else 0,if b.kind=11 then b.mask else 0,[],[]⟩
end Wl
namespace Go.Vc
open Go Wl
abbrev agA(s:ByteArray):ba:=[xw s]
abbrev Ro:=Int×ByteArray×Sl×Int×Int×Int×Int×Sl×Sl
abbrev nI(x:Ro):ba:=[xt xz x.1,xw x.2.1,x.2.2.1,xt xz x.2.2.2.1,xt xz x.2.2.2.2.1,xt xz x.2.2.2.2.2.1,xt xB x.2.2.2.2.2.2.1,x.2.2.2.2.2.2.2.1,x.2.2.2.2.2.2.2.2]
abbrev mvV(x:Ro):Value:=xy #[xt xz x.1,xw x.2.1,x.2.2.1,xt xz x.2.2.2.1,xt xz x.2.2.2.2.1,xt xz x.2.2.2.2.2.1,xt xB x.2.2.2.2.2.2.1,x.2.2.2.2.2.2.2.1,x.2.2.2.2.2.2.2.2]
def lT:iZ Ro Mv:=⟨λh q a b=>(a.1=b.kind/\a.2.1=b.name/\a.2.2.2.1=b.slot/\a.2.2.2.2.1=b.n/\a.2.2.2.2.2.1=b.m/\a.2.2.2.2.2.2.1=b.mask/\a.2.2.1.len<=a.2.2.1.cap)/\Seq h q a.2.2.1 1 aD b.data/\Seq h q a.2.2.2.2.2.2.2.1 1 ak b.keeps/\Seq h q a.2.2.2.2.2.2.2.2 1 ak b.torns,
 λa c=>⟨a.1,a.2.1.ag c,a.2.2.1.ag c,a.2.2.2.ag c⟩,λa d=>⟨a.1,a.2.1.mono d,a.2.2.1.mono d,a.2.2.2.mono d⟩⟩
theorem afJ:∀x,∀c∈nI x,c.oneCell'=eR:=by intro x c a;simp[nI]at a;rcases a with rfl|rfl|rfl|rfl|rfl|rfl|rfl|rfl|rfl<;>rfl
end Go.Vc
namespace Go.Qw
open Go Go.Vc Go.Proofs Wl
abbrev agB:bU C.toAO 77 9 1 [xw ⟨#[]⟩] 16:=⟨_,_,i0,i0,i0,i0,i0,i0⟩
abbrev zMv:ba:=[xt xz 0,xw ⟨#[]⟩,xu eH 0 0,xt xz 0,xt xz 0,xt xz 0,xt xB 0,xu eH 0 0,xu eH 0 0]
abbrev eMv:bU C.toAO 69 73 9 zMv 128:=⟨_,_,i0,i0,i0,i0,i0,i0⟩
theorem te(n:Int)(h:f8):aq xD 134 #[xt xz n] h λv h'=>∃s∈Kl,v=xw s/\Sp h h' []:=by refine uS n ?_;refine(Sp.refl h).lit an agA agB i0 Kl i0 i5 j1 λe b a=>?_;refine(cD n 5 b).mono ?_;rintro _ g ⟨rfl,rfl⟩;have c:=yn n (show(5:Int)≠0 by decide);have f:=wP n (show(0:Int)<5 by decide);have d:ii Kl=5:=rfl;refine⟨_,i0,(a.seq 0 i0 λ_=>rfl).bD (n%5).toNat i4 i4 (Kl[(n%5).toNat]'(by omega)) i0 ⟨_,qg _,i0,.zip a.ag⟩⟩
theorem Wx(p:Pm)(k a b:Int)(h:f8)(T:bM p=eR):aq xD 79 #[kb p,xt xz k,xt xz a,xt xz b] h λv h'=>∃(x:Ro) (m:Mv),v=mvV x/\mA p m/\Rn m/\Sp h h' [EA lT x m]:=by
 refine uN p k a b ?_;obtain⟨⟨V,U⟩,_,L,X⟩:=(cm p).1 T;have M:1<=p.1*p.2.2/\p.1*p.2.2<=16*24:=⟨yC V L i4 i4,yC U X i4 i4⟩
 refine(Sp.refl h).boxed λI h1 J=>J.alloc an i0 λa2 H d=>?_;have d:Sp h H [al I 26 [xt xz p.1,xt xz p.2.1,xt xz p.2.2],al a2 73 zMv]:=d;have fin:∀(kind slot n m c:Int) (name:ByteArray) {h':f8},Sp h h' [al I 26 [xt xz p.1,xt xz p.2.1,xt xz p.2.2],al a2 73 zMv]->mA p ⟨kind,name,[],slot,n,m,c,[],[]⟩->Rn ⟨kind,name,[],slot,n,m,c,[],[]⟩->
   az xD (qf 73 (xv (dB a2)) (xy #[xt xz kind,xw name,xu eH 0 0,xt xz slot,xt xz n,xt xz m,xt xB c,xu eH 0 0,xu eH 0 0])) h' λ_ f=>
    ∃r:Ro,aj f a2 0 (nI r)/\∃(x:Ro) (m:Mv),mvV r=mvV x/\mA p m/\Rn m/\Sp h f [EA lT x m]:=by
  intro kind slot n m c name h' Q D R;refine Q.storeAll an 1 i0 i0 (nI (kind,name,⟨eH,0,0⟩,slot,n,m,c,⟨eH,0,0⟩,⟨eH,0,0⟩)) i0 i0 i0 i0 λf w=>?_;refine⟨(kind,name,⟨eH,0,0⟩,slot,n,m,c,⟨eH,0,0⟩,⟨eH,0,0⟩),(w.box 1 i0).aP _ i0,_,_,i0,D,R,?_⟩;have O:Sp h f []:=.zip w.ag;exact O.comp (.one (aZ.refl _ _) ⟨⟨i0,i0,i0,i0,i0,i0,qm _⟩,Seq.nil _ _ _ _ _ _,Seq.nil _ _ _ _ _ _,Seq.nil _ _ _ _ _ _⟩)
 refine(cD k 26 H).mono ?_;rintro _ h3 ⟨rfl,rfl⟩;have k0:=yn k (show(26:Int)≠0 by decide);have k1:=wP k (show(0:Int)<26 by decide);have W:∀(x n:Int),0<n->0<=x%n/\x%n<n:=λx n Y=>⟨yn x i4,wP x Y⟩
 refine⟨_,i0,ac (λ_=>?_) λ_=>?_⟩
 ·refine⟨i5,p.1,(d.box 0 i0).cell0 i0,p.2.2,(d.box 0 i0).cell i0,(te a h3).mono ?_⟩;rintro _ e ⟨s,j,rfl,i⟩;have o:=d.up i.ag;have P:qc xz ((qc xz ((qc xz ((3:Int)*p.1))*p.2.2))+(2:Int))=3*(p.1*p.2.2)+2:=by rw[af (3*p.1),Int.mul_assoc,af (3*(p.1*p.2.2)),af _]
  refine⟨s,i0,⟨(o.box 0 i0).cell i0,(o.box 0 i0).cell0 i0,trivial⟩,?_⟩;rw[P];refine(cD _ (3*(p.1*p.2.2)+2) e i4 i4).mono ?_;rintro _ g ⟨rfl,rfl⟩;obtain⟨q,y⟩:∃q,q=qc xz (wz a 5)%(3*(p.1*p.2.2)+2):=⟨_,rfl⟩
  have E:=W (qc xz (wz a 5)) (3*(p.1*p.2.2)+2) i4;rw[<-y]at E⊢;obtain⟨N,Z⟩:∃N:Nat,q=N:=⟨q.toNat,i4⟩
  subst Z;refine⟨_,i0,⟨(o.box 0 i0).cell i0,(o.box 0 i0).cell0 i0,trivial⟩,(VD N b g i4).mono ?_⟩;rintro _ h6 ⟨r,l,rfl,hl,F⟩;have B:=o.comp F;have u:=(F.own 0 i0).cap;refine⟨r,i0,⟨(B.box 0 i0).cell i0,(B.box 0 i0).cell0 i0,trivial⟩,?_⟩;refine B.storeAll an 1 i0 i0 (nI (1,s,r,0,0,0,0,⟨eH,0,0⟩,⟨eH,0,0⟩)) i0 i0 i0 i0 λh7 G=>?_;refine⟨trivial,(1,s,r,0,0,0,0,⟨eH,0,0⟩,⟨eH,0,0⟩),(G.box 1 i0).aP _ i0,_,(⟨1,s,l,0,0,0,0,[],[]⟩:Mv),i0,.inl ⟨i0,j,i6⟩,i0,?_⟩;have K:=G.cu [2];exact K.gb 0 i0 λq y=>⟨⟨i0,i0,i0,i0,i0,i0,u⟩,y.1.seq (λ_=>rfl) y.2,Seq.nil _ _ _ _ _ _,Seq.nil _ _ _ _ _ _⟩
 refine ac (λ_=>(te a h3).mono ?_) λ_=>ac (λ_=>(te a h3).mono ?_) λ_=>cy (λ_=>?_) λ_=>cy (λ_=>(te a h3).mono ?_) λ_=>cy (λ_=>?_) λ_=>cy (λ_=>?_) λ_=>cy (λ_=>?_) λ_=>cy (λ_=>?_) λ_=>ac (λ_=>?_) λ_=>cy (λ_=>?_) λ_=>?_
 ·rintro _ e ⟨s,j,rfl,i⟩;exact⟨s,i0,fin 2 0 0 0 0 s (d.up i.ag) (.inr (.inl ⟨.inl i0,j⟩)) i0⟩
 ·rintro _ e ⟨s,j,rfl,i⟩;exact⟨s,i0,fin 3 0 0 0 0 s (d.up i.ag) (.inr (.inl ⟨.inr (.inl i0),j⟩)) i0⟩
 ·exact fin 4 0 0 0 0 _ d (.inr (.inr (.inl i0))) i0
 ·rintro _ e ⟨s,j,rfl,i⟩;exact⟨s,i0,fin 5 0 0 0 0 s (d.up i.ag) (.inr (.inl ⟨.inr (.inr i0),j⟩)) i0⟩
 ·refine(cD a 9 h3).mono ?_;rintro _ e ⟨rfl,rfl⟩;refine⟨_,i0,(cD b 60 e).mono ?_⟩;rintro _ g ⟨rfl,rfl⟩;have t:=W a 9 i5;have A:=W b 60 i5;refine⟨_,i0,?_⟩;dsimp only;rw[af (6+b%60)];exact fin 6 _ _ 0 0 _ d (.inr (.inr (.inr (.inl ⟨i0,t,i6,i6⟩)))) i0
 ·refine(cD a 8 h3).mono ?_;rintro _ _ ⟨rfl,rfl⟩;exact⟨_,i0,fin 7 _ 0 0 0 _ d (.inr (.inr (.inr (.inr (.inl ⟨i0,W a 8 i5⟩))))) i0⟩
 ·refine(cD a 8 h3).mono ?_;rintro _ e ⟨rfl,rfl⟩;refine⟨_,i0,(cD b 60 e).mono ?_⟩;rintro _ g ⟨rfl,rfl⟩;have t:=W a 8 i5;have A:=W b 60 i5;refine⟨_,i0,?_⟩;dsimp only;rw[af (6+b%60)];exact fin 8 _ _ 0 0 _ d (.inr (.inr (.inr (.inr (.inr (.inl ⟨i0,t,i6,i6⟩)))))) i0
 ·refine(cD a 8 h3).mono ?_;rintro _ _ ⟨rfl,rfl⟩;exact⟨_,i0,fin 9 _ 0 0 0 _ d (.inr (.inr (.inr (.inr (.inr (.inr (.inl ⟨i0,W a 8 i5⟩))))))) i0⟩
 ·refine(cD a 3 h3).mono ?_;rintro _ e ⟨rfl,rfl⟩;refine⟨_,i0,(cD b 20 e).mono ?_⟩;rintro _ g ⟨rfl,rfl⟩;have t:=W a 3 i5;have A:=W b 20 i5;exact⟨_,i0,fin 10 0 _ _ 0 _ d (.inr (.inr (.inr (.inr (.inr (.inr (.inr (.inl ⟨i0,i6,i6,i6⟩)))))))) i0⟩
 ·refine(cD a 9 h3).mono ?_;rintro _ e ⟨rfl,rfl⟩;refine⟨_,i0,(cD b 70 e).mono ?_⟩;rintro _ g ⟨rfl,rfl⟩;have t:=W a 9 i5;have A:=W b 70 i5;refine⟨_,i0,?_⟩;dsimp only;rw[af (a%9-1),af (b%70-1)];exact fin 10 0 _ _ 0 _ d (.inr (.inr (.inr (.inr (.inr (.inr (.inr (.inl ⟨i0,i6,i6,i6⟩)))))))) i0
 ·refine(cD a 7 h3).mono ?_;rintro _ e ⟨rfl,rfl⟩;refine⟨_,i0,i5,(cD _ 40 e).mono ?_⟩;rintro _ g ⟨rfl,rfl⟩;refine⟨_,i0,(cD b 61 g).mono ?_⟩;rintro _ h6 ⟨rfl,rfl⟩;have S:∀z:Int,0<=qc xB z/\qc xB z<4294967296:=λz=>by rw[LV];have:=(qE 32 z).isLt;omega
  exact⟨_,i0,fin 11 _ _ _ _ _ d (.inr (.inr (.inr (.inr (.inr (.inr (.inr (.inr ⟨i0,W a 7 i5,W _ 40 i5,W b 61 i5,S _⟩)))))))) i0⟩
theorem Zx(p:Pm)(k a b:Int)(h:f8)(c:bM p=eR):aq xD 79 #[kb p,xt xz k,xt xz a,xt xz b] h λv h'=>∃(x:Ro) (m:Mv),v=mvV x/\mA p m/\Sp h h' [EA lT x m]:=
 (Wx p k a b h c).mono λ_ _ ⟨x,m,e,o,_,H⟩=>⟨x,m,e,o,H⟩
theorem Wy(p:Pm)(s:Sl)(l:aw)(most:Nat)(h:f8)(N:bM p=eR)(f:Rd h s 1 ak l)(W:most<=100):
  aq xD 34 #[kb p,s,xt xz most,xx eS] h λv h'=>∃(r:Sl) (L:List Mv),v=r/\(∀m∈L,mA p m)/\L.length<=most/\Sp h h' [ce 73 r 9 nI lT L]:=by
 refine uk p s most eS ?_;have H:=f.len;refine(Sp.refl h).boxed λw R u=>?_;have u:Sp h R [al w 26 [xt xz p.1,xt xz p.2.1,xt xz p.2.2]]:=u;have fin:∀{h':f8} (r:Sl) (L:List Mv),(∀m∈L,mA p m)->ii L<=most->Sp h h' [al w 26 [xt xz p.1,xt xz p.2.1,xt xz p.2.2],ce 73 r 9 nI lT L]->∃(j:Sl) (L:List Mv),(Value.slice r.ptr r.len r.cap)=xu j.ptr j.len j.cap/\(∀m∈L,mA p m)/\L.length<=most/\Sp h h' [ce 73 j 9 nI lT L]:=λr L n Q M=>⟨r,L,i0,n,Q,M.cu [1]⟩
 refine bc ?_;refine av (λt:Sl×List Mv=>(t.1,((3*ii t.2:Nat):Int))) (λt h'=>(∀m∈t.2,mA p m)/\t.2.length<=most/\Sp h h' [al w 26 [xt xz p.1,xt xz p.2.1,xt xz p.2.2],ce 73 t.1 9 nI lT t.2]) (λt=>most-ii t.2) (⟨eH,0,0⟩,[]) i0 ⟨i9,i9,u.DS 73 9 nI lT⟩ ?_;rintro⟨o,L⟩ K ⟨b,A,c⟩;dsimp only at b A c⊢;obtain⟨k,B⟩:∃k,k=ii L:=⟨_,rfl⟩
 rw[<-B]at A⊢;obtain⟨X,S⟩:=c.UE 1 rfl;refine bc ?_;rw[af (((3*k:Nat):Int)+2)];refine ac (λV=>?_) λ_=>fin o L b i4 c;refine ac (λY=>?_) λ_=>fin o L b i4 c;have J:3*k+2<ii l:=i4
 have O:k<most:=i4
 refine bc (bc (bA (λe=>j0) λ_=>bA (λe=>j0) λ_=>?_));have d:=f.up c.ag;obtain⟨E,F,n,_,_⟩:=f.elem (3*k) l[3*k] (qd i4);have a:∀{h':f8},Rd h' s 1 ak l->cellOf h' ((⟨E,F,eH⟩:eY).add (((3*k:Nat):Int).toNat*1))=dB (xt xz l[3*k]):=λ{h'} hr=>by
  obtain⟨T,D,g,_,u3⟩:=hr.elem (3*k) l[3*k] (qd i4);rw[n]at g;injection g with g
  injection g with g u2
  subst g;subst u2;rw[ql,add_eq];have G:=u3.1;rw[add_eq,wJ]at G;exact G
 refine⟨p,(c.box 0 i0).aP _ i0,⟨E,F,eH⟩,⟨n,i4,i4⟩,l[3*k],a d,i5,?_⟩;rw[af (((3*k:Nat):Int)+1)];refine d.bD (3*k+1) i4 i4 l[3*k+1] i0 ?_;refine d.bD (3*k+2) i4 i4 l[3*k+2] i0 ?_;refine(Zx p _ _ _ K N).mono ?_;rintro _ h3 ⟨x,m,rfl,q,I⟩;have i:=c.comp I;refine⟨x,i0,⟨a (f.up i.ag),trivial⟩,?_⟩;refine i.ne an nI eMv i0 [x] i0 (show 1*9<=2^20 by decide) j1 ⟨a (f.up i.ag),trivial⟩ ?_;refine i.rv an 1 2 i5 i0 i0 eMv i0 i5 (λ_=>rfl) afJ j1 i5 i4 λD U z=>?_;refine⟨⟨a (f.up z.ag),trivial⟩,(D,L++[m]),?_,⟨λP y=>?_,lz,z.cu [0,1]⟩,lz⟩
 ·dsimp only;rw[af (((3*k:Nat):Int)+3),qw,<-B];rfl
 ·rcases qA.1 y with h|h
  ·exact b P h
  ·rw[qB.1 h];exact q
theorem mA.put{p:Pm}{b:Mv}(h:mA p b)(a:b.kind=1):b.name∈Kl/\(ii b.data:Int)<=3*(p.1*p.2.2)+1:=by
 unfold mA at h;rw[a]at h;rcases h with h|h|h|h|h|h|h|h|h
 ·exact h.2
 ·exact absurd h.1 i5
 ·exact absurd h i5
 all_goals exact absurd h.1 i5
theorem abK:∀s∈Kl,s.size<=12:=j4
theorem aef{p:Pm}{extra:Int}{l:aw}(f:bM p=eR)(k:0<=extra/\extra<=16)(g:1<=ii l/\l.length<=24)(h:∀x∈l,1<=x/\x<=512):
  pZ p extra l=0/\bo l l.length=(qz l.length).map λi:Nat=>(i:Int):=by
 have d:∀i (a:i<ii l),1<=l.getD i 0/\l.getD i 0<=512:=λi a=>by rw[eE 0 a];exact h _ (qg a)
 have h0:bo l l.length=(qz l.length).map λi:Nat=>(i:Int):=by unfold bo;refine zZ.2 λy b=>?_;obtain⟨i,a,rfl⟩:=qu.1 b;have a:=qJ.1 a;have:=d i a;rw[ql];exact g9 i4
 refine⟨?_,h0⟩;have j:(eU l).2=eR:=by have c:l.all (fm · 0 512)=eR:=q7.2 λy b=>(kh _ _ _).2 ⟨by have:=h y b;omega,(h y b).2⟩;unfold eU;rw[f9 c,h0];simp;omega
 have e:fm extra 0 16=eR:=(kh _ _ _).2 k;have h3:((bo l l.length).any λi=>decide (l.getD i.toNat 0<(ii (bn (cE p extra l)):Int)))=eS:=by refine wL.2 λy b=>?_;rw[h0]at b;obtain⟨i,a,rfl⟩:=qu.1 b;have a:=qJ.1 a;have m:=Dq p extra l g.2;have:=d i a;rw[ql,decide_eq_true_eq];omega
 unfold pZ;rw[j,f,e,h3];rfl
theorem Zy{p:Pm}{extra:Int}{l:aw}{D:aE}{m:aC}(j:m=cE p extra l)(v:pZ p extra l=0)(w:ii l<=64)(n:ii D=64)
  (u:∀s,aX D s=if s∈bo l l.length then dB ⟨(l.getD s.toNat 0).toNat,bn m,0,[],eS,eS⟩else eH) (C:Int->aV):fM m C D/\Full m C D/\Low m D:=by
 have b:bL m=eR:=by rw[j];exact Ib w v
 have i:m.drives=bo l l.length:=by rw[j];rfl
 have o:m.aF=[]:=by rw[j];rfl
 have f:∀k d,aX D k=dB d->∀c∈d.l,c∈bn m:=λk d a c f=>by
  rw[u]at a;split at a
  ·injection a with a;subst a;exact f
  ·cases a
 refine⟨⟨b,n,λk d a c h=>Gm C b (f k d a c h),λe g=>by rw[o]at g;cases g⟩,⟨λk q=>?_,λe g=>by rw[o]at g;cases g⟩,λk d a c h r t=>?_⟩
 ·rw[i]at q;refine⟨_,by rw[u,f9 q],i0,?_⟩;unfold uE;rw[b,wA];exact q7.2 λc f=>g9 f
 ·rw[rC (f k d a c h)]at t;cases t
theorem Uk{m:aC}{i:Nat}{e:Wl.cz}(h:e∈(Io m i).aF):e∈m.aF:=by
 have h:e∈m.aF.take i++m.aF.drop (i+1):=h;rcases qA.1 h with h|h
 ·exact zD h
 ·exact List.mem_of_mem_drop h
theorem afL(m:aC)(i:Nat):(Io m i).aF=m.aF.eraseIdx i:=by show m.aF.take i++m.aF.drop (i+1)=_;rw[List.eraseIdx_eq_take_drop_succ]
theorem abL{m:aC}(d:bL m=eR)(l:m.seq<=2147483646)(i:Nat):bL (Io m i)=eR:=by
 obtain⟨j,k,h3,f,b,g,c⟩:=(cx m).1 d;obtain⟨n,a2,a3,a4⟩:=(fy m).1 j;have a:(Io m i).aF.Sublist m.aF:=by rw[afL];exact List.eraseIdx_sublist ..
 refine(cx _).2 ⟨(fy _).2 ⟨⟨?_,?_⟩,a2,a3,a4⟩,k,h3,zd a.length_le f,λe h=>?_,g.sublist a,c.sublist a⟩
 ·show 1<=m.seq+1;omega
 ·show m.seq+1<=_;omega
 ·exact(hJ _ _).2 ((hJ _ _).1 (b e (Uk h)))
structure Inv (m:aC) (C:Int->aV) (ds:aE) (N:Nat):Prop where
 sto:fM m C ds
 full:Full m C ds
 low:Low m ds
 nm:∀e∈m.aF,e.name∈Kl
 dr:m.drives≠[]
 seq:m.seq<=1+N
 nx:m.next<=N
theorem Aa(c:Nat)(x:Int)(d:0<x:=by omega):bo (qh c x) (qh c x).length=(qz c).map λi:Nat=>(i:Int):=by rw[yS];unfold bo;refine zZ.2 λy b=>?_;obtain⟨i,a,rfl⟩:=qu.1 b;have a:=qJ.1 a;simp[qe,a];omega
theorem Zz{p:Pm}{extra:Int}(f:bM p=eR)(k:0<=extra/\extra<=16)(c:Nat)(x:Int)(m:1<=c/\c<=24)(h:1<=x/\x<=512):pZ p extra (qh c x)=0:=by
 have j:(eU (qh c x)).2=eR:=by
  have a:(qh c x).all (fm · 0 512)=eR:=q7.2 λy b=>by
   rw[vC b];exact(kh _ _ _).2 ⟨i4,i4⟩
  unfold eU;rw[f9 a,Aa c x,yS];simp;omega
 have e:fm extra 0 16=eR:=(kh _ _ _).2 k;have h3:((bo (qh c x) (qh c x).length).any λi=>decide ((qh c x).getD i.toNat 0<(ii (bn (cE p extra (qh c x))):Int)))=eS:=by
  refine wL.2 λy b=>?_;rw[Aa c x]at b;obtain⟨i,d,rfl⟩:=qu.1 b;have d:=qJ.1 d;have l:=Dq p extra (qh c x) i7;have g:(qh c x).getD ((i:Int)).toNat 0=x:=by rw[ql];simp[qe,d]
  rw[g];simp;omega
 unfold pZ;rw[j,f,e,h3];rfl
structure Gr (p:Pm) (extra:Int) (c:Nat) (x:Int) (m:aC) (D:aE):Prop where
 m_eq:m=cE p extra (qh c x)
 len:ii D=64
 may:bL m=eR
 dr:m.drives=(qz c).map λi:Nat=>(i:Int)
 at_:∀s,aX D s=if s∈m.drives then dB ⟨x.toNat,bn m,0,[],eS,eS⟩else eH
theorem abM{p:Pm}{extra:Int}{c:Nat}{x:Int}(f:bM p=eR)(k:0<=extra/\extra<=16)(j:1<=c/\c<=24)(d:1<=x/\x<=512){D:aE}(a:ii D=64)
  (e:∀s,aX D s=if s∈bo (qh c x) (qh c x).length then dB ⟨((qh c x).getD s.toNat 0).toNat,bn (cE p extra (qh c x)),0,[],eS,eS⟩else eH):Gr p extra c x (cE p extra (qh c x)) D:=by
 have g:=Zz f k c x j d;refine⟨i0,a,Ib i7 g,Aa c x,λs=>?_⟩;rw[e s];show(if s∈bo _ _ then _ else eH)=(if s∈bo _ _ then _ else eH)
 by_cases h:s∈bo (qh c x) (qh c x).length
 ·rw[f9 h,f9 h];rw[Aa c x]at h;obtain⟨i,b,rfl⟩:=qu.1 h;have b:=qJ.1 b;rw[ql,eE 0 j6,List.getElem_replicate]
 ·rw[g0 h,g0 h]
theorem Gr.live{p:Pm}{extra:Int}{c:Nat}{x:Int}{m:aC}{D:aE}(F:Gr p extra c x m D):aQ D m.drives=m.drives:=zZ.2 λk a=>by
 unfold isLive;rw[F.at_ k,f9 a];rfl
theorem Gr.aF{p:Pm}{extra:Int}{c:Nat}{x:Int}{m:aC}{D:aE}(F:Gr p extra c x m D):m.aF=[]/\m.seq=1/\m.next=0/\m.p=p/\m.extra=extra:=by rw[F.m_eq];exact⟨i0,i0,i0,i0,i0⟩
variable {B:aA} {h0 h:f8} {As:List HP}
end Go.Qw
namespace Wl
open Go Go.Qw Go.Vc
end Wl
namespace Go.Qw
open Go Go.Vc Go.Proofs Wl
variable {B:aA} {h0 h:f8} {As:List HP} {a pw v:eY} {offs:Int} {da:List bm} {w:Pow} {ds:aE} {mc:ba}
end Go.Qw
namespace Wl
open Go Go.Qw Go.Vc
end Wl
namespace Go.Qw
open Go Go.Vc Go.Proofs Wl
variable {B:aA} {h0 h:f8} {As:List HP} {a pw v:eY} {offs:Int} {da:List bm} {w:Pow} {ds:aE} {mc:ba}
end Go.Qw
namespace Wl
open Go Go.Qw Go.Vc
end Wl
namespace Go.Qw
open Go Go.Vc Go.Proofs Wl
variable {B:aA} {h0 h:f8} {As:List HP} {a pw v:eY} {offs:Int} {da:List bm} {w:Pow} {ds:aE} {mc:ba}
end Go.Qw
namespace Wl
open Go Go.Qw Go.Vc
def rI(m:aC)(offs:Int)(w:Pow)(ds:aE)(slot:Int):Int×aE:=
 if fd w offs then(14,ds)else if slot∉aQ ds m.drives then(5,ds)else
 match aX ds slot with
 |some d=>(0,bK ds slot d.BM)
 |none=>(5,ds)
end Wl
namespace Go.Qw
open Go Go.Vc Go.Proofs Wl
variable {B:aA} {h0 h:f8} {As:List HP} {a pw:eY} {offs:Int} {da:List bm} {w:Pow} {ds:aE} {m:aC}
theorem abN(slot:Int)(j:bL m=eR)(H:aa B h0 h (bu a pw da offs w ds m::As)):
  aq xD 45 #[xv (dB a),xt xz slot] h λv h'=>v=xt xz (rI m offs w ds slot).1/\aa B h0 h' (bu a pw da offs w (rI m offs w ds slot).2 m::As):=by
 obtain⟨x,H⟩:=gK H;by_cases i:fd w offs=eR∨slot∉aQ ds m.drives
 ·refine(QH slot x m (H.at 1 i0) (kl j) H i).mono ?_;rintro _ h' ⟨rfl,R⟩;by_cases b:fd w offs=eR
  ·have e:rI m offs w ds slot=(14,ds):=by unfold rI;rw[f9 b]
   rw[e,f9 b];exact⟨i0,kP (H.up R.ag)⟩
  ·have g:slot∉aQ ds m.drives:=i.resolve_left b;have e:rI m offs w ds slot=(5,ds):=by unfold rI;rw[g0 b,f9 g]
   rw[e,g0 b];exact⟨i0,kP (H.up R.ag)⟩
 ·have b:¬fd w offs=eR:=λh=>i (.inl h);have g:¬slot∉aQ ds m.drives:=λh=>i (.inr h);have f:slot∈aQ ds m.drives:=Decidable.not_not.1 g;obtain⟨q,d,c,h3⟩:=jh f;obtain⟨n,rfl,p⟩:=kD c;have l:ds[n]?=dB (dB d):=by
   unfold aX at c;rw[f9 i4,ql]at c;cases hX:ds[n]? with
   |none=>rw[hX]at c;cases c
   |some o=>rw[hX]at c;exact congrArg dB c
  refine(SL n x m (H.at 1 i0) (kl j) H j6 f l).mono ?_;rintro _ h' ⟨rfl,k⟩;have e:rI m offs w ds (n:Int)=(0,ds.set n (dB d.BM)):=by unfold rI;rw[g0 b,g0 g,c];simp only[bK,ql]
  rw[e];exact⟨i0,kP k⟩
end Go.Qw
namespace Wl
open Go Go.Qw Go.Vc
def Og(a:Int)(k:Nat):UInt8:=b8 (qZ a (2^(8*k)))
def fw(c:aV)(at_:Nat)(a:Int):Nat->aV
 |0=>c
 |k+1=>(fw c at_ a k).set (at_+k) ((fw c at_ a k).getD (at_+k) 0^^^Og a k)
def Ab(c:aV)(at_:Int)(a:Int):aV:=fw c at_.toNat a 4
theorem Ac(c:aV)(a:Nat)(b:Int):∀k,ii (fw c a b k)=ii c
 |0=>rfl
 |k+1=>by unfold fw;rw[zl];exact Ac c a b k
def BB(d:bj)(i at_ a:Int):Bool:=decide ((0<=i/\i<(ii d.l:Int))/\(0<=at_/\at_<=60)/\a≠0)
def bj.kY(d:bj)(i at_ a:Int):bj:=if BB d i at_ a then{d with l:=d.l.set i.toNat (Ab (d.l.getD i.toNat []) at_ a)}else d
end Wl
namespace Go.Vc
theorem Rp{α:Type}{e k:Nat}{f:α->ba}{rs:List Sl}{b:List (List α)}(h:ii rs=ii b)(n:Nat)(d:n<ii b)(x:List α):bB e k f rs (b.set n x)=(bB e k f rs b).set n (ae e (rs[n]'(by omega)) k f x):=by
 apply List.ext_getElem?;intro j;by_cases c:j<ii b
 ·rw[fV (by rw[zl];exact h) j (by rw[zl];exact c)];by_cases a:n=j
  ·subst a;rw[List.getElem?_set_self (by rw[mf h];exact d),yq]
  ·rw[List.getElem?_set_ne a,fV h j c,List.getElem_set_ne a]
 ·rw[qP (by rw[mf (by rw[zl];exact h),zl];omega),qP (by rw[zl,mf h];omega)]
end Go.Vc
namespace Go.Qw
open Go Go.Vc Go.Proofs Wl
variable {B:aA} {h0 h:f8} {As:List HP} {a pw:eY} {d:bj}
theorem Wz(i at_ f:Int)(hm:0<=f/\f<2^32)(H:aa B h0 h (iU pw a d::As)):
  aq xD 44 #[xv (dB a),xt xz i,xt xz at_,xt xB f] h λv h'=>v=xx (BB d i at_ f)/\aa B h0 h' (iU pw a (d.kY i at_ f)::As):=by
 refine AX (dB a) i at_ f ?_;obtain⟨ok,s,t,K⟩:=aa.oX H;have W:=(aa.sa (K.aT 2 [1,0])).1;have V:=K.box 0 i0;have A:BB d i at_ f=eS->(Value.bool eS=xx (BB d i at_ f)/\aa B h0 h (iU pw a (d.kY i at_ f)::As)):=λe=>by
  unfold bj.kY;rw[e];exact⟨i0,H⟩
 have g:¬((0<=i/\i<(ii d.l:Int))/\(0<=at_/\at_<=60)/\f≠0)->BB d i at_ f=eS:=λh=>hU h;refine bc (bA (λe=>j0) λ_=>ac (λe=>A (g i4)) λe1=>⟨a,i0,s,V.cell i0,ac (λe=>A (g i4)) λe2=>ac (λe=>A (g i4)) λe3=>ac (λe=>A (g i4)) λe4=>cy (λe=>A (g i4)) λY=>?_⟩);have hi:0<=i/\i<(ii d.l:Int):=i4
 have o:BB d i at_ f=eR:=g9 ⟨hi,⟨i4,i4⟩,Y⟩;obtain⟨n,rfl⟩:∃n:Nat,i=n:=⟨i.toNat,i4⟩
 obtain⟨p,rfl⟩:∃p:Nat,at_=p:=⟨at_.toNat,i4⟩
 have T:n<ii d.l:=i4
 have D:d.l[n].length=64:=ok.cell _ (qg T);obtain⟨c,J⟩:∃c,c=d.l[n]:=⟨_,rfl⟩
 have U:aa B h0 h (dg 71 s 5 1 aD (d.l.set n (fw c p f 0))::al a 119 (fz pw d s t)::fG t d.laid::As):=by
  have e:d.l.set n (fw c p f 0)=d.l:=by show d.l.set n c=d.l;rw[J];exact List.set_getElem_self _
  rw[e];exact K.aT 3 [1,0,2]
 refine av (λk:Nat=>(k:Int)) (λk h'=>k<=4/\aa B h0 h' (dg 71 s 5 1 aD (d.l.set n (fw c p f k))::al a 119 (fz pw d s t)::fG t d.laid::As)) (λk=>4-k) 0 i0 ⟨i4,U⟩ ?_;rintro k h3 ⟨hk,I⟩;dsimp only;refine ac (λe=>?_) λe=>?_
 ·have w:k<4:=i4
  have N:=I.box 1 i0;obtain⟨rs,j,G⟩:=I.BL;have P:=(I.sa).1;have Z:ii (d.l.set n (fw c p f k))=ii d.l:=zl;have m:n<ii (d.l.set n (fw c p f k)):=i4
  have u:(bB 5 1 aD rs (d.l.set n (fw c p f k)))[n]?=dB (ae 5 (rs[n]'(by omega)) 1 aD (fw c p f k)):=by rw[fV j n m,yq]
  have q:((ae 71 s 1 bp rs::bB 5 1 aD rs (d.l.set n (fw c p f k)))++(al a 119 (fz pw d s t)::fG t d.laid::As))[n+1]?=dB (ae 5 (rs[n]'(by omega)) 1 aD (fw c p f k)):=by rw[zB,qy,List.getElem?_append_left (by rw[mf j];exact m)];exact u
  have X:ii (fw c p f k)=64:=by rw[Ac,J];exact D
  have S:=G.own (n+1) q;refine⟨a,i0,s,N.cell i0,?_⟩;have M:=G.seq 0 i0 λ_=>rfl;refine M.lK n i0 i4 ?_;obtain⟨z,R⟩:∃z,z=(fw c p f k)[p+k]'(by omega):=⟨_,rfl⟩
  have L:qc xz ((p:Int)+(k:Int))=((p+k:Nat):Int):=j3
  rw[L];have E:Vc.Seq h3 (λb=>b<h3.size) (rs[n]'(by omega)) 1 aD (fw c p f k):=G.seq (n+1) q λ_=>rfl;refine E.bD (p+k) i0 i4 (z.toNat:Int) (by rw[R];rfl) ?_;refine⟨j3,?_⟩;have y:min (qc xz ((8:Int)*(k:Int))).toNat (qk xB)=8*k:=by rw[af _];show min ((8:Int)*k).toNat 32=8*k;omega
  rw[y,ez (qZ f (2^(8*k)))];have O:=mV z (b8 (qZ f (2^(8*k))));rw[O];refine G.set an (n+1) q (λ_=>rfl) i0 (p+k) i0 i4 (z^^^Og f k) i0 i0 i0 λh5 Q=>⟨trivial,?_⟩
  refine⟨k+1,js,⟨i4,?_⟩,i4⟩;have r:fw c p f (k+1)=(fw c p f k).set (p+k) (z^^^Og f k):=by show(fw c p f k).set (p+k) ((fw c p f k).getD (p+k) 0^^^Og f k)=_;rw[eE 0,R]
  refine aa.DW (rs:=rs) (by rw[zl];omega) ?_;have e:bB 5 1 aD rs (d.l.set n (fw c p f (k+1)))=(bB 5 1 aD rs (d.l.set n (fw c p f k))).set n (ae 5 (rs[n]'(by omega)) 1 aD (fw c p f (k+1))):=by rw[<-Rp j n m,yz]
  rw[e,r];rw[zB,zA,List.set_append_left _ _ (by rw[mf j];exact m)]at Q;exact Q
 ·have w:k=4:=i4
  subst w;have F:d.kY (n:Int) (p:Int) f={d with l:=d.l.set n (fw c p f 4)}:=by unfold bj.kY;rw[o,f9 i0,ql,eE [] T,<-J];rfl
  refine⟨by rw[o],?_⟩;rw[F];refine aa.ut (s:=s) (b:=t) ⟨by show d.wait<=_;rw[zl];exact ok.wait,by show(d.l.set n _).length<=_;rw[zl];exact ok.len,ok.room,λx O=>?_,ok.laid,ok.cellL⟩ (I.aT 3 [1,0,2]);rcases zU O with h|rfl
  ·exact ok.cell x h
  ·rw[Ac,J];exact D
variable {offs:Int} {da:List bm} {w:Pow} {ds:aE} {m:aC}
end Go.Qw
