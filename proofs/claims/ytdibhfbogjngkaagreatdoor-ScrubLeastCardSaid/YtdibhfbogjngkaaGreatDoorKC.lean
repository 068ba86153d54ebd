/- Lemmas for the proof of the law; no condition. -/
import Derived.Test.YtdibhfbogjngkaaGreatDoorKB
set_option linter.unusedVariables false
set_option maxHeartbeats 4000000
set_option linter.unusedSimpArgs false
open Go.Proofs.Tryz renaming prog -> xm
open Go.Value renaming agg -> xh, bool -> xg, int -> xb, pointer -> xd, slice -> xc, string -> xf
open Go.IntKind renaming bits -> qk, i64 -> xi, u32 -> xk, u8 -> xj, wrap -> qc
open Nat renaming le_of_ble_eq_true -> zJ
open List renaming drop -> xa, drop_length -> yg, eq_replicate_iff -> vF, getElem_set_self -> y9, map_set -> vO, not_mem_nil -> vJ, range' -> zM, replicate -> qg, replicate_zero -> vk, zipWith -> zh
open Option renaming some -> zS
open Bool renaming and_eq_false_iff -> va, eq_iff_iff -> vq
open Go.Instr renaming makeSlice -> qG, storeAt -> qf
open BitVec renaming ofInt -> qF
open Prod renaming fst -> qM
set_option maxRecDepth 100000
open Option renaming some -> dB, none -> eH
open Bool renaming true -> eR, false -> eS
open Go renaming Addr -> hU
open Go.Vc renaming cellOf -> hY, Heap -> hZ
open List renaming length -> j9
namespace Go.Qw
open Go Go.Vc Go.Proofs Wl
section
variable {B:aB} {h0 h:hZ} {As:List HP} {a pw b:hU} {mc:ba} {offs:Int} {da:List aQ} {w:Pow} {ds:aF} {d:bp}
def jZ(a cells:Int):Bool:=decide ((0<=a/\a<64)/\1<=cells/\cells<=512)
end
end Go.Qw
namespace Go.Vc
open Go Wl
section
variable {k:Kit} {B:aB} {h0 h:hZ} {As:List HP} {a pw b:hU} {mc:ba} {offs:Int} {da:List aQ} {w:Pow} {ds:aF} {d:bp} {n:Nat}
end
end Go.Vc
namespace Go.Qw
open Go Go.Vc Go.Proofs Wl
section
variable {B:aB} {h0 h:hZ} {As:List HP} {a pw b:hU} {offs:Int} {da:List aQ} {w:Pow} {ds:aF} {d:bp}
end
section
variable {B:aB} {h0 h:hZ} {As:List HP} {a pw:hU} {offs:Int} {da:List aQ} {w:Pow} {ds:aF} {mc:ba}
theorem TY{k:Int}{d:bp}(e:aW ds k=dB d)(H:aa B h0 h (bJ cm a pw mc offs da w ds::As)):∃(b:hU) (s f:Sl),kd da k=dB b/\cA h b 156 (iF pw d s f)/\fZ h s 1 aD d.l/\gQ d:=by
 obtain⟨ok,_⟩:=aa.dP H;rcases oP ok k with⟨h1,_⟩|⟨n,d',b,rfl,hn,h1,h2,h3,h4⟩
 ·rw[h1]at e;cases e
 ·rw[h2]at e;injection e with e
  subst e;obtain⟨m,c,j⟩:=Go.Vc.aa.kP H h1;rw[h3]at c;injection c with c
  injection c with c
  subst c;obtain⟨g,s,f,i⟩:=aa.vE j;exact⟨b,s,f,h4,i.box 0 k0,(i.bc 2 [1,0]).Gj λ_=>rfl,g⟩
theorem TZ{k:Int}(H:aa B h0 h (bJ cm a pw mc offs da w ds::As)):ab xm 35 #[xd (dB a),xb xi k] h λv h'=>v=.pointer (kd da k)/\h'=h:=by obtain⟨ok,b⟩:=aa.dP H;exact ov k ok b
end
theorem ahQ{order:au}(a:order≠[])(id:Nat):dK order id=order[id%j9 order]'(yt _ (by cases order with|nil=>exact absurd rfl a|cons=>simp)):=by
 have c:0<j9 order:=by cases order with|nil=>exact absurd rfl a|cons=>simp
 have b:=yt id c;unfold dK IV;rw[j3 (by rintro(h|h);exact a h;omega)];have e:((id:Int)%(j9 order:Int)).toNat=id%j9 order:=k4
 rw[e,qe,qd b];rfl
def Dz(a b c:Int):Int×Int×Int:=(1+a%6,1+b%3,1+c%9)
theorem YB(a b c:Int)(h:hZ):ab xm 37 #[xb xi a,xb xi b,xb xi c] h λv h'=>v=lN (Dz a b c)/\Sp h h' []:=by refine xY a b c ?_;unfold og;refine(Sp.refl h).alloc ac k0 λx g e=>?_;refine(fT a 6 g k6 k6).mono ?_;rintro v f ⟨rfl,rfl⟩;refine⟨_,k0,(fT b 3 f k6 k6).mono ?_⟩;rintro v h3 ⟨rfl,rfl⟩;refine⟨_,k0,(fT c 9 h3 k6 k6).mono ?_⟩;rintro v i ⟨rfl,rfl⟩;refine⟨_,k0,?_⟩;dsimp only;rw[ag _,ag _,ag _];refine e.storeAll ac 0 k0 k0 [xb xi (1+a%6),xb xi (1+b%3),xb xi (1+c%9)] k0 k0 k0 k0 λj d=>?_;exact⟨Dz a b c,(d.box 0 k0).aS _ k0,k0,.zip d.aj⟩
theorem abg(a b c:Int):bH (Dz a b c)=eR:=by rw[bZ];unfold Dz;dsimp only;omega
theorem VE(m n:aE):cS m (bs n)=[]:=by unfold cS;rw[XL];simp[pL]
def bL(a pw:hU)(b:List aQ)(offs:Int)(w:Pow)(ds:aF)(m:aE):HP:=HP.ex λx:cw=>(bJ cm a pw (bn x) offs b w ds).sep (dC x m)
section
variable {B:aB} {h0 h:hZ} {As:List HP} {a pw:hU} {offs:Int} {da:List aQ} {w:Pow} {ds:aF} {m:aE}
theorem jo(H:aa B h0 h (bL a pw da offs w ds m::As)):∃x,aa B h0 h (bJ cm a pw (bn x) offs da w ds::dC x m::As):=by obtain⟨x,H⟩:=H.sK;exact⟨x,H.sZ.nZ⟩
theorem AE{x:cw}(H:aa B h0 h (bJ cm a pw (bn x) offs da w ds::dC x m::As)):aa B h0 h (bL a pw da offs w ds m::As):=
 aa.xI (F:=λx:cw=>(bJ cm a pw (bn x) offs da w ds).sep (dC x m)) x H.nZ.mb
end
section
variable {B:aB} {h0 h:hZ} {As:List HP} {a pw:hU} {offs:Int} {da:List aQ} {w:Pow} {ds:aF} {m:aE}
theorem ry(H:aa B h0 h (bL a pw da offs w ds m::As)):j9 ds=64/\∀k d,aW ds k=dB d->j9 d.l<=d.room/\d.room<=512/\gQ d:=by obtain⟨x,H⟩:=jo H;obtain⟨ok,_⟩:=aa.dP H;refine⟨ok.ls,λk d e=>?_⟩;obtain⟨b,s,f,_,_,_,c⟩:=TY e H;exact⟨c.len,c.room,c⟩
theorem Nf(p:Pm)(extra:Int)(s:Sl)(l:au)(c:St B h0 As λh=>Rd h s 1 aq l)(e:j9 l<=64)(d:sB p extra l=0)(f:w=Pow.new)(H:aa B h0 h (eE 92 pw w::As)):
  ab xm 8 #[lN p,xb xi extra,xd (dB pw),s] h λv h'=>∃(a:hU) (da:List aQ) (D:aF),v=.tuple #[xd (dB a),xb xi 0]/\D.length=64/\
   (∀s,aW D s=if s∈bm l l.length then dB ⟨(l.getD s.toNat 0).toNat,bs (co p extra l),0,[],eS,eS⟩else eH)/\aa B h0 h' (bL a pw da 0 Pow.new D (co p extra l)::As):=by
 subst f;obtain⟨D,j,g,i⟩:=abe (p:=p) (extra:=extra) (l:=l) e d;refine(Vw p extra s l c k4 H).mono ?_;rintro _ h' ⟨_,b⟩;rw[j]at b;obtain⟨a,y,da,rfl,k⟩:=b rfl;exact⟨a,da,D,k0,g,i,AE k⟩
theorem agm(name:ByteArray)(s:Sl)(b:aY)(g:St B h0 As λh=>Rd h s 1 aD b)(e:s.len<=s.cap)(f:name.size<=2^40)(c:bV m=eR)(d:j9 b<=2^20)(H:aa B h0 h (bL a pw da offs w ds m::As)):
  ab xm 10 #[xd (dB a),xf name,s] h λv h'=>v=xb xi (gW m offs w ds name b).1/\
   aa B h0 h' (bL a pw da offs (gW m offs w ds name b).2.2.1 (gW m offs w ds name b).2.2.2 (gW m offs w ds name b).2.1::As):=by
 obtain⟨x,H⟩:=jo H;obtain⟨l,n,k,j⟩:=(fB m).1 ((cM m).1 c).1;refine(adK x m name s b g e f (pC c) k j (od c) (nh c) k4 k4 d H).mono ?_;rintro _ h' ⟨rfl,y,i⟩;exact⟨k0,AE i⟩
theorem Ua(b:bV m=eR)(H:aa B h0 h (bL a pw da offs w ds m::As)):
  ab xm 25 #[xd (dB a)] h λv h'=>∃r:Sl,v=r/\Sp h h' [al 3 r 1 aq (be ds m.drives)]:=by
 obtain⟨x,H⟩:=jo H;exact iS x m (H.at 1 k0) (pC b) H
theorem KY(b:bV m=eR)(H:aa B h0 h (bL a pw da offs w ds m::As)):
  ab xm 16 #[xd (dB a)] h λv h'=>∃y:cw,v=ge y/\Sp h h' [dC y m]:=by
 obtain⟨x,H⟩:=jo H;exact OF x m (H.at 1 k0) (pC b) H
theorem PW(k:Int)(H:aa B h0 h (bL a pw da offs w ds m::As)):ab xm 35 #[xd (dB a),xb xi k] h λv h'=>v=.pointer (kd da k)/\h'=h:=by obtain⟨x,H⟩:=jo H;exact TZ H
theorem WV{k:Int}{d:bp}(c:aW ds k=dB d)(H:aa B h0 h (bL a pw da offs w ds m::As)):∃b,kd da k=dB b:=by obtain⟨x,H⟩:=jo H;obtain⟨b,_,_,e,_⟩:=TY c H;exact⟨b,e⟩
theorem Ub{k:Int}{d:bp}{b:hU}(j:aW ds k=dB d)(i:kd da k=dB b)(H:aa B h0 h (bL a pw da offs w ds m::As)):∃s e:Sl,cA h b 156 (iF pw d s e)/\fZ h s 1 aD d.l/\gQ d:=by
 obtain⟨x,H⟩:=jo H;obtain⟨o,s,e,c,g,f,n⟩:=TY j H;rw[i]at c;injection c with c
 subst c;exact⟨s,e,g,f,n⟩
theorem PX(o b:Int)(e:bV m=eR)(H:aa B h0 h (bL a pw da offs w ds m::As)):
  ab xm 18 #[xd (dB a),xb xi o,xb xi b] h λv h'=>∃r:Sl,v=r/\Sp h h' [dh 22 r 3 1 aq (cv m ds o b (be ds m.drives))]:=by
 have c:=(ry H).2;obtain⟨x,H⟩:=jo H;exact Yv x m o b (H.at 1 k0) (pC e) (nh e) (λk d f=>by have:=c k d f;omega) H
theorem Uc(H:aa B h0 h (bL a pw da offs w ds m::As)):ab xm 57 #[xd (dB a)] h λv h'=>v=xg (gT w offs)/\h'=h:=by obtain⟨x,H⟩:=jo H;exact Ds H
end
end Go.Qw
namespace Wl
open Go Go.Qw Go.Vc
def cO(m:aE):au->Pow->aF->Int×Pow×aF
 |[],w,ds=>(0,w,ds)
 |k::l,w,ds=>match aW ds k with
  |none=>cO m l w ds
  |some d=>if d.l=bM m d.l then cO m l w ds else
   if(d.rewrite w (bM m d.l)).1=0 then cO m l (d.rewrite w (bM m d.l)).2.1 (bT ds k (d.rewrite w (bM m d.l)).2.2)
   else((d.rewrite w (bM m d.l)).1,(d.rewrite w (bM m d.l)).2.1,bT ds k (d.rewrite w (bM m d.l)).2.2)
theorem KZ{m:aE}{w:Pow}{ds:aF}:∀{l:au},(∀k∈l,∀d,aW ds k=dB d->d.l=bM m d.l)->cO m l w ds=(0,w,ds)
 |[],_=>rfl
 |k::l,h=>by
  unfold cO;cases hd:aW ds k with
  |none=>exact KZ λj a=>h j (qC _ a)
  |some d=>
   dsimp only;rw[j1 (h k List.mem_cons_self d hd)];exact KZ λj a=>h j (qC _ a)
end Wl
namespace Go.Qw
open Go Go.Vc Go.Proofs Wl
theorem VF(a b:Sl)(c f:cC)(h:hZ)(o:fZ h a 1 aD c)(p:fZ h b 1 aD f)(x:j9 c<=2^30):
  ab xm 124 #[a,b,.func (.func 99) #[] #[]] h λv h'=>v=xg (decide (c=f))/\h'=h:=by
 refine lr a b (99,#[],#[]) ?_;unfold gX;have k:=o.len;have n:=p.len;refine bR (λe=>⟨?_,k0⟩) λe=>?_
 ·rw[j7 λh=>e (by rw[k,n,h])]
 have q:j9 c=j9 f:=k4
 refine aw (λi:Nat=>(i:Int)) (λi h'=>i<=j9 c/\c.take i=f.take i/\h'=h) (λi=>j9 c-i) 0 k0 ⟨k4,k9,k0⟩ ?_;rintro i u ⟨y,m,rfl⟩;refine ai (λg=>?_) (λg=>?_)
 ·have d:i<j9 c:=by have s:(i:Int)<(a.len:Int):=g;omega
  refine o.get i k0 d λr w=>p.get i k0 k4 λt l=>fq m7 ?_;refine(Am r t _ _ u w l).mono ?_;rintro _ _ ⟨rfl,rfl⟩;refine⟨_,k0,bj (λj=>⟨?_,k0⟩) λj=>?_⟩
  ·rw[j7 λh=>of_decide_eq_false j (by simp only[h])]
  ·refine⟨i+1,ld,⟨k4,?_,k0⟩,k4⟩;rw[aH _ _ d,aH _ _ (show i<j9 f by omega),m,j8 j]
 ·have s:¬(i:Int)<(a.len:Int):=g;rw[qi k4,qi k4]at m;exact⟨by rw[j6 m],k0⟩
abbrev cT(a:hU)(y:cw)(b:Sl)(t most k:Int):ba:=xd (dB a)::(bn y++[xc b.ptr b.len b.cap,xb xi t,xb xi most,xb xi k])
section
variable {B:aB} {h0 h:hZ} {As:List HP} {a pw:hU} {offs:Int} {da:List aQ} {w:Pow} {ds:aF} {m:aE}
theorem VG{k:Int}{d:bp}{b:hU}(x:Sl)(l:cC)(r:St B h0 As λh=>fZ h x 1 aD l)(t:j9 l<=2^20)(p:∀c∈l,j9 c<=2^20)(f:aW ds k=dB d)(j:kd da k=dB b)(H:aa B h0 h (bL a pw da offs w ds m::As)):
  ab xm 125 #[xd (dB b),x] h λv h'=>v=xb xi (d.rewrite w l).1/\aa B h0 h' (bL a pw da offs (d.rewrite w l).2.1 (bT ds k (d.rewrite w l).2.2) m::As):=by
 obtain⟨y,H⟩:=jo H;obtain⟨ok,_⟩:=aa.dP H;obtain⟨n,rfl,E⟩:=ma f;have A:ds[n]?=dB (dB d):=by
  unfold aW at f;rw[j1 k4,qn]at f;cases hX:ds[n]? with
  |none=>rw[hX]at f;cases f
  |some o=>rw[hX]at f;exact congrArg dB f
 obtain⟨D,g,u⟩:=Go.Vc.aa.kP H A;have i:D=b:=by unfold kd at j;rw[j1 k4,qn,g]at j;injection j
 subst i;refine(HJ x l u (λBs h' s=>(r.cons.cons) Bs h' s) t p).mono ?_;rintro _ h' ⟨rfl,q⟩;have z:=Go.Vc.aa.Ao (k:=cm) (n:=n) g q;refine⟨k0,?_⟩;have e:bT ds (n:Int) (d.rewrite w l).2.2=ds.set n (dB (d.rewrite w l).2.2):=by simp only[bT,qn]
 rw[e];exact AE z
theorem QX{m:aE}{l:cC}(b:dO m)(d:j9 l<=512):j9 (bM m l)<=4000/\∀c∈bM m l,j9 c<=64:=by
 refine⟨?_,λc a=>?_⟩
 ·have:=lZ m b;have:=wf m l;unfold bM;rw[qy];omega
 ·unfold bM at a;rcases qA.1 a with a|a
  ·exact Nat.le_of_eq (uQ a)
  ·exact JS a
theorem Ng{c:hU}(y:cw)(N:Sl)(live:au)(t most k:Int)(hm:bV m=eR)(hl:j9 live<=64)(u:∀k∈live,∃d,aW ds k=dB d)
  (U:St B h0 As λh=>cA h c 109 (cT a y N t most k)/\dV h y m/\Rd h N 1 aq live) (H:aa B h0 h (bL a pw da offs w ds m::As)):
  ab xm 59 #[xd (dB c)] h λv h'=>v=xb xi (cO m live w ds).1/\aa B h0 h' (bL a pw da offs (cO m live w ds).2.1 (cO m live w ds).2.2 m::As):=by
 refine xZ (dB c) ?_;unfold oh;have hz:=pC hm;have x:=U.at [_] H;have W:=x.2.2.len;refine⟨c,k0,N,x.1.cell k0,?_⟩;refine aw (λt:Nat×Pow×aF=>(t.1:Int)) (λt h'=>t.1<=j9 live/\(∀k∈live,∃d,aW t.2.2 k=dB d)/\cO m live w ds=cO m (live.drop t.1) t.2.1 t.2.2/\aa B h0 h' (bL a pw da offs t.2.1 t.2.2 m::As)) (λt=>j9 live-t.1) (0,w,ds) k0 ⟨k4,u,k0,H⟩ ?_;rintro⟨i,o,g⟩ h1 ⟨hi,f,n,p⟩;dsimp only at hi f n p⊢;obtain⟨D,hy,M⟩:=U.at [_] p;refine ai (λe=>?_) λe=>?_
 ·have r:i<j9 live:=k4
  obtain⟨d,q⟩:=f live[i] (qh r);obtain⟨b,K⟩:=WV q p;refine M.bC i k0 r live[i] k0 ⟨c,k0,dB a,D.cell0 k0,(PW _ p).mono ?_⟩;rintro _ h2 ⟨rfl,rfl⟩;rw[K];obtain⟨s,V,L,X,I⟩:=Ub q K p;have ad:=I.len;have O:=I.room;obtain⟨k1,k2⟩:=QX hz (show d.l.length<=512 by omega);refine⟨_,k0,c,k0,y,D.cells 1 _ k0,(HK s V y m L X I hy hz).mono ?_⟩;rintro _ h3 ⟨j,rfl,G⟩;refine⟨j,k0,(Tj s V (L.aj G.aj L.lt) (X.up G.aj) I).mono ?_⟩;rintro _ Z ⟨z,rfl,Q⟩;have R:fZ Z j 1 aD (bM m d.l):=(G.Gj λ_=>rfl).up Q.aj;refine⟨z,k0,(VF z j _ _ Z (Q.Gj λ_=>rfl) R k4).mono ?_⟩;rintro _ h5 ⟨rfl,rfl⟩;have J:live.drop i=live[i]::live.drop (i+1):=qP r;have Y:=(p.ck G).up Q.aj;refine⟨_,k0,ai (λF=>?_) λF=>?_⟩
  ·refine⟨(i+1,o,g),lb,⟨k7,f,?_,Y.bc 1 []⟩,k7⟩;rw[n,J];show cO m (live[i]::live.drop (i+1)) o g=cO m (live.drop (i+1)) o g;rw[cO,q];dsimp only;rw[j1 F]
  ·obtain⟨rs,T⟩:=Y.ads λ_=>rfl;have T:aa B h0 h5 (bL a pw da offs o g m::dg (cF 1 aD) 1 bo j rs (bM m d.l)::As):=T.bc 2 [1,0];refine(VG j (bM m d.l) (St.fw (A:=dg (cF 1 aD) 1 bo j rs (bM m d.l)) 0 k0 λh' S=>⟨rs,S.1,S.2.1,S.2.2⟩) k4 (λc hc=>by have:=k2 c hc;omega) q K T).mono ?_;rintro _ h6 ⟨rfl,E⟩;have E:=E.bc 2 [0];refine⟨_,k0,bR (λP=>?_) λP=>?_⟩
   ·have ec:cO m live w ds=((d.rewrite o (bM m d.l)).1,(d.rewrite o (bM m d.l)).2.1,bT g live[i] (d.rewrite o (bM m d.l)).2.2):=by rw[n,J,cO,q];dsimp only;rw[j3 F,j3 P]
    rw[ec];exact⟨k0,E⟩
   ·refine⟨(i+1,(d.rewrite o (bM m d.l)).2.1,bT g live[i] (d.rewrite o (bM m d.l)).2.2),lb,⟨k7,λk hk=>?_,?_,E⟩,k7⟩
    ·dsimp only;rw[gH (ry p).1 q];split
     ·exact⟨_,k0⟩
     ·exact f k hk
    ·dsimp only;rw[n,J,cO,q];dsimp only;rw[j3 F,j1 (by simpa using P)]
 ·have:i=j9 live:=k4
  subst this;rw[yg]at n;rw[n];exact⟨k0,p⟩
end
def ints(l:List Nat):au:=l.map λx:Nat=>(x:Int)
theorem lj(l:List Nat):j9 (ints l)=j9 l:=by simp[ints]
theorem La{l:List Nat}{k:Nat}(h:k<j9 l):(ints l)[k]'(by rw[lj];exact h)=(l[k]:Int):=by simp[ints]
theorem WW{n:Nat}:∀{j i:Nat},i<=j->2*j<=n->ch n i<=ch n j
 |0,i,h,_=>by
   have:i=0:=k4
   subst this;exact ql _
 |j+1,i,h,hj=>by
  by_cases a:i=j+1
  ·subst a;exact ql _
  ·exact zf (WW k4 k4) (aim k4)
theorem DA(n t:Int)(h:hZ):ab xm 122 #[xb xi n,xb xi t] h λv h'=>v=xg (decide (0<=n/\n<=64/\0<=t/\t<=n))/\h'=h:=by
 refine Og n t ?_;unfold GS;refine ai (λb=>ai (λa=>ai (λh3=>⟨?_,k0⟩) λh3=>⟨?_,k0⟩) λa=>⟨?_,k0⟩) (λb=>⟨?_,k0⟩)
 ·congr 1;exact decide_eq_decide.2 k4
 ·rw[j7 k4]
 ·rw[j7 k4]
 ·rw[j7 k4]
theorem sD(n t:Int)(h:hZ)(A:-(2^62)<=n/\n<=2^62)(E:-(2^62)<=t/\t<=2^62):ab xm 58 #[xb xi n,xb xi t] h λv h'=>v=xb xi (gw n t)/\h'=h:=by
 refine Od n t ?_;unfold GO;refine(DA n t h).mono ?_;rintro v x ⟨rfl,rfl⟩;refine⟨_,k0,bj (λe=>?_) λe=>?_⟩
 ·have e:=of_decide_eq_false e;unfold gw;rw[j3 e];exact⟨k0,k0⟩
 ·have e:=j8 e;obtain⟨N,rfl⟩:∃N:Nat,n=N:=⟨n.toNat,k4⟩
  obtain⟨T,rfl⟩:∃T:Nat,t=T:=⟨t.toNat,k4⟩
  have o:gw N T=((min (ch N T) 4097:Nat):Int):=by unfold gw;rw[j1 e];rfl
  rw[o];obtain⟨m,s⟩:∃m,m=min T (N-T):=⟨_,rfl⟩
  have f:ch N m=ch N T:=by
   rw[s];rcases Nat.le_total T (N-T)with b|b
   ·rw[Nat.min_eq_left b]
   ·rw[Nat.min_eq_right b,<-Ss N T k4]
  have a:(if qc xi ((N:Int)-T)<(T:Int)then qc xi ((N:Int)-T)else(T:Int))=(m:Int):=by rw[ag _];split<;>omega
  rw[a];refine aw (λi:Nat=>(((ch N i:Nat):Int),(i:Int))) (λi h'=>h'=x/\i<=m/\ch N i<=4096) (λi=>m-i) 0 (by rw[nD];rfl) ⟨k0,k4,by rw[nD];omega⟩ ?_;rintro i b ⟨rfl,D,d⟩;dsimp only;refine ai (λl=>?_) (λl=>?_)
  ·have p:i<m:=k4
   have B:N<=64:=k4
   have c:=WF (n:=N) (k:=i) k4;have g:ch N i*(N-i)<=4096*64:=Nat.mul_le_mul d k4;have w:qc xi ((N:Int)-i)=((N-i:Nat):Int):=l5
   have u:qc xi (((ch N i:Nat):Int)*((N-i:Nat):Int))=((ch N i*(N-i):Nat):Int):=by rw[<-Int.natCast_mul,ag _]
   have r:qc xi ((i:Int)+1)=((i+1:Nat):Int):=ld
   have z:Int.tdiv ((ch N i*(N-i):Nat):Int) ((i+1:Nat):Int)=((ch N (i+1):Nat):Int):=by rw[<-c,<-Int.ofNat_tdiv,Nat.mul_div_cancel _ k4]
   have y:ch N (i+1)<=4096*64:=by have:ch N (i+1)*1<=ch N (i+1)*(i+1):=Nat.mul_le_mul_left _ k4;omega
   rw[w,u,r,z,ag _];refine⟨k4,ai (λq=>?_) λq=>?_⟩
   ·have:=WW (n:=N) (j:=m) (i:=i+1) k4 k4;refine⟨?_,k0⟩;rw[show min (ch N T) 4097=4097 by omega];rfl
   ·exact⟨i+1,k0,⟨k0,k4,k4⟩,k4⟩
  ·have:i=m:=k4
   subst this;refine⟨?_,k0⟩;rw[show min (ch N T) 4097=ch N i by omega]
theorem index_spec(s:Sl)(l:au)(x:Int)(h:hZ)(g:Rd h s 1 aq l)(m:j9 l<=2^30):ab xm 150 #[s,xb xi x] h λv h'=>(∃i:Int,v=xb xi i/\(0<=i↔x∈l)/\(0<=i->l[i.toNat]?=dB x/\∀j,j<i.toNat->l[j]?≠dB x)/\i<j9 l/\-1<=i)/\h'=h:=by
 refine Ad s x ?_;unfold ot;have k:=g.len;refine aw (λi:Nat=>(i:Int)) (λi h'=>h'=h/\i<=j9 l/\∀j,j<i->l[j]?≠dB x) (λi=>j9 l-i) 0 k0 ⟨k0,k4,λj b=>k4⟩ ?_;rintro i n ⟨rfl,o,c⟩;refine ai (λe=>?_) (λe=>?_)
 ·have a:i<j9 l:=k4
  refine g.bC i k0 a _ k0 ?_;refine dD (λf=>?_) (λf=>?_)
  ·refine⟨⟨i,k0,⟨λ_=>f▸qh a,λ_=>k4⟩,λ_=>⟨by rw[qn,qd a,f],λj b=>c j k4⟩,k4,k4⟩,k0⟩
  ·refine⟨i+1,ld,⟨k0,k4,λj b=>?_⟩,k4⟩;rcases zu.1 b with b|rfl
   ·exact c j b
   ·rw[qd a];intro d;exact f (zS.inj d).symm
 ·refine⟨⟨-1,k0,⟨λd=>k4,λd=>?_⟩,λd=>k4,k4,k4⟩,k0⟩;obtain⟨j,b,rfl⟩:=qK d;exact absurd (qd b) (c j k4)
theorem ux(s:Sl)(l:au)(x:Int)(h:hZ)(c:Rd h s 1 aq l)(b:j9 l<=2^30):ab xm 84 #[s,xb xi x] h λv h'=>v=xg (decide (x∈l))/\h'=h:=by refine tC s x ?_;unfold mS;refine(index_spec s l x h c b).mono ?_;rintro v d ⟨⟨i,rfl,a,_⟩,rfl⟩;refine⟨i,k0,?_,k0⟩;congr 1;exact decide_eq_decide.2 a
theorem abh(n:Nat)(s:Sl)(l:List Nat){B:aB}{q h:hZ}{As:List HP}(H:aa B q h As)(i:Nat)(o:As[i]?=dB (al 3 s 1 aq (ints l)))(N:n<=64)(M:j9 l<=n)(K:∀x∈l,x<n):
  ab xm 135 #[s,xb xi n] h λv h'=>match kj n l with
   |some l'=>v=xg eR/\aa B q h' (As.set i (al 3 s 1 aq (ints l')))
   |none=>v=xg eS/\h'=h:=by
 refine QI s n ?_;unfold JF;have f:=(H.own i o).len;rw[lj]at f;refine aw (λk:Nat=>(k:Int)-1) (λk h'=>h'=h/\k<=j9 l/\kj n (l.drop k)=eH) (λk=>k) l.length (by rw[f,ag _]) ⟨k0,ql _,by rw[yg];rfl⟩ ?_;rintro k Q ⟨rfl,R,c⟩;refine ai (λe=>?_) (λe=>?_)
 ·obtain⟨k,rfl⟩:∃j,k=j+1:=⟨k-1,k4⟩
  have b:k<j9 l:=k4
  have E:=H.seq i o λ_=>rfl;have g:(((k+1:Nat):Int)-1)=(k:Int):=k4
  have G:=K _ (qh b);have m:kj n (l.drop k)=if l[k]+(j9 l-k-1)+1<n then dB (zM (l[k]+1) (j9 l-k-1+1))else eH:=by rw[qP b];unfold kj;rw[c];simp[Nat.sub_sub]
  refine E.bC k g (by rw[lj];exact b) _ k0 ?_;rw[La b,g,ag ((n:Int)-((s.len:Nat):Int)),ag _];refine ai (λF=>?_) (λF=>?_)
  ·refine E.bC k k0 (by rw[lj];exact b) _ k0 ?_;rw[La b,ag _];rw[j1 k4]at m;have J:=Sq k l _ k4 m;rw[J];dsimp only;refine H.set ac i o (λ_=>rfl) k0 k k0 (by rw[lj];exact b) ((l[k]:Int)+1) k0 k0 k0 λP z=>?_;let a:Nat->List Nat:=λj=>l.take k++zM (l[k]+1) (j+1)++l.drop (k+1+j);have d:(ints l).set k ((l[k]:Int)+1)=ints (a 0):=by
    have:a 0=l.set k (l[k]+1):=by simp only[a];rw[List.set_eq_take_append_cons_drop,j1 b];simp[List.range'_succ]
    rw[this];simp[ints,vO]
   rw[d]at z;refine aw (λj:Nat=>((k+1+j:Nat):Int)) (λj h'=>k+1+j<=j9 l/\aa B q h' (As.set i (al 3 s 1 aq (ints (a j))))) (λj=>j9 l-j) 0 ld ⟨k4,z⟩ ?_;rintro j h3 ⟨O,w⟩;have A:j9 (a j)=j9 l:=by simp[a];omega
   have t:i<j9 As:=(qm.1 o).1;have D:(As.set i (al 3 s 1 aq (ints (a j))))[i]?=dB (al 3 s 1 aq (ints (a j))):=zq t;refine ai (λI=>?_) (λI=>?_)
   ·have r:k+1+j<j9 l:=k4
    have u:(a j)[k+j]'(by omega)=l[k]+1+j:=by simp only[a,qt];rw[zX k8,List.getElem_append_left k8];simp[List.getElem_range'];omega
    refine(w.seq i D λ_=>rfl).bC (k+j) l5 (by rw[lj];omega) _ k0 ?_;rw[La k4,u,ag _];refine w.set ac i D (λ_=>rfl) k0 (k+1+j) k0 (by rw[lj];omega) (((l[k]+1+j:Nat):Int)+1) k0 k0 k0 λS y=>?_;refine⟨j+1,l5,⟨k4,?_⟩,k4⟩;rw[yM]at y;have:(ints (a j)).set (k+1+j) (((l[k]+1+j:Nat):Int)+1)=ints (a (j+1)):=by
     have L:(a j).set (k+1+j) (l[k]+1+j+1)=a (j+1):=by
      simp only[a];rw[qX _ _ k8];have:k+1+j-j9 (List.take k l++zM (l[k]+1) (j+1))=0:=k8
      rw[this,qP r,zx,List.range'_concat (n:=j+1)];simp[Nat.add_assoc]
     rw[<-L];simp[ints,vO]
    rw[this]at y;exact y
   ·have p:k+1+j=j9 l:=k4
    refine⟨k0,?_⟩;have:l.take k++zM (l[k]+1) (j9 l-k-1+1)=a j:=by simp only[a];rw[p,yg,qL,show l.length-k-1+1=j+1 by omega]
    rw[this];exact w
  ·rw[j3 k4]at m;exact⟨k,by rw[ag _],⟨k0,k4,m⟩,k4⟩
 ·have:k=0:=k4
  subst this;rw[List.drop_zero]at c;rw[c];exact⟨k0,k0⟩
end Go.Qw
namespace Wl
open Go Go.Qw Go.Vc
def nL(m:aE)(offs:Int)(w:Pow)(ds:aF)(t most:Int):Int:=
 if gT w offs then 14 else if t<0∨t>=(j9 (be ds m.drives):Int)∨most<0∨most>64 then 1 else if gw (j9 (be ds m.drives):Int) t>4096 then 13 else 0
end Wl
namespace Go.Qw
open Go Go.Vc Go.Proofs Wl
section
variable {B:aB} {h0 h:hZ} {As:List HP} {a pw:hU} {offs:Int} {da:List aQ} {w:Pow} {ds:aF} {m:aE}
theorem JW(t most:Int)(r:bV m=eR)(S:m.aG=[])(P:∀k∈be ds m.drives,∀d,aW ds k=dB d->d.l=bM m d.l)(W:-(2^62)<=t/\t<=2^62)(H:aa B h0 h (bL a pw da offs w ds m::As)):
  ab xm 15 #[xd (dB a),xb xi t,xb xi most] h λv h'=>v=.tuple #[xb xi 0,xb xi (nL m offs w ds t most)]/\aa B h0 h' (bL a pw da offs w ds m::As):=by
 refine By (dB a) t most ?_;unfold um;have D:=nh r;obtain⟨live,c⟩:∃live,live=be ds m.drives:=⟨_,rfl⟩
 have u:j9 live<=64:=by rw[c];exact zf (qT _ _) D
 refine bi (bQ (λe=>ln) λ_=>(Uc H).mono ?_);rintro _ h1 ⟨rfl,rfl⟩;refine⟨_,k0,bQ (λe=>?_) λL=>?_⟩
 ·have:nL m offs w ds t most=14:=by unfold nL;rw[j1 e]
  rw[this];exact⟨k0,H⟩
 have O:nL m offs w ds t most=(if t<0∨t>=(j9 live:Int)∨most<0∨most>64 then 1 else if gw (j9 live:Int) t>4096 then 13 else 0):=by unfold nL;rw[j3 (by rw[L];decide),<-c]
 rw[O];refine(KY r H).mono ?_;rintro _ h2 ⟨y,rfl,T⟩;have I:=H.ck T;refine⟨y,k0,(Ua r (I.bc 2 [1,0])).mono ?_⟩;rintro _ h3 ⟨f,rfl,J⟩;rw[<-c]at J;have V:=I.ck J;refine⟨f,k0,V.boxed λa5 K g=>?_⟩;have g:aa B h0 K (bL a pw da offs w ds m::ao a5 109 (cT a y f t most 0)::al 3 f 1 aq live::dC y m::As):=(g.bu).bc 4 [3,0,1,2];have p:=(g.own 2 k0).len;have o:=g.box 1 k0;refine bi (bO (λ(b:Bool) h'=>b=decide (t<0∨t>=(j9 live:Int)∨most<0∨most>64)/\h'=K) ?_ ?_)
 ·refine ai (λe=>⟨by rw[j6 (.inl e)],k0⟩) λX=>⟨a5,k0,f,o.cell k0,ai (λe=>⟨by rw[j6 (.inr (.inl k4))],k0⟩) λZ=>ai (λe=>⟨by rw[j6 (.inr (.inr (.inl e)))],k0⟩) λY=>⟨?_,k0⟩⟩
  rw[decide_eq_decide];omega
 rintro b N ⟨rfl,rfl⟩;refine ai (λe=>by rw[j1 e];exact⟨k0,g.bc 4 [0]⟩) λM=>?_;rw[j3 M];refine⟨a5,k0,f,o.cell k0,(sD ((f.len:Nat):Int) t N k4 W).mono ?_⟩;rintro _ h7 ⟨rfl,rfl⟩;rw[p];refine⟨_,k0,ai (λe=>by rw[j1 e];exact⟨k0,g.bc 4 [0]⟩) λU=>?_⟩;rw[j3 U];have R:St B h0 (ao a5 109 (cT a y f t most 0)::al 3 f 1 aq live::dC y m::As) λh=>cA h a5 109 (cT a y f t most 0)/\dV h y m/\Rd h f 1 aq live:=λBs h' z=>
  ⟨(St.fw (A:=ao a5 109 (cT a y f t most 0)) 0 k0 λ_ i=>i.1) Bs h' z,(St.fw (A:=dC y m) 2 k0 λ_ i=>i) Bs h' z,(St.fw (A:=al 3 f 1 aq live) (Q:=λh=>Rd h f 1 aq live) 1 k0 λh' i=>i.1.seq (λ_=>rfl) i.2) Bs h' z⟩
 refine(Ng y f live t most 0 r u (λk F=>by obtain⟨_,d,G,_⟩:=mw (show k∈be ds m.drives by rw[<-c];exact F);exact⟨d,G⟩) R g).mono ?_;rintro _ h8 ⟨rfl,s⟩;have E:cO m live w ds=(0,w,ds):=KZ λk F d G=>P k (by rw[<-c];exact F) d G;rw[E]at s⊢;have q:=s.box 1 k0;have x:dV h8 y m:=s.at 3 k0;have n:=bF.len x.aG;rw[S]at n;have j:y.2.2.2.2.2.2.2.len=0:=n;refine⟨_,k0,bR (λe=>absurd k0 e) λ_=>⟨a5,k0,y.2.2.2.2.2.2.2,by rw[addr_add];exact q.cell k0,?_⟩⟩;refine aw (λ_:Unit=>(0:Int)) (λ_ h'=>h'=h8) (λ_=>0) () k0 k0 ?_;rintro _ h9 rfl;refine ai (λe=>?_) λ_=>⟨a5,k0,0,q.cell k0,k0,s.bc 4 [0]⟩
 exfalso;rw[j]at e;exact absurd e k6
end
theorem agn(h:hZ)(x:UInt8):ab xm 209 #[xb xj x.toNat] h λv h'=>v=xg (x !=0)/\h'=h:=by
 refine Ou _ ?_;unfold Hk;refine⟨?_,k0⟩;congr 1;by_cases a:x=0
 ·subst a;rfl
 ·have:((x.toNat:Nat):Int)≠0:=λb=>a (Cr.1 b);rw[bne_iff_ne.2 a];exact bne_iff_ne.2 this
theorem HW(a:Sl)(l:Row)(h:hZ)(o:Rd h a 1 aD l)(s:j9 l<=2^30:=by omega):ab xm 139 #[a] h λv h'=>v=xb xi (if fl l<j9 l then(fl l:Int)else-1)/\h'=h:=by
 refine Ta a ?_;unfold Ml;refine(rc a (209,#[],#[]) (R:=λv h'=>v=xb xi (if fl l<j9 l then(fl l:Int)else-1)/\h'=h) ?_).mono ?_
 ·unfold lK;have r:=o.len;refine aw (λi:Nat=>(i:Int)) (λi h'=>h'=h/\i<=j9 l/\∀j (c:j<j9 l),j<i->l[j]=0) (λi=>j9 l-i) 0 k0 ⟨k0,k4,λj _ c=>k4⟩ ?_;rintro i p ⟨rfl,u,d⟩;refine ai (λe=>?_) (λe=>?_)
  ·have b:i<j9 l:=k4
   refine o.bC i k0 b _ k0 ?_;refine fq m7 ?_;refine(agn p l[i]).mono ?_;rintro v t ⟨rfl,rfl⟩;refine⟨_,k0,bQ (λm=>?_) λm=>?_⟩
   ·have n:fl l=i:=by rw[fl,List.findIdx_eq b];exact⟨m,λj c=>by simp[d j k4 c]⟩
    rw[n,j1 b];exact⟨k0,k0⟩
   ·refine⟨i+1,ld,⟨k0,k4,λj c k=>?_⟩,k4⟩;rcases zu.1 k with h3|rfl
    ·exact d j c h3
    ·simpa using m
  ·have g:¬fl l<j9 l:=by rw[fl,wD];rintro⟨x,q,f⟩;obtain⟨j,c,rfl⟩:=qK q;rw[d j c k4]at f;simp at f
   rw[j3 g];exact⟨k0,k0⟩
 ·rintro v p ⟨rfl,rfl⟩;exact⟨_,k0,k0,k0⟩
theorem adS(a b:Sl)(c d:Row)(h:hZ)(j:Rd h a 1 aD c)(l:Rd h b 1 aD d)(t:j9 c=j9 d)(A:j9 c<=2^30):ab xm 253 #[a,b] h λv h'=>∃r:Sl,v=.tuple #[r,xg eR]/\Sp h h' [al 5 r 1 aD (zh (·^^^·) c d)]:=by
 refine Vf a b ?_;unfold PC;have w:=j.len;have u:=l.len;refine bR (λe=>k4) λ_=>?_;refine(Sp.refl h).make ac aD gM k6 0 k0 k0 c.length c.length k4 k4 (ql _) k4 λs h3 o q p=>?_;refine aw (λk:Nat=>(k:Int)) (λk h'=>k<=j9 c/\Sp h h' [al 5 s 1 aD (zh (·^^^·) (c.take k) (d.take k)++qg (j9 c-k) 0)]) (λk=>j9 c-k) 0 k0 ⟨k4,n9⟩ ?_;rintro k y ⟨x,g⟩;refine ai (λe=>?_) (λe=>?_)
 ·have f:k<j9 c:=k4
  refine(Seq.up j g.aj).bC k k0 f _ k0 ?_;refine(Seq.up l g.aj).bC k k0 k4 _ k0 ?_;rw[ow];refine g.set ac 0 k0 (λ_=>rfl) k0 k k0 k8 (c[k]^^^d[k]) k0 k0 k0 λz n=>⟨trivial,?_⟩
  refine⟨k+1,ld,⟨k4,?_⟩,k4⟩;have i:j9 (zh (·^^^·) (c.take k) (d.take k))=k:=k8
  have m:(zh (·^^^·) (c.take k) (d.take k)++qg (j9 c-k) (0:UInt8)).set k (c[k]^^^d[k])=zh (·^^^·) (c.take (k+1)) (d.take (k+1))++qg (j9 c-(k+1)) 0:=by rw[qX _ _ k4,i,zc,show c.length-k=j9 c-(k+1)+1 by omega,yd,zx,aH _ _ f,aH _ _ (show k<j9 d by omega),yx k8,qt];rfl
  rw[<-m];exact n
 ·have:k=j9 c:=k4
  subst this;refine⟨s,k0,?_⟩;rw[qi (ql _),qi k4,zc,vk,qL]at g;exact g
theorem ago(c:UInt8)(a b:Row):zh (·^^^·) (scaleB c a) b=cY c a b:=by unfold scaleB cY;rw[List.zipWith_map_left];congr 1;funext x y;exact UInt8.xor_comm _ _
theorem abi(f:hU)(c:UInt8)(a b:Sl)(d e:Row)(h:hZ)(l:fI h f)(m:Rd h a 1 aD d)(p:Rd h b 1 aD e)(o:j9 d=j9 e)(k:j9 d<=2^30):
  ab xm 207 #[xd (dB f),xb xj c.toNat,a,b] h λv h'=>∃r:Sl,v=.tuple #[r,xg eR]/\Sp h h' [al 5 r 1 aD (cY c d e)]:=by
 refine Tf (dB f) _ a b ?_;unfold My;refine(MS f c a d h l m k).mono ?_;rintro v q ⟨r,rfl,g⟩;refine⟨r,k0,(adS r b _ e q (g.seq 0 k0 λ_=>rfl) (Seq.up p g.aj) (by rw[oU];exact o) (by rw[oU];exact k)).mono ?_⟩;rintro v s ⟨w,rfl,n⟩;refine⟨(w,eR),k0,w,k0,?_⟩;rw[<-ago];exact(g.comp n).take 1 λi A j=>by cases i with|zero=>exact j|succ i=>simp at j
def gr(f:hU)(n:Nat)(a:Sl):ba:=[xd (dB f),xb xi n,a]
def iq(b f:hU)(n:Nat)(M:aM):HP:=.ex λa:Sl=>(ao b 200 (gr f n a)).sep (ct 34 a 1 bo (cF 1 aD) M)
theorem abj(d f:hU)(n:Nat)(c r:Sl)(M:aM)(l:Row)(h:hZ)(s:cA h d 200 (gr f n c))(D:fI h f)(G:dS (bF (cF 1 aD) 1 bo) h c M)(H:Rd h r 1 aD l)
  (N:j9 l=n) (U:n<=64) (g:aT n M) (z:∀x∈M,fl x<n) (K:j9 M<=2^30):
  ab xm 138 #[xd (dB d),r] h λv h'=>∃w:Sl,v=.tuple #[w,xg eR]/\Sp h h' [al 5 w 1 aD (eO M l)]:=by
 refine GV (dB d) r ?_;unfold Ab;have O:=H.len;have R:=bF.len G;refine bi ?_;refine bQ (λe=>ln) λ_=>?_;refine⟨d,k0,n,s.cell k0,bR (λe=>k4) λ_=>?_⟩;refine(fA r l h H k4).mono ?_;rintro v V ⟨w,rfl,J⟩;refine⟨w,k0,d,k0,c,(s.aj J.aj s.lt).cell k0,?_⟩;refine aw (λt:Sl×Nat=>(t.1,(t.2:Int))) (λt h'=>t.2<=j9 M/\Sp h h' [al 5 t.1 1 aD (eO (M.take t.2) l)]) (λt=>j9 M-t.2) (w,0) k0 ⟨k9,by simpa[eO]using J⟩ ?_;rintro⟨o,k⟩ Q ⟨W,a⟩;dsimp only at*;refine ai (λe=>?_) (λe=>?_)
 ·have b:k<j9 M:=k4
  have P:M[k].length=n:=g _ (qh _);have F:=z _ (qh b);have u:aT n (M.take k):=λx y=>g x (zI y);have p:=Kv u N;have L:=(a.own 0 k0).len;refine bF.mZ (dS.up G a.aj) k k0 b λx y=>?_;refine(HW x _ Q y).mono ?_;rintro v h3 ⟨rfl,rfl⟩;refine⟨_,k0,?_⟩;dsimp only;rw[j1 k4];refine(a.seq 0 k0 λ_=>rfl).bC (fl M[k]) k0 k4 _ k0 ?_;have q:(eO (M.take k) l)[fl M[k]]'(by omega)=aN (eO (M.take k) l) (fl M[k]):=(NW k4).symm;have m:eO (M.take (k+1)) l=cY (aN (eO (M.take k) l) (fl M[k])) M[k] (eO (M.take k) l):=by unfold eO;rw[aH _ _ b,wv];rfl
  rw[q];refine bR (λB=>?_) (λB=>?_)
  ·refine⟨d,k0,dB f,(s.aj a.aj s.lt).cell0 k0,?_⟩;refine(abi f (aN (eO (M.take k) l) (fl M[k])) x o M[k] _ h3 (D.aj a.aj D.lt) y (a.seq 0 k0 λ_=>rfl) k4 k4).mono ?_;rintro v X ⟨E,rfl,T⟩;refine⟨(E,eR),k0,⟨(E,k+1),lb,⟨k7,?_⟩,k7⟩⟩;dsimp only;rw[m];exact(a.comp T).take 1 λi A I=>by cases i with|zero=>exact I|succ i=>simp at I
  ·refine⟨(o,k+1),lb,⟨k7,?_⟩,k7⟩;have S:aN (eO (M.take k) l) (fl M[k])=0:=Cr.1 B;have:eO (M.take (k+1)) l=eO (M.take k) l:=by rw[m,S];refine eZ (n:=n) (by rw[bX];exact p) p λj _=>?_;rw[cN k4,Gf.zero_mul,UInt8.xor_zero]
   dsimp only;rw[this];exact a
 ·refine⟨o,k0,?_⟩;rw[qi k4]at a;exact a
theorem QY(f:hU)(n:Nat)(h:hZ)(i:n<=64):ab xm 69 #[xd (dB f),xb xi n] h λv h'=>∃c:hU,v=xd (dB c)/\Sp h h' [iq c f n []]:=by refine SO (dB f) n ?_;unfold LY;refine bi ?_;refine ai (λe=>k4) λ_=>ai (λe=>k4) λ_=>?_;refine bi ?_;refine bQ (λe=>ln) λ_=>?_;refine(Sp.refl h).boxed λa j g=>?_;refine⟨a,k0,?_⟩;have d:=(g.Kl 34 1 bo (cF 1 aD)).join 0 1 k6 k0 k0;exact(d.close' (F:=λb:Sl=>(ao a 200 (gr f n b)).sep (ct 34 b 1 bo (cF 1 aD) [])) 0 ⟨eH,0,0⟩ k0).del 1
theorem iq.open{B:aB}{b h:hZ}{As:List HP}{c f:hU}{n:Nat}{M:aM}(H:aa B b h (iq c f n M::As)):
  ∃a:Sl,aa B b h (ct 34 a 1 bo (cF 1 aD) M::ao c 200 (gr f n a)::As):=by
 obtain⟨a,d⟩:=H.sK;exact⟨a,d.sZ⟩
theorem iq.close{B:aB}{c h:hZ}{As:List HP}{b f:hU}{n:Nat}{M:aM}{a:Sl}(H:aa B c h (ct 34 a 1 bo (cF 1 aD) M::ao b 200 (gr f n a)::As)):
  aa B c h (iq b f n M::As):=H.mb.xI (F:=λa:Sl=>(ao b 200 (gr f n a)).sep (ct 34 a 1 bo (cF 1 aD) M)) a
theorem DB(a f:hU)(n:Nat)(M:aM){B:aB}{d h:hZ}{As:List HP}(H:aa B d h (iq a f n M::As)):ab xm 141 #[xd (dB a)] h λv h'=>v=xb xi M.length/\h'=h:=by refine GW (dB a) ?_;unfold Ac;obtain⟨b,c⟩:=iq.open H;refine bQ (λe=>ln) λ_=>?_;exact⟨a,k0,b,(c.box 1 k0).cell k0,by rw[(c.acE 0 k0).1],k0⟩
theorem FF(d f:hU)(n:Nat)(M:aM)(r:Sl)(l:Row){B:aB}{o h:hZ}{As:List HP}(H:aa B o h (iq d f n M::As))(G:St B o As λh=>fI h f)(W:Rd h r 1 aD l)
  (I:j9 l=n) (E:n<=64) (j:aT n M) (u:∀x∈M,fl x<n) (N:j9 M<=64):
  ab xm 71 #[xd (dB d),r] h λv h'=>(∃b,v=xg b)/\aa B o h' (iq d f n (Su M l)::As):=by
 refine Jf (dB d) r ?_;unfold BB;obtain⟨m,s⟩:=iq.open H;have k:=Kv j I;refine(abj d f n m r M l h (s.box 1 k0) (G [_,_] h s) (s.OX 0 k0 λ_=>rfl) W I E j u k4).mono ?_;rintro v T ⟨w,rfl,K⟩;have F:=s.ck K;have O:=K.seq 0 k0 λ_=>rfl;refine⟨(w,eR),k0,bi ?_⟩;refine bj (λe=>ln) λ_=>?_;refine(HW w _ T O).mono ?_;rintro v Z ⟨rfl,rfl⟩;refine⟨_,k0,?_⟩;dsimp only;by_cases a:fl (eO M l)<j9 (eO M l)
 ·rw[j1 a];refine xH (j7 (Int.not_lt.2 (wj _))) ?_;have z:=F.Lv 0 k0 λ_=>rfl;have c:=z.box 2 k0;refine⟨d,k0,dB f,c.cell0 k0,d,k0,m,c.cell k0,?_⟩;have p:aT n (M++[eO M l]):=nf j k;refine z.oT ac bo fH k0 [w] k0 (show 1*1<=2^20 by decide) k0 ⟨c.cell k0,c.cell0 k0,trivial⟩ ?_;refine z.uN ac 1 0 k6 k0 k0 fH k0 k6 (λ_=>rfl) jx k0 k6 k4 λy t U=>?_;have g:aa B o t (ct 34 y 1 bo (cF 1 aD) (M++[eO M l])::ao d 200 (gr f n m)::As):=U.oC;have A:=g.box 1 k0;refine⟨⟨A.cell0 k0,trivial⟩,?_⟩;refine(JR f y _ n t (G [_,_] t g) (bF.tofZ (g.OX 0 k0 λ_=>rfl)) p E k8).mono ?_;rintro v X ⟨q,rs,rfl,S,D,V,Q⟩;have i:=(gZ p (eU (M++[eO M l]))).2;have P:Sp t X [ct 34 ⟨q.ptr,ca (M++[eO M l]),q.cap⟩ 1 bo (cF 1 aD) (ni (M++[eO M l]))]:=by have:=aa.afD (As:=[]) Q (by rw[i];exact D) (λ_=>rfl) (ca (M++[eO M l])) (by rw[i];omega);exact this
  have R:=g.ck P;refine⟨q,k0,trivial,d,k0,?_⟩;refine R.storeAt ac 2 k0 k0 (off:=2) (v:=xc q.ptr q.len q.cap) k0 k0 k0 (by simp[gr]) λL J=>⟨trivial,⟨_,k0⟩,?_⟩
  have Y:aa B o L (ct 34 ⟨q.ptr,ca (M++[eO M l]),q.cap⟩ 1 bo (cF 1 aD) (ni (M++[eO M l]))::ct 34 y 1 bo (cF 1 aD) (M++[eO M l])::ao d 200 (gr f n ⟨q.ptr,ca (M++[eO M l]),q.cap⟩)::As):=by rw[show q.len=ca (M++[eO M l])from S]at J;exact J
  rw[Su,j1 a];exact iq.close Y.sJ
 ·rw[j3 a];refine FX (j6 k6) ⟨⟨_,k0⟩,?_⟩;rw[Su,j3 a];exact iq.close F.oC
theorem QZ(i f:hU)(n:Nat)(M:aM)(b:Sl)(h:hZ)(y:cA h i 200 (gr f n b))(d:dS (bF (cF 1 aD) 1 bo) h b M)(m:j9 M<=64)(j:aT n M)(B:n<=64):
  ab xm 210 #[xd (dB i)] h λv h'=>∃r:Sl,v=r/\Sp h h' [ct 34 r 1 bo (cF 1 aD) M]:=by
 refine Hl (dB i) ?_;unfold Ah;refine bQ (λe=>ln) λ_=>?_;have l:=bF.len d;refine⟨i,k0,b,y.cell k0,?_⟩;refine aw (λt:Sl×Nat=>(t.1,(t.2:Int))) (λt h'=>t.2<=j9 M/\Sp h h' [ct 34 t.1 1 bo (cF 1 aD) (M.take t.2)]) (λt=>j9 M-t.2) (⟨eH,0,0⟩,0) k0 ⟨k9,(Sp.refl h).Kl 34 1 bo (cF 1 aD)⟩ ?_;rintro⟨s,k⟩ q ⟨D,g⟩;dsimp only at*;refine ai (λe=>?_) (λe=>?_)
 ·have a:k<j9 M:=k4
  have p:=j _ (qh a);refine bF.mZ (dS.up d g.aj) k k0 a λx o=>?_;refine(fA x M[k] q o k4).mono ?_;rintro v h3 ⟨c,rfl,u⟩;have z:=(g.ck u).Lv 0 k0 λ_=>rfl;refine⟨c,k0,?_⟩;refine z.uN ac 1 0 k6 k0 k0 fH k0 k6 (λ_=>rfl) jx k0 k6 k8 λw E A=>?_;refine⟨(w,k+1),lb,⟨k7,?_⟩,k7⟩;dsimp only;rw[aH _ _ a];exact A.oC
 ·rw[qi k4]at g;exact⟨s,k0,g⟩
theorem iq.rd{B:aB}{o h:hZ}{As:List HP}{m f:hU}{n:Nat}{M:aM}(H:aa B o h As)(i:Nat)(t:As[i]?=dB (iq m f n M)):∃g:Sl,cA h m 200 (gr f n g)/\dS (bF (cF 1 aD) 1 bo) h g M:=by obtain⟨g,v,u,w,z,k,q,rs,y,a,b,c,d,e⟩:=H.at i t;exact⟨g,q.1,rs,a.seq (λ_=>rfl) λx j=>k x (b x j).1,d,λi r l s p=>(cF 1 aD).mono (e i r l s p) λx j=>k x (c x j)⟩
theorem OI(b f:hU)(n:Nat)(M:aM)(c:Sl)(h:hZ)(g:cA h b 200 (gr f n c))(l:dS (bF (cF 1 aD) 1 bo) h c M)(j:j9 M<=64)(i:aT n M)(q:n<=64):
  ab xm 140 #[xd (dB b)] h λv h'=>∃d:hU,v=xd (dB d)/\Sp h h' [iq d f n M]:=by
 refine FJ (dB b) ?_;unfold uD;refine bQ (λe=>ln) λ_=>?_;refine⟨b,k0,dB f,g.cell0 k0,b,k0,n,g.cell k0,?_⟩;have o:av.ok [(b.add 1,(xb xi (n:Int))),(b,(xd (dB f)))] h:=⟨g.cell k0,g.cell0 k0,trivial⟩
 refine(QZ b f n M c h g l j i q).mono ?_;rintro v u ⟨r,rfl,p⟩;have k:=lS p.aj o;refine⟨r,k0,k,p.boxed λa s m=>?_⟩;have t:Sp h s (ao a 200 (gr f n r)::ct 34 r 1 bo (cF 1 aD) M::[]):=m.bu;refine⟨lS m.aj o,a,k0,?_⟩;exact iq.close t.nZ
def dj(p:Pm)(seed:Int)(ids:au):aM:=if bH p then(ids.filter bW).map (oH (bD p).toNat seed)else[]
theorem JX{p:Pm}{seed:Int}{ids:au}{k:Nat}(b:k<j9 ids):dj p seed (ids.take (k+1))=dj p seed (ids.take k)++(if(bH p&&bW ids[k])=eR then[oH (bD p).toNat seed ids[k]]else[]):=by
 unfold dj;by_cases a:bH p=eR
 ·rw[j1 a,j1 a,oI b];by_cases h:bW ids[k]=eR
  ·rw[j1 h,j1 (by rw[a,h];rfl),qW];rfl
  ·rw[j3 h,j3 rb,qL]
 ·rw[j3 a,j3 a,j3 o7];rfl
theorem VH(p:Pm)(seed:Int)(ids:au):aT (bD p).toNat (dj p seed ids):=λr a=>by
 unfold dj at a;split at a
 ·obtain⟨i,_,rfl⟩:=qo.1 a;exact RY _ _ _
 ·cases a
theorem Nh(p:Pm)(seed:Int)(ids:au):j9 (dj p seed ids)<=j9 ids:=by
 unfold dj;split
 ·rw[qw];exact qT _ _
 ·simp
abbrev HX:jy Sl aM:=bF (cF 1 aD) 1 bo
theorem abk(p:Pm)(seed:Int)(w:Sl)(W:bz)(h:hZ)(L:dS (bF (cF 1 aq) 1 bo) h w W)(V:j9 W<=2^20)(Q:∀l∈W,j9 l<=2^20):
  ab xm 72 #[lN p,xb xk seed,w] h λv h'=>∃r:Sl,v=r/\Sp h h' [ct 85 r 1 bo HX (W.map (dj p seed))]:=by
 refine Ma p seed w ?_;unfold Fe;obtain⟨T,q,P,F⟩:=bF.jh L;have K:=q.len;refine(Sp.refl h).boxed λa Y N=>?_;refine aw (λt:Sl×Nat=>(t.1,(t.2:Int))) (λt h'=>t.2<=j9 W/\Sp h h' [ct 85 t.1 1 bo HX ((W.take t.2).map (dj p seed)),ao a 24 [xb xi p.1,xb xi p.2.1,xb xi p.2.2]]) (λt=>j9 W-t.2) (⟨eH,0,0⟩,0) k0 ⟨k9,(N.Kl 85 1 bo HX).bu⟩ ?_;rintro⟨o,k⟩ X ⟨Z,z⟩;dsimp only at*;refine ai (λe=>?_) (λe=>?_)
 ·have i:k<j9 W:=k4
  have O:=Q _ (qh i);have A:=F k k4 i;refine(Seq.up q z.aj).md k k0 k4 ?_;generalize T[k]'(by omega)=x at A;have I:=Seq.len A;refine aw (λt:Sl×Nat=>(t.1,(t.2:Int))) (λt h'=>t.2<=W[k].length/\Sp h h' [ct 34 t.1 1 bo (cF 1 aD) (dj p seed (W[k].take t.2)),ct 85 o 1 bo HX ((W.take k).map (dj p seed)),ao a 24 [xb xi p.1,xb xi p.2.1,xb xi p.2.2]]) (λt=>W[k].length-t.2) (⟨eH,0,0⟩,0) k0 ⟨k9,by
    have:=(z.Kl 34 1 bo (cF 1 aD)).bu;have J:dj p seed []=[]:=by unfold dj;split<;>rfl
    dsimp only;rw[List.take_zero,J];exact this⟩ ?_
  rintro⟨s,j⟩ h3 ⟨U,u⟩;dsimp only at*;refine ai (λH=>?_) (λH=>?_)
  ·have g:j<W[k].length:=k4
   refine(Seq.up A u.aj).bC j k0 g _ k0 ?_;refine⟨p,(u.box 2 k0).aS _ k0,(Tv p seed W[k][j] h3).mono ?_⟩;rintro v h4 ⟨c,rfl,S,f⟩;refine⟨c,k0,?_⟩;have y:=(u.ck S).Lv 0 k0 λ_=>rfl;have m:=Nh p seed (W[k].take j);rw[qZ]at m;refine bj (λn=>?_) (λn=>?_)
   ·rw[f]at n;have d:(bH p&&bW W[k][j])=eR:=tg
    rw[d,j1 rfl]at y;refine y.uN ac 1 0 k6 k0 k0 fH k0 k6 (λ_=>rfl) jx k0 k6 k4 λD R B=>?_;have G:=B.oC;refine⟨(D,j+1),lb,⟨k7,?_⟩,k7⟩;dsimp only;rw[JX g,j1 d];exact G
   ·rw[f]at n;have d:¬(bH p&&bW W[k][j])=eR:=λM=>by rw[M]at n;cases n
    refine⟨(s,j+1),lb,⟨k7,?_⟩,k7⟩;dsimp only;rw[JX g,j3 d,qL];exact y.oC
  ·rw[qi k4]at u;have y:=u.Wu 0 k0 λ_=>rfl;refine y.uN ac 1 0 k6 (E:=HX) (a:=s) (b:=dj p seed W[k]) k0 k0 (⟨_,_,k0,k0,k0,k0,k0,k0⟩:ce C.toCG 129 85 1 [xc eH 0 0] 24) k0 k6 (λ_=>rfl) jx k0 k6 k8 λD R B=>?_;refine⟨(D,k+1),lb,⟨k7,?_⟩,k7⟩;dsimp only;rw[aH _ _ i,qW];exact B.oC
 ·rw[qi k4]at z;exact⟨o,k0,z.sJ⟩
def lQ(R:List aM)(a:au):Nat->aM
 |0=>[]
 |k+1=>lQ R a k++if(k:Int)∈a then[]else R.getD k []
theorem PY{n:Nat}{R:List aM}(c:∀m∈R,aT n m)(b:au):∀k,aT n (lQ R b k)
 |0=>λr a=>by cases a
 |k+1=>λr a=>by
  rcases qA.1 a with a|a
  ·exact PY c b k r a
  ·split at a
   ·cases a
   ·rw[qe]at a;cases hg:R[k]? with
    |none=>rw[hg]at a;cases a
    |some m=>rw[hg]at a;exact c m (List.mem_of_getElem? hg) r a
theorem Ud(R:List aM)(a:au):∀{j k:Nat},j<=k->∃X,lQ R a k=lQ R a j++X
 |j,0,h=>⟨[],by
   have:j=0:=k4
   subst this;simp⟩
 |j,k+1,h=>by
  by_cases c:j=k+1
  ·subst c;exact⟨[],k9⟩
  ·obtain⟨X,b⟩:=Ud R a (j:=j) (k:=k) k4;exact⟨X++if(k:Int)∈a then[]else R.getD k [],by rw[lQ,b,qt]⟩
theorem adT{n:Nat}{m:aM}(d:aT n m)(h:ca m=n){b:aM}(a:aT n b)(c:∀r∈m,r∈b):ca b=n:=by have f:=lG a;have e:=Gu d a c;omega
theorem VI(I f:hU)(n:Nat)(M A:aM)(u l g:Sl)(R:List aM)(a:au)(h:hZ)(hb:cA h I 200 (gr f n u))(Q:dS HX h u M)(K:fI h f)(hl:dS (bF HX 1 bo) h l R)(hg:Rd h g 1 aq a)
  (W:n<=64) (i:DW n M A) (Z:∀m∈R,aT n m/\m.length<=2^20) (am:j9 R<=2^20) (T:j9 a<=2^30):
  ab xm 73 #[xd (dB I),l,g,xb xi n] h λv h'=>v=xg (decide (ca (A++lQ R a R.length)=n))/\Sp h h' []:=by
 refine Mb (dB I) l g n ?_;unfold Ff;obtain⟨ls,G,ar,O⟩:=bF.jh hl;have ah:=G.len;have q:∀{o A':aM},DW n o A'->j9 o<=64:=λx=>by have:=x.len;have:=lG x.evenA;omega
 have P:St (λb=>b<h.size) h [] λh'=>fI h' f:=.base K λh' hp=>K.aj hp K.lt;have N:aT n (A++lQ R a R.length):=λr d=>(qA.1 d).elim (i.evenA r) (PY (λm hm=>(Z m hm).1) a _ r);refine(OI I f n M u h hb Q (q i) i.even W).mono ?_;rintro v h1 ⟨s,rfl,R1⟩;refine⟨dB s,k0,?_⟩;refine aw (λk:Nat=>(k:Int)) (λk h'=>k<=j9 R/\∃o,DW n o (A++lQ R a k)/\Sp h h' [iq s f n o]) (λk=>j9 R-k) 0 k0 ⟨k4,M,by simpa[lQ]using i,R1⟩ ?_;rintro k h2 ⟨hk,M2,z,B⟩;refine ai (λe=>?_) (λe=>?_)
 ·have t:k<j9 R:=k4
  have V:=O k k4 t;refine(Seq.up G B.aj).md k k0 k4 ?_;generalize ls[k]'(by omega)=x at V;have E:=Z _ (qh t);refine(ux g a k h2 (Seq.up hg B.aj) T).mono ?_;rintro v h3 ⟨rfl,rfl⟩;refine⟨_,k0,ai (λS=>?_) λp=>?_⟩
  ·refine⟨k+1,ld,⟨k4,M2,?_,B⟩,k4⟩;rw[lQ,j1 S,qL];exact z
  ·obtain⟨xs,H,ax,L⟩:=bF.jh V;have ap:=H.len;have F:R.getD k []=R[k]:=by rw[qe,qd t];rfl
   refine aw (λj:Nat=>(j:Int)) (λj h'=>j<=R[k].length/\∃o,DW n o ((A++lQ R a k)++R[k].take j)/\Sp h h' [iq s f n o]) (λj=>R[k].length-j) 0 k0 ⟨k4,M2,p8,B⟩ ?_;rintro j h4 ⟨hj,J,c,D⟩;refine ai (λe2=>?_) (λe2=>?_)
   ·have w:j<R[k].length:=k4
    have U:=L j k4 w;refine(Seq.up H D.aj).md j k0 k4 ?_;generalize xs[j]'(by omega)=y at U;refine(DB s f n J D).mono ?_;rintro v h5 ⟨rfl,rfl⟩;refine⟨_,k0,dD (λe3=>?_) λe3=>?_⟩
    ·refine⟨?_,.zip D.aj⟩;have ad:((j9 J:Nat):Int)=(n:Int):=e3;have Y:ca ((A++lQ R a k)++R[k].take j)=n:=by have:=c.len;omega
     have h7:ca (A++lQ R a R.length)=n:=by
      refine adT c.evenA Y N λr d=>?_;obtain⟨X,hX⟩:=Ud R a (j:=k+1) (k:=j9 R) k4;rw[hX,lQ,j3 p,F];simp only[qA]at d⊢;rcases d with(d|d)|d
      ·exact .inl d
      ·exact .inr (.inl (.inl d))
      ·exact .inr (.inl (.inr (zI d)))
     rw[h7];simp
    ·refine(FF s f n J y _ D P (Seq.up U D.aj) (E.1 _ (qh _)) W c.even c.lead (q c)).mono ?_;rintro v Y ⟨⟨b,rfl⟩,H6⟩;refine⟨b,k0,⟨j+1,ld,⟨k4,_,?_,H6⟩,k4⟩⟩;have:=ZX c (E.1 _ (qh w));rw[aH _ _ w,<-qt];exact this
   ·refine⟨k+1,ld,⟨k4,J,?_,D⟩,k4⟩;rw[qi k4]at c;rw[lQ,j3 p,F,<-qt];exact c
 ·have:k=j9 R:=k4
  subst this;refine(DB s f n M2 B).mono ?_;rintro v h5 ⟨rfl,rfl⟩;refine⟨_,k0,?_,.zip B.aj⟩;have:=z.len;congr 1;by_cases hh:ca (A++lQ R a R.length)=n
  ·rw[j6 hh];exact beq_iff_eq.2 (show((j9 M2:Nat):Int)=n by omega)
  ·rw[j7 hh];exact beq_eq_false_iff_ne.2 (show((j9 M2:Nat):Int)≠n by omega)
def xn(n t:Nat):bz:=(kH t 0 n).map ints
def HY(n t:Int)(h:hZ)(v:Value)(h':hZ):Prop:=
 if 0<=n/\n<=64/\0<=t/\t<=n then
  if gw n t>4096 then v=.tuple #[xc eH 0 0,xb xi 13]/\h'=h
  else∃r:Sl,v=.tuple #[r,xb xi 0]/\Sp h h' [ct 22 r 1 bo (cF 1 aq) (xn n.toNat t.toNat)]
 else v=.tuple #[xc eH 0 0,xb xi 1]/\h'=h
theorem Ue(n t:Int)(h:hZ)(hn:0<=n/\n<=2^30)(ht:(0:Int)<=0):ab xm 68 #[xb xi n,xb xi t] h (HY n t h):=by
 refine SN n t ?_;unfold LX;refine(DA n t h).mono ?_;rintro v O ⟨rfl,rfl⟩;refine⟨_,k0,bj (λe=>?_) λe=>?_⟩
 ·show HY n t O _ O;unfold HY;rw[j3 (of_decide_eq_false e)];exact⟨k0,k0⟩
 ·have e:=j8 e;refine(sD n t O k4 k4).mono ?_;rintro v i ⟨rfl,rfl⟩;refine⟨_,k0,ai (λm=>?_) λm=>?_⟩
  ·show HY n t i _ i;unfold HY;rw[j1 e,j1 m];exact⟨k0,k0⟩
  ·refine(λF=>?_:(∀(v:Value) (h':hZ),(∃r:Sl,v=.tuple #[r,xb xi 0]/\Sp i h' [ct 22 r 1 bo (cF 1 aq) (xn n.toNat t.toNat)])->HY n t i v h')->_) (λv h' l=>by unfold HY;rw[j1 e,j3 m];exact l);obtain⟨N,rfl⟩:∃N:Nat,n=N:=⟨n.toNat,k4⟩
   obtain⟨T,rfl⟩:∃T:Nat,t=T:=⟨t.toNat,k4⟩
   have S:j9 (kH T 0 N)<=4096:=by
    rw[Ku N T 0 k4];have:gw (N:Int) T=((min (ch N T) 4097:Nat):Int):=by unfold gw;rw[j1 e];rfl
    rw[this]at m;have ar:¬(((min (ch N T) 4097:Nat):Int)>4096):=m;simp;omega
   refine(Sp.refl i).make ac aq fN k6 0 k0 k0 T T k0 k0 (ql _) k4 λs h3 ap am H3=>?_;refine aw (λk:Nat=>(k:Int)) (λk h'=>k<=T/\Sp i h' [al 3 s 1 aq (ints (zM 0 k++qg (T-k) 0))]) (λk=>T-k) 0 k0 ⟨k4,by
    have H:ints (zM 0 0++qg (T-0) 0)=qg T 0:=by simp[ints]
    rw[H];exact H3⟩ ?_
   rintro k h4 ⟨hk,B⟩;refine ai (λe3=>?_) (λe3=>?_)
   ·have Z:k<T:=k4
    refine B.set ac 0 k0 (λ_=>rfl) k0 k k0 (by simp[ints];omega) (k:Int) k0 k0 k0 λh5 A=>?_;refine⟨k+1,ld,⟨k4,?_⟩,k4⟩;have H:(ints (zM 0 k++qg (T-k) 0)).set k (k:Int)=ints (zM 0 (k+1)++qg (T-(k+1)) 0):=by
     have:(zM 0 k++qg (T-k) 0).set k k=zM 0 (k+1)++qg (T-(k+1)) 0:=by rw[qX _ _ k9,List.length_range',zc,show T-k=T-(k+1)+1 by omega,yd,zx,List.range'_concat];simp
     rw[<-this];simp[ints,vO]
    rw[H]at A;exact A
   ·have:k=T:=k4
    subst this;rw[zc,vk,qL]at B;refine(jS s _ h4 (B.seq 0 k0 λ_=>rfl) (by simp[ints];omega)).mono ?_;rintro v h5 ⟨c,rfl,R5⟩;have A:=(B.ck R5).Lv 0 k0 λ_=>rfl;refine⟨c,k0,?_⟩;refine A.lit ac bo (⟨_,_,k0,k0,k0,k0,k0,k0⟩:ce C.toCG 51 22 1 [xc eH 0 0] 24) k0 [c] k0 (show 1*1<=2^20 by decide) k0 λo W H6=>?_;have H7:Sp i W (ct 22 o 1 bo (cF 1 aq) [ints (zM 0 k)]::al 3 s 1 aq (ints (zM 0 k))::[]):=(H6.agO (E:=cF 1 aq) (a:=c) (b:=ints (zM 0 k)) 2 0 k6 k0 k0).bu.sJ;have K:=GA N k 0 k4;refine aw (λx:Sl×List (List Nat)×List Nat×List (List Nat)=>x.1) (λx h'=>x.2.1++x.2.2.2=kH k 0 N/\pS N x.2.2.1 x.2.2.2/\x.2.2.1.length=k/\(∀y∈x.2.2.1,y<N)/\Sp i h' [ct 22 x.1 1 bo (cF 1 aq) ((x.2.1++[x.2.2.1]).map ints),al 3 s 1 aq (ints x.2.2.1)]) (λx=>j9 x.2.2.2) (o,[],zM 0 k,kH k 0 N) k0 ⟨k0,K,k9,λy D=>by rw[List.mem_range'_1]at D;omega,by simpa using H7⟩ ?_;rintro⟨o,g,f,rest⟩ h8 ⟨z,w,X,R,V⟩;dsimp only at*;refine(abh N s f V 1 k0 k4 k4 R).mono ?_;intro v q l;cases hs:kj N f with
    |none=>
     rw[hs]at l;obtain⟨rfl,rfl⟩:=l;refine⟨eS,k0,?_⟩;refine xH k0 (F _ _ ⟨o,k0,?_⟩);rw[qn,qn];have:rest=[f]:=by
      cases w with
      |last _=>rfl
      |more h _=>rw[hs]at h;cases h
     rw[this]at z;unfold xn;rw[<-z];exact V.sJ
    |some cur'=>
     rw[hs]at l;obtain⟨rfl,J⟩:=l;refine⟨eR,k0,FX k0 ?_⟩;obtain⟨L,Q,d⟩:∃L,pS N cur' L/\rest=f::L:=by
      cases w with
      |last h=>rw[hs]at h;cases h
      |more h h'=>rw[hs]at h;injection h with h;subst h;exact⟨_,h',k0⟩
     have j:Sp i q [ct 22 o 1 bo (cF 1 aq) ((g++[f]).map ints),al 3 s 1 aq (ints cur')]:=J;have p:cur'∈kH k 0 N:=by
      rw[<-z,d];have:cur'∈L:=by cases Q<;>simp
      simp[this]
     have u:=xT p;have ah:j9 g+2<=j9 (kH k 0 N):=by
      rw[<-z,d];have:1<=j9 L:=by cases Q<;>simp
      simp;omega
     refine(jS s _ q (j.seq 1 k0 λ_=>rfl) (by rw[lj];omega)).mono ?_;rintro v ad ⟨U,rfl,P⟩;have I:=(j.ck P).Lv 0 k0 λ_=>rfl;refine⟨U,k0,?_⟩;refine I.uN ac 1 0 k6 (E:=cF 1 aq) (a:=U) (b:=ints cur') k0 k0 (⟨_,_,k0,k0,k0,k0,k0,k0⟩:ce C.toCG 51 22 1 [xc eH 0 0] 24) k0 k6 (λ_=>rfl) jx k0 k6 k8 λY ax M=>?_;refine⟨(Y,g++[f],cur',L),k0,⟨by dsimp only;rw[<-z,d];simp,Q,u.1,λy D=>(u.2.1 y D).2,?_⟩,by dsimp only;rw[d];simp⟩;have G:=M.oC;dsimp only;rw[qW (l₁:=g++[f])];exact G
theorem VJ{p:aB}(a:Sl)(c:au)(x:Int)(h:hZ)(i:Seq h p a 1 aq c)(o:j9 c<=2^40):
  ab xm 19 #[a,xb xi x] h λv h'=>v=xg (decide (x∈c))/\h'=h:=by
 refine rG a x ?_;unfold lV;have m:=i.len;refine aw (λk:Nat=>(k:Int)) (λk h'=>h'=h/\k<=j9 c/\x∉c.take k) (λk=>j9 c-k) 0 k0 ⟨k0,k4,k9⟩ ?_;rintro k h' ⟨rfl,n,g⟩;refine ai (λj=>?_) (λl=>?_)
 ·have b:k<j9 c:=k4
  refine i.bC k k0 b _ k0 ?_;refine dD (λf=>⟨?_,k0⟩) (λd=>?_)
  ·rw[j6 (by rw[<-f];exact qh b)]
  ·rw[ag _];refine⟨k+1,k9,⟨k0,k4,?_⟩,k4⟩;rw[aH _ _ b];simp only[qA,qB,not_or];exact⟨g,λe=>d e.symm⟩
 ·rw[qi k4]at g;exact⟨by rw[j7 g],k0⟩
def mT(W:bz)(a:au):Nat->au
 |0=>[]
 |k+1=>mT W a k++if(k:Int)∈a then[]else W.getD k []
def mG(p:Pm)(seed:Int)(W:bz)(a:au):Nat:=nC p seed (mT W a W.length)
theorem YC(p:Pm)(seed:Int)(a b:au):dj p seed (a++b)=dj p seed a++dj p seed b:=by unfold dj;split<;>simp
theorem PZ(p:Pm)(seed:Int)(W:bz)(a:au):∀k,lQ (W.map (dj p seed)) a k=dj p seed (mT W a k)
 |0=>by simp[lQ,mT,dj]
 |k+1=>by
  rw[lQ,mT,YC,PZ p seed W a k];congr 1;by_cases h:(k:Int)∈a
  ·rw[j1 h,j1 h];simp[dj]
  ·rw[j3 h,j3 h,qe,qR,qe];cases W[k]? with
   |none=>simp[dj]
   |some l=>rfl
theorem abl{p:Pm}(a:bH p=eR)(seed:Int)(ids:au):dR p seed ids=bw p.1.toNat p.2.1.toNat++dj p seed ids:=by unfold dR dj;rw[j1 a,j1 a]
def jJ(p:Pm)(seed:Int)(W:bz)(t:Nat):Option (au):=(xn W.length t).find? λg=>decide ((mG p seed W g:Int)≠bD p)
def gU(p:Pm)(seed:Int)(W:bz)(t:Int):au×Bool×Int:=
 if bH p then
  if 0<=t/\t<=j9 W/\W.length<=64 then
   if gw W.length t>4096 then([],eS,13)
   else match jJ p seed W t.toNat with
    |some g=>(g,eR,0)
    |none=>([],eS,0)
  else([],eS,1)
 else([],eS,1)
theorem OJ(K H:Nat):aT (K+H) (bw K H):=λr a=>by
 obtain⟨i,_,rfl⟩:=qo.1 a;exact xO _ _ _
theorem Qa{α:Type}(f:α->Bool)(l:List α){k:Nat}(b:k<j9 l)(a:(l.take k).find? f=eH):(l.take (k+1)).find? f=if f l[k]then dB l[k]else eH:=by rw[aH _ _ b,List.find?_append,a,Option.none_or,List.find?_cons];cases f l[k]<;>rfl
theorem abm{α:Type}(f:α->Bool)(l:List α){k:Nat}{x:α}(h:(l.take k).find? f=dB x):l.find? f=dB x:=by have:l=l.take k++l.drop k:=(qJ k l).symm;rw[this,List.find?_append,h];rfl
theorem BP(p:Pm)(seed:Int)(w:Sl)(W:bz)(t:Int)(h:hZ)(hW:dS (bF (cF 1 aq) 1 bo) h w W)(hl:j9 W<=2^20)(hr:∀l∈W,j9 l<=2^20)(ht:(0:Int)<=0):
  ab xm 23 #[lN p,xb xk seed,w,xb xi t] h λv h'=>∃r:Sl,v=.tuple #[r,xg (gU p seed W t).2.1,xb xi (gU p seed W t).2.2]/\Sp h h' [EA (cF 1 aq) r (gU p seed W t).1]:=by
 refine LP p seed w t ?_;unfold EZ;have ah:=bF.len hW;have j:∀{Y:hZ},aX (λb=>b<h.size) h Y->Sp h Y [EA (cF 1 aq) ⟨eH,0,0⟩ []]:=λH=>.one H (Seq.nil _ _ _ _ _ _);refine(Sp.refl h).boxed λa Y H1=>?_;refine⟨p,(H1.box 0 k0).aS _ k0,(fa p Y).mono ?_⟩;rintro v h2 ⟨rfl,R2⟩;have Z:=H1.comp R2;refine⟨_,k0,bj (λe=>?_) λe=>?_⟩
 ·refine⟨⟨eH,0,0⟩,?_,?_⟩<;>(unfold gU;rw[j3 n3])
  exact j Z.aj
 ·have H:bH p=eR:=e;refine(Ue (w.len:Int) t h2 k4 ht).mono ?_;intro v h3 G;unfold HY at G;rw[ah]at G;have J:(0<=((j9 W:Nat):Int)/\((j9 W:Nat):Int)<=64/\0<=t/\t<=((j9 W:Nat):Int))↔(0<=t/\t<=j9 W/\W.length<=64):=k4
  by_cases I:0<=t/\t<=j9 W/\W.length<=64
  ·rw[j1 (J.2 I)]at G;by_cases K:gw W.length t>4096
   ·rw[j1 K]at G;obtain⟨rfl,rfl⟩:=G;refine⟨(⟨eH,0,0⟩,13),k0,bR (λ_=>?_) λe=>ln⟩;refine⟨⟨eH,0,0⟩,?_,?_⟩<;>(unfold gU;rw[j1 H,j1 I,j1 K])
    exact j Z.aj
   ·rw[j3 K]at G;obtain⟨r,rfl,R3⟩:=G;refine⟨(r,0),k0,bR (λe=>absurd k0 e) λ_=>?_⟩;dsimp only;rw[qn]at R3;have wR:gU p seed W t=match jJ p seed W t.toNat with|some g=>(g,eR,0)|none=>([],eS,0):=by unfold gU;rw[j1 H,j1 I,j3 K]
    obtain⟨L,hL⟩:∃L,L=xn W.length t.toNat:=⟨_,rfl⟩
    rw[<-hL]at R3;have bk:j9 L<=4096:=by
     have h6:gw (j9 W:Int) t=((min (ch W.length t.toNat) 4097:Nat):Int):=by unfold gw;rw[j1 (J.2 I)];rfl
     rw[h6]at K;rw[hL,xn,qw,Ku _ _ 0 k4,Nat.sub_zero];omega
    have H3:Sp h h3 [ao a 24 [xb xi p.1,xb xi p.2.1,xb xi p.2.2],ct 22 r 1 bo (cF 1 aq) L]:=Z.comp R3;have pp:=(bZ p).1 H;have am:bD p=p.1+p.2.1:=oN H;obtain⟨n,hn⟩:∃n:Nat,bD p=n:=⟨(bD p).toNat,k4⟩
    have u:n<=64:=k4
    refine⟨p,(H3.box 0 k0).aS _ k0,(ju p h3).mono ?_⟩;rintro v h4 ⟨rfl,R4⟩;have H4:=H3.up R4.aj;refine⟨_,k0,(rq h4).mono ?_⟩;rintro v h5 ⟨f,rfl,R5⟩;have H5:=H4.ck R5;rw[hn];refine⟨dB f,k0,(QY f n h5 u).mono ?_⟩;rintro v h6 ⟨P,rfl,R6⟩;have H6:Sp h h6 [iq P f n [],ao f 197 db,ao a 24 [xb xi p.1,xb xi p.2.1,xb xi p.2.2],ct 22 r 1 bo (cF 1 aq) L]:=H5.ck R6;refine⟨dB P,k0,p,(H6.box 2 k0).aS _ k0,(ut p h6).mono ?_⟩;rintro v h7 ⟨ar,rfl,R7⟩;rw[j1 H]at R7;obtain⟨A,F⟩:∃A,A=bw p.1.toNat p.2.1.toNat:=⟨_,rfl⟩
    rw[<-F]at R7;have T:aT n A:=by have:=OJ p.1.toNat p.2.1.toNat;rw[F,show n=p.1.toNat+p.2.1.toNat by omega];exact this
    have bb:j9 A<=4:=by rw[F];simp[bw];omega
    have H7:Sp h h7 [iq P f n [],ao f 197 db,ao a 24 [xb xi p.1,xb xi p.2.1,xb xi p.2.2],ct 22 r 1 bo (cF 1 aq) L,ct 34 ar 1 bo (cF 1 aD) A]:=(H6.comp R7).Ro 4 k0;have U:∀{M' A':aM},DW n M' A'->j9 M'<=64:=λx=>by have:=x.len;have:=lG x.evenA;omega
    refine⟨ar,k0,?_⟩;refine aw (λk:Nat=>(k:Int)) (λk h'=>k<=j9 A/\∃M,DW n M (A.take k)/\Sp h h' [iq P f n M,ao f 197 db,ao a 24 [xb xi p.1,xb xi p.2.1,xb xi p.2.2],ct 22 r 1 bo (cF 1 aq) L,ct 34 ar 1 bo (cF 1 aD) A]) (λk=>j9 A-k) 0 k0 ⟨k4,[],by simpa using ahb n,H7⟩ ?_;rintro k h8 ⟨hk,M,o,R⟩;have bq:=(R.acE 4 k0).1;refine ai (λe2=>?_) (λe2=>?_)
    ·have c:k<j9 A:=k4
     refine bF.mZ (R.OX 4 k0 λ_=>rfl) k k0 c λx hx=>?_;refine(FF P f n M x _ R (St.fw 0 k0 λh' y=>y.1) hx (T _ (qh _)) u o.even o.lead (U o)).mono ?_;rintro v h9 ⟨⟨b,rfl⟩,H9⟩;refine⟨b,k0,⟨k+1,ld,⟨k4,_,?_,H9⟩,k4⟩⟩;rw[aH _ _ c];exact ZX o (T _ (qh c))
    ·rw[qi k4]at o;refine⟨p,(R.box 2 k0).aS _ k0,(abk p seed w W h8 (dS.up hW R.aj) hl hr).mono ?_⟩;rintro v h9 ⟨Q,rfl,R9⟩;have H9:=R.comp R9;refine⟨Q,k0,?_⟩;have a2:∀m∈W.map (dj p seed),aT n m/\m.length<=2^20:=λm K=>by
      obtain⟨l,ap,rfl⟩:=qo.1 K;refine⟨?_,zf (Nh p seed l) (hr l ap)⟩;have:=VH p seed l;rw[hn]at this;exact this
     let d:au->Bool:=λg=>decide ((mG p seed W g:Int)≠bD p);have wI:jJ p seed W t.toNat=L.find? d:=by unfold jJ;rw[<-hL]
     have bd:=(H9.acE 3 k0).1;refine aw (λk:Nat=>(k:Int)) (λk h'=>k<=j9 L/\(L.take k).find? d=eH/\Sp h h' [iq P f n M,ao f 197 db,ao a 24 [xb xi p.1,xb xi p.2.1,xb xi p.2.2],ct 22 r 1 bo (cF 1 aq) L,ct 34 ar 1 bo (cF 1 aD) A,ct 85 Q 1 bo HX (W.map (dj p seed))]) (λk=>j9 L-k) 0 k0 ⟨k4,k9,H9⟩ ?_;rintro k a1 ⟨a9,B,s⟩;refine ai (λe3=>?_) (λe3=>?_)
     ·have c:k<j9 L:=k4
      refine bF.aiD (s.OX 3 k0 λ_=>rfl) k k0 c λad x a3 N hx=>?_;obtain⟨a0,hb,a5⟩:=iq.rd s 0 rfl;have a7:L[k].length<=2^30:=by
       have a4:L[k]∈xn W.length t.toNat:=by have h0:L[k]∈L:=qh c;generalize L[k]=y at h0;rw[hL]at h0;exact h0
       obtain⟨g,hg,a6⟩:=qo.1 a4;have:=(xT hg).1;rw[<-a6,lj,this];have:=I.2.1;have:=I.2.2;omega
      refine(VI P f n M A a0 Q x (W.map (dj p seed)) L[k] a1 hb a5 (s.box 1 k0) (s.OX 5 k0 λ_=>rfl) hx u o a2 k8 a7).mono ?_;rintro v bl ⟨rfl,X⟩;have ax:(decide (ca (A++lQ (W.map (dj p seed)) L[k] (W.map (dj p seed)).length)=n))=!d L[k]:=by
       rw[PZ,qw,F,<-abl H];show _=!decide ((mG p seed W L[k]:Int)≠bD p);rw[hn];unfold mG nC;by_cases hh:ca (dR p seed (mT W L[k] W.length))=n
       ·simp[hh]
       ·rw[j7 hh,j6 k4];rfl
      rw[ax];have V:=s.up X.aj;refine⟨_,k0,bj (λe4=>?_) λe4=>?_⟩
      ·have O:d L[k]=eR:=by simpa using e4
       have S:=Qa d L c B;rw[j1 O]at S;have z:gU p seed W t=(L[k],eR,0):=by rw[wR,wI,abm d L S]
       refine⟨x,by rw[z],?_⟩;rw[z];have a8:=V.Wu 3 k0 λ_=>rfl;have E:=py N X.aj;have ay:=a8.gF (D:=EA (cF 1 aq) x L[k]) 3 k0 λq hq=>bF.pick hq k c a3 E;exact ay.take 3 λi A' hi=>by cases i with|zero=>exact hi|succ i=>simp at hi
      ·have O:d L[k]=eS:=by simpa using e4
       have S:=Qa d L c B;rw[O]at S;exact⟨k+1,ld,⟨k4,S,V⟩,k4⟩
     ·rw[qi k4]at B;have z:gU p seed W t=([],eS,0):=by rw[wR,wI,B]
      refine⟨⟨eH,0,0⟩,by rw[z],?_⟩;rw[z];exact j s.aj
  ·rw[j3 λhh=>I (J.1 hh)]at G;obtain⟨rfl,rfl⟩:=G;refine⟨(⟨eH,0,0⟩,1),k0,bR (λ_=>?_) λe=>ln⟩;refine⟨⟨eH,0,0⟩,?_,?_⟩<;>(unfold gU;rw[j1 H,j3 I])
   exact j Z.aj
end Go.Qw
namespace Wl
open Go Go.Qw Go.Vc
def kt(W:bz)(id:Int):Bool:=W.any λl=>decide (id∈l)
def CB(W:bz):Nat:=W.flatten.foldr (λx a=>max a x.toNat) 0
theorem Uf{x:Int}:∀{l:au},x∈l->x.toNat<=l.foldr (λx a=>max a x.toNat) 0
 |[],h=>l9
 |y::l,h=>by
  rw[List.foldr_cons];rcases qV.1 h with rfl|h
  ·omega
  ·have:=Uf h;omega
theorem OK{W:bz}{x:Int}(h:x∈W.flatten):x.toNat<=CB W:=Uf h
theorem OL{W:bz}{i:Nat}(h:kt W (i:Int)=eR):i<=CB W:=by unfold kt at h;rw[List.any_eq_true]at h;obtain⟨l,b,a⟩:=h;have:=OK (List.mem_flatten.2 ⟨l,b,j8 a⟩);omega
def rz(W:bz):Nat->Nat->Nat
 |0,i=>i
 |f+1,i=>if kt W (i:Int)then rz W f (i+1)else i
def cP(W:bz):Nat:=rz W (CB W+1) 0
theorem CC(W:bz):∀f i,CB W<f+i->kt W (rz W f i:Int)=eS/\i<=rz W f i/\∀j,i<=j->j<rz W f i->kt W (j:Int)=eR
 |0,i,h=>by
  refine⟨?_,ql _,λj g d=>absurd d (by unfold rz;omega)⟩;cases e:kt W ((rz W 0 i:Nat):Int)with
  |false=>rfl
  |true=>have:=OL e;unfold rz at this;omega
 |f+1,i,h=>by
  unfold rz;cases e:kt W (i:Int)with
  |false=>rw[j3 k6];exact⟨e,ql _,λj g d=>k4⟩
  |true=>
   rw[j1 rfl];obtain⟨a,b,c⟩:=CC W f (i+1) k4;refine⟨a,k4,λj g d=>?_⟩;by_cases k:j=i
   ·rw[k];exact e
   ·exact c j k4 d
theorem abn(W:bz):kt W (cP W:Int)=eS:=(CC W _ 0 k4).1
theorem HZ{W:bz}{j:Nat}(h:j<cP W):kt W (j:Int)=eR:=(CC W _ 0 k4).2.2 j (Nat.zero_le _) h
theorem Ni{W:bz}{i:Nat}(b:kt W (i:Int)=eS)(a:∀j,j<i->kt W (j:Int)=eR):cP W=i:=by
 rcases Nat.lt_trichotomy (cP W) i with h|h|h
 ·have:=a _ h;rw[abn W]at this;cases this
 ·exact h
 ·have:=HZ h;rw[b]at this;cases this
theorem Ug(W:bz):cP W<=CB W+1:=by
 cases e:cP W with
 |zero=>omega
 |succ n=>have:=OL (HZ (W:=W) (j:=n) k4);omega
def dG(live:au)(s:Int):Int:=match live.idxOf? s with|some k=>(k:Int)|none=>-1
def ir(m:aE)(c:aY)(w:Pow)(ds:aF)(s:Int)(d:bp):Int×Pow×aF:=
 let r:=fY m w d 1
 if r.1≠0 then(r.1,r.2.1,bT ds s r.2.2)else
  let q:=r.2.2.append r.2.1 c
  (q.1,q.2.1,bT (bT ds s r.2.2) s q.2.2)
def fJ(m:aE)(live set:au)(order:au)(c:aY)(id:Nat)(w:Pow)(ds:aF):List Nat->(Int×Pow×aF)×Int×Int
 |[]=>((7,w,ds),0,0)
 |i::l=>
  let s:=dK order ((id:Int)+i)
  match aW ds s with
  |none=>fJ m live set order c id w ds l
  |some d=>if dG live s∈set∨fy m d 1=eS then fJ m live set order c id w ds l
   else(ir m c w ds s d,dG live s,s)
structure gY where
 o:Int
 b:Int
 seed:Int
 M:aM
 W:bz
 got:au
 deriving Inhabited
def gY.Ia(x:gY)(m:aE)(id:Nat):cX:=⟨x.o,x.b,id,m.p,x.seed,if bW id then fS m.p.2.2.toNat x.M (dt (bD m.p).toNat x.seed id)else[]⟩
def gY.nw(x:gY)(id:Nat)(k s:Int):gY:={x with W:=x.W.set k.toNat (x.W.getD k.toNat []++[(id:Int)]),got:=x.got++[s]}
def dc(m:aE)(live set:au)(w:Pow)(ds:aF)(x:gY):Int×Pow×aF×gY:=
 let id:=cP x.W;let o:=cK x.o x.b live;let r:=fJ m live set o (cL (x.Ia m id)) id w ds (List.range o.length)
 (r.1.1,r.1.2.1,r.1.2.2,if r.1.1=0 then x.nw id r.2.1 r.2.2 else x)
def cj(m:aE)(live:au)(t most:Int):Nat->Pow->aF->gY->Int×Pow×aF×gY
 |0,w,ds,x=>(12,w,ds,x)
 |f+1,w,ds,x=>
  let r:=gU m.p x.seed x.W t
  if r.2.2≠0 then(r.2.2,w,ds,x)else if r.2.1=eS then(0,w,ds,x)else if(j9 x.got:Int)>=most then(12,w,ds,x)else
   let q:=dc m live r.1 w ds x
   if q.1≠0 then q else cj m live t most f q.2.1 q.2.2.1 q.2.2.2
end Wl
namespace Go.Qw
open Go Go.Vc Go.Proofs Wl
theorem OM(s:Sl)(l:Row)(c:UInt8)(h:hZ)(p:Rd h s 1 aD l)(u:s.len<=s.cap)(w:j9 l<=2^30):
  ab xm 274 #[s,xb xj c.toNat] h λv h'=>∃k:Nat,v=xc s.ptr k s.cap/\k<=j9 l/\(∀j (f:j<j9 l),k<=j->l[j]=c)/\(∀(d:k-1<j9 l),0<k->l[k-1]≠c)/\h'=h:=by
 refine Ba s _ ?_;unfold pu;have n:=p.len;refine bi ?_;refine aw (λk:Nat=>(⟨s.ptr,k,s.cap⟩:Sl)) (λk h'=>h'=h/\k<=j9 l/\∀j (f:j<j9 l),k<=j->l[j]=c) (λk=>k) l.length (by rw[<-n]) ⟨k0,ql _,λj f d=>k4⟩ ?_;rintro k y ⟨rfl,d,b⟩;dsimp only;refine bi (ai (λe=>?_) λe=>?_)
 ·have r:0<k:=k4
  rw[ag _];refine(p.take k d).bC (g:=λx:UInt8=>Value.int .u8 x.toNat) (k-1) k4 k8 (l[k-1]'(by omega)) (by simp[aD]) ?_|>λ⟨a,ha,x,hx,hK⟩=>⟨a,ha,x.toNat,hx,hK⟩
  refine dD (λm=>?_) (λm=>?_)
  ·have o:l[k-1]'(by omega)=c:=by
    have:(l[k-1]'(by omega)).toNat=c.toNat:=by exact_mod_cast m
    exact yI.1 this
   refine⟨⟨k4,k4⟩,k-1,by congr 1;omega,⟨k0,k4,λj f q=>?_⟩,k4⟩;by_cases i:j=k-1
   ·subst i;exact o
   ·exact b j f k4
  ·refine⟨k,k0,d,b,λ_ _ t=>m (by rw[t]),k0⟩
 ·exact⟨k,k0,d,b,λ_ h0=>k4,k0⟩
theorem Ra(s:Sl)(l:Row)(c:UInt8)(h:hZ)(p:Rd h s 1 aD l)(q:s.len<=s.cap)(D:j9 l<=2^30):
  ab xm 273 #[s,xb xj c.toNat] h λv h'=>(∃r:Sl,v=r/\(r.len=0↔∀x∈l,x=c))/\h'=h:=by
 refine Cn s _ ?_;unfold rg;have z:=p.len;refine bO (λr h'=>h'=h/\(r.len=0↔∀x∈l,x=c)) ?_ ?_
 ·refine aw (λt:Sl×Nat=>t.1) (λt h'=>h'=h/\t.2<=j9 l/\(∀j (d:j<j9 l),j<t.2->l[j]=c)/\Rd h t.1 1 aD (l.drop t.2)/\t.1.len<=t.1.cap) (λt=>j9 l-t.2) (s,0) k0 ⟨k0,k9,λj _ d=>k4,n9,q⟩ ?_;rintro⟨r,k⟩ A ⟨rfl,E,a,b,g⟩;dsimp only at*;have m:=b.len;rw[ze]at m;refine bi (ai (λe=>?_) λe=>?_)
  ·have i:k<j9 l:=k4
   refine b.bC 0 k0 ns _ k0 ?_;have B:(l.drop k)[0]'(by rw[ze];omega)=l[k]:=k9
   rw[B];refine dD (λf=>?_) (λf=>?_)
   ·have o:l[k]=c:=by
     have:(l[k]).toNat=c.toNat:=by exact_mod_cast f
     exact yI.1 this
    refine⟨⟨k4,k4⟩,(⟨if r.cap=1 then r.ptr else r.ptr.map (·.add (1*1)),r.len-1,r.cap-1⟩,k+1),k0,⟨k0,k4,λj d n=>?_,?_,k7⟩,k7⟩
    ·rcases zu.1 n with h2|rfl
     ·exact a j d h2
     ·exact o
    ·have:=b.drop 1 g;rw[zL]at this;exact this
   ·refine⟨k0,⟨λh0=>k4,λy=>absurd ?_ f⟩⟩;rw[y _ (qh i)]
  ·have w:k=j9 l:=k4
   refine⟨k0,⟨λ_ x u=>?_,λ_=>by show r.len=0;omega⟩⟩;obtain⟨j,d,rfl⟩:=qK u;exact a j d k4
 ·rintro r A ⟨rfl,b⟩;refine dD (λe=>?_) (λe=>?_)
  ·exact⟨⟨⟨eH,0,0⟩,k0,by rw[<-b];exact⟨λ_=>k4,λ_=>rfl⟩⟩,k0⟩
  ·exact⟨⟨r,k0,b⟩,k0⟩
theorem Qb(s:Sl)(l:Row)(cut:ByteArray)(a:cut=⟨#[0]⟩)(h:hZ)(d:Rd h s 1 aD l)(f:s.len<=s.cap)(i:j9 l<=2^30):
  ab xm 221 #[s,xf cut] h λv h'=>(∃r:Sl,v=r/\(r.len=0↔∀x∈l,x=0))/\h'=h:=by
 subst a;refine Ov s _ ?_;unfold Hm;have n:=d.len;refine dD (λe=>?_) (λe=>?_)
 ·refine⟨⟨⟨eH,0,0⟩,k0,⟨λ_ x b=>?_,λ_=>rfl⟩⟩,k0⟩;have:l=[]:=List.eq_nil_of_length_eq_zero k4;subst this;cases b
 ·refine xH l4 (bi (FX l4 ?_));refine⟨0,⟨k6,k0⟩,FX k6 ?_⟩;refine⟨0,⟨k6,k0⟩,0,⟨k6,k0⟩,?_⟩;refine(OM s l 0 h d f i).mono ?_;rintro v o ⟨k,rfl,p,m,h3,rfl⟩;refine⟨⟨s.ptr,k,s.cap⟩,k0,trivial,?_⟩;refine(Ra ⟨s.ptr,k,s.cap⟩ (l.take k) 0 o (d.take k p) (by show k<=s.cap;omega) k8).mono ?_;rintro v u ⟨⟨r,rfl,t⟩,rfl⟩;refine⟨r,k0,trivial,⟨r,k0,t.trans ⟨λc x b=>?_,λc x b=>c x (zI b)⟩⟩,k0⟩;obtain⟨j,g,rfl⟩:=qK b;by_cases q:j<k
  ·exact c _ (by rw[List.mem_take_iff_getElem];exact⟨j,k4,k0⟩)
  ·exact m j g k4
def qv(x:Sl×Sl):ba:=[x.1,x.2]
theorem abo:∀x,∀c∈qv x,c.oneCell'=eR:=λx c a=>by
 simp only[qv,qV,vJ,or_false]at a;rcases a with rfl|rfl<;>rfl
def jK:jy (Sl×Sl) fu:=⟨λh q a e=>Seq h q a.1 1 aq e.1/\Seq h q a.2 1 aD e.2,λa c=>⟨a.1.aj c,a.2.aj c⟩,λa b=>⟨a.1.mono b,a.2.mono b⟩⟩
abbrev rC:jy Sl (List fu):=bF jK 2 qv
abbrev ais:jy Sl aM:=bF (ui 1 aD) 1 bo
abbrev eQ:ce C.toCG 273 275 2 [xc eH 0 0,xc eH 0 0] 48:=⟨_,_,k0,k0,k0,k0,k0,k0⟩
abbrev abp:ce C.toCG 85 34 1 [xc eH 0 0] 24:=⟨_,_,k0,k0,k0,k0,k0,k0⟩
abbrev afq:ce C.toCG 282 4 1 [xg eS] 1:=⟨_,_,k0,k0,k0,k0,k0,k0⟩
theorem rC.get{h:hZ}{q:aB}{s:Sl}{L:List fu}(x:rC.p h q s L){i:Int}(n:Nat)(c:i=n)(b:n<j9 L){K:Sl×Sl->Prop}(e:∀r,jK.p h q r L[n]->K r):
  ∃a:hU,(s.ptr=dB a/\0<=i/\i<((s.len:Nat):Int))/\∃x:Sl×Sl,an h (a.add (i.toNat*2)) 0 [x.1,x.2]/\K x:=by
 obtain⟨rs,d,f,h3⟩:=bF.jh x;exact d.ey (g:=qv) n c k4 (rs[n]'(by omega)) k0 (e _ (h3 n k4 b))
structure AF (h:hZ) (p:hU) (l k v:Sl) (L:List fu) (kn:List Bool) (vs:aM):Prop where
 box:cA h p 326 [l,k,v]
 eqs:dS rC h l L
 known:Rd h k 1 fi kn
 vals:dS ais h v vs
theorem AF.up{h h':hZ}{p:hU}{l k v:Sl}{L:List fu}{kn:List Bool}{vs:aM}(x:AF h p l k v L kn vs)(a:aX (λb=>b<h.size) h h'):AF h' p l k v L kn vs:=
 ⟨x.box.aj a x.box.lt,dS.up x.eqs a,Seq.up x.known a,dS.up x.vals a⟩
theorem Uh{kn:List Bool}{c:Int}(b:0<=c)(a:c.toNat<j9 kn):Wl.kn kn c=kn[c.toNat]:=by unfold Wl.kn;rw[qe,qd a];rfl
theorem mM{m:aM}{i:Nat}(h:i<j9 m):aC m i=m[i]:=bv h
theorem jR{α:Type}(f:α->Bool)(l:List α){k:Nat}(a:k<j9 l):(l.take (k+1)).filter f=(l.take k).filter f++if f l[k]then[l[k]]else[]:=by rw[aH _ _ a,zl,zp];cases f l[k]<;>rfl
theorem tZ(V:aM)(a:Row)(l:au)(c:Int):cW V a (l++[c])=cY 1 (aC V c.toNat) (cW V a l):=by unfold cW;rw[wv];rfl
theorem WX(a t:Row):cY 1 a t=zh (λx y=>y^^^x) a t:=by unfold cY;congr 1;funext x y;rw[Gf.one_mul]
theorem Ib{a t:Row}(c:j9 a=j9 t){k:Nat}(b:k<j9 t:=by omega):(zh (λx y=>y^^^x) (a.take k) (t.take k)++t.drop k).set k (t[k]^^^(a[k]'(by omega)))=zh (λx y=>y^^^x) (a.take (k+1)) (t.take (k+1))++t.drop (k+1):=by
 have d:j9 (zh (λx y=>y^^^x) (a.take k) (t.take k))=k:=k8
 rw[qX _ _ k4,d,zc,qP b,zx,aH _ _ b,aH _ _ (show k<j9 a by omega),yx k8];simp
theorem Ui(p:hU)(l k v:Sl)(L:List fu)(kn:List Bool)(vs:aM)(n:Nat)(h:hZ)(t:AF h p l k v L kn vs)(H:j9 kn=n)(I:∀e∈L,∀c∈e.1,0<=c/\c<(n:Int))(V:j9 L<=2^30)(D:∀e∈L,j9 e.1<=2^30):
  ab xm 306 #[xd (dB p)] h λv h'=>(∃i:Int,v=xb xi i/\(0<=i->∃(Q:i.toNat<j9 L),j9 ((L[i.toNat]).1.filter λc=>!Wl.kn kn c)=1))/\Sp h h' []:=by
 refine Eu (dB p) ?_;unfold tQ;have K:=bF.len t.eqs;refine⟨p,k0,l,t.box.cell0 k0,?_⟩;refine aw (λi:Nat=>(i:Int)) (λi h'=>i<=j9 L/\Sp h h' []) (λi=>j9 L-i) 0 k0 ⟨k4,Sp.refl h⟩ ?_;rintro i P ⟨Q,z⟩;refine ai (λe=>?_) λe=>⟨⟨-1,k0,λS=>k4⟩,z⟩;have g:i<j9 L:=k4
 refine rC.get (dS.up t.eqs z.aj) i k0 g λx M=>?_;refine(Sp.refl P).alloc ac k0 λa T F=>?_;refine F.storeAll ac 0 k0 k0 (qv x) k0 k0 k0 k0 λh3 u=>?_;have A:=up z.aj u.aj;have r:=t.up A;have s:=jK.mono (jK.loc M u.aj) λb O=>q7 O u.aj.1;have B:=u.box 0 k0;refine⟨x.1,B.cell0 k0,?_⟩;have J:=s.1.len;have E:=D _ (qh g);let d:Nat->Nat:=λj=>j9 (((L[i]).1.take j).filter λc=>!Wl.kn kn c);refine aw (λj:Nat=>(((d j:Nat):Int),(j:Int))) (λj h'=>h'=h3/\j<=(L[i]).1.length) (λj=>(L[i]).1.length-j) 0 u6 ⟨k0,k4⟩ ?_;rintro j U ⟨rfl,R⟩;dsimp only;have N:d j<=j:=zf (qT _ _) k8;refine ai (λG=>?_) (λG=>?_)
 ·have f:j<(L[i]).1.length:=k4
  have w:=I _ (qh g) _ (qh f);refine s.1.bC j k0 f _ k0 ?_;refine⟨p,k0,k,r.box.cell k0,?_⟩;refine r.known.bC (L[i]).1[j].toNat k4 k4 _ k0 ?_;rw[ag ((j:Int)+1),ag _];have q:=Uh (kn:=kn) w.1 k4;refine bj (λm=>?_) (λm=>?_)
  ·refine⟨j+1,?_,⟨k0,k4⟩,k4⟩;have:d (j+1)=d j+1:=by simp only[d];rw[jR _ _ f,q,m];simp
   rw[this];rfl
  ·refine⟨j+1,?_,⟨k0,k4⟩,k4⟩;have:d (j+1)=d j:=by simp only[d];rw[jR _ _ f,q,m];simp
   rw[this];rfl
 ·have y:j=(L[i]).1.length:=k4
  subst y;have o:d (L[i]).1.length=j9 ((L[i]).1.filter λc=>!Wl.kn kn c):=by simp only[d];rw[qS]
  rw[o];refine dD (λm=>⟨⟨i,k0,λ_=>⟨k4,by exact_mod_cast m⟩⟩,.zip A⟩) λm=>?_;exact⟨i+1,ld,⟨k4,.zip A⟩,k4⟩
theorem Qc(p:hU)(l k v:Sl)(L:List fu)(kn:List Bool)(vs:aM)(n w:Nat)(x:Sl×Sl)(e:fu)(h:hZ)(hP:AF h p l k v L kn vs)(M:kb n w L kn vs)(P:dS jK h x e)(H:jc n w e)(hw:w<=2^20)(ad:j9 e.1<=2^20):
  ab xm 265 #[xd (dB p),xh #[x.1,x.2]] h λr h'=>∃a b:Sl,r=xh #[a,b]/\Sp h h' [al 3 a 1 aq (fx kn vs e).1,al 5 b 1 aD (fx kn vs e).2]:=by
 refine Et (dB p) x ?_;unfold tO;refine(Sp.refl h).boxed λV h1 H1=>?_;refine H1.alloc ac k0 λW h2 U=>?_;have P2:=U.aj;refine⟨x.2,(U.box 0 k0).cell k0,(fA x.2 e.2 h2 (Seq.up P.2 P2) (by have:=H.len;omega)).mono ?_⟩;rintro vv h3 ⟨d,rfl,R3⟩;have H3:=U.comp R3;refine⟨d,k0,H3.alloc ac k0 λa5 h4 H4=>?_⟩;refine H4.storeAll ac 3 k0 k0 (qv (⟨eH,0,0⟩,d)) k0 k0 k0 k0 λh5 H5=>?_;have Y:Sp h h5 [ao V 275 (qv x),ao W 275 [xc eH 0 0,xc eH 0 0],al 5 d 1 aD e.2,ao a5 275 (qv (⟨eH,0,0⟩,d)),al 3 ⟨eH,0,0⟩ 1 aq []]:=H5.nil 3 1 aq;refine⟨x.1,(Y.box 0 k0).cell0 k0,?_⟩;have am:=P.1.len;have ap:=M.klen;have ax:=M.vlen;refine aw (λt:Nat×Sl=>(t.1:Int)) (λt h'=>t.1<=j9 e.1/\Sp h h' [ao V 275 (qv x),ao W 275 [xc eH 0 0,xc eH 0 0],al 5 d 1 aD (cW vs e.2 ((e.1.take t.1).filter λc=>Wl.kn kn c)),ao a5 275 (qv (t.2,d)),al 3 t.2 1 aq ((e.1.take t.1).filter λc=>!Wl.kn kn c)]) (λt=>j9 e.1-t.1) (0,⟨eH,0,0⟩) k0 ⟨k9,by simpa[cW]using Y⟩ ?_;rintro⟨j,o⟩ h7 ⟨hj,q⟩;dsimp only at*;have u:j9 (cW vs e.2 ((e.1.take j).filter λc=>Wl.kn kn c))=w:=ka H.len λc hc=>by
  have F:=qH.1 hc;have G:=zI F.1;exact M.GD (H.cZ c G).1 (H.cZ c G).2 F.2
 have ay:j9 ((e.1.take j).filter λc=>!Wl.kn kn c)<=j:=zf (qT _ _) k8;refine ai (λe2=>?_) (λe2=>?_)
 ·have f:j<j9 e.1:=k4
  have s:=H.cZ _ (qh f);have z:=hP.up q.aj;refine(Seq.up P.1 q.aj).bC j k0 f _ k0 ?_;refine⟨p,k0,k,z.box.cell k0,?_⟩;refine z.known.bC (e.1[j]).toNat k4 k4 _ k0 ?_;have J:=Uh (kn:=kn) s.1 k4;refine bj (λB=>?_) (λB=>?_)
  ·rw[<-J]at B;refine⟨o,(q.box 3 k0).cell0 k0,?_⟩;refine q.push ac 4 k0 fN k0 k6 (λ_=>rfl) eT e.1[j] k0 k6 k4 λZ h8 i=>?_;refine i.lC ac 3 k0 k0 [Z] k0 k0 k0 (by simp[qv]) λh9 N=>?_;refine⟨(j+1,Z),lb,⟨k7,?_⟩,k7⟩;dsimp only;rw[jR _ _ f,jR _ _ f,B];simp only[Bool.not_false,if_true,zk,if_false,qL];exact N
  ·rw[<-J]at B;have I:=M.GD s.1 s.2 B;rw[mM k4]at I;refine⟨p,k0,v,z.box.cell k0,?_⟩;obtain⟨vr,R,ah,O⟩:=bF.jh hP.vals;have g:(e.1[j]).toNat<j9 vs:=k4
   refine(Seq.up R q.aj).md (e.1[j]).toNat k4 k4 ?_;have K:=(O (e.1[j]).toNat k4 g).1;have E:=K.len;generalize vr[(e.1[j]).toNat]'(by omega)=y at K E⊢;obtain⟨A,hA⟩:∃A,A=vs[(e.1[j]).toNat]'g:=⟨_,rfl⟩
   obtain⟨D,hD⟩:∃D,D=cW vs e.2 ((e.1.take j).filter λc=>Wl.kn kn c):=⟨_,rfl⟩
   rw[<-hA]at I K E;rw[<-hD]at q u;refine aw (λm:Nat=>(m:Int)) (λm h'=>m<=w/\Sp h h' [ao V 275 (qv x),ao W 275 [xc eH 0 0,xc eH 0 0],al 5 d 1 aD (zh (λx y=>y^^^x) (A.take m) (D.take m)++D.drop m),ao a5 275 (qv (o,d)),al 3 o 1 aq ((e.1.take j).filter λc=>!Wl.kn kn c)]) (λm=>w-m) 0 k0 ⟨k4,x0⟩ ?_;rintro m h8 ⟨hm,i⟩;have X:j9 (zh (λx y=>y^^^x) (A.take m) (D.take m))=m:=k8
   refine ai (λe4=>?_) (λe4=>?_)
   ·have ar:m<w:=k4
    refine(Seq.up K i.aj).bC m k0 k4 _ k0 ?_;refine⟨d,(i.box 3 k0).cell k0,?_⟩;refine(i.seq 2 k0 λ_=>rfl).bC m k0 k8 _ k0 ?_;have T:((zh (λx y=>y^^^x) (A.take m) (D.take m)++D.drop m)[m]'(by simp;omega))=D[m]'(by omega):=by rw[zX k4];simp[X]
    rw[T,ow];refine i.set ac 2 k0 (λ_=>rfl) k0 m k0 k8 (D[m]'(by omega)^^^A[m]'(by omega)) k0 k0 k0 λh9 N=>?_;rw[Ib k4]at N;exact⟨m+1,ld,⟨k4,N⟩,k4⟩
   ·have Q:m=w:=k4
    subst Q;refine⟨(j+1,o),lb,⟨k7,?_⟩,k7⟩;dsimp only;rw[jR _ _ f,jR _ _ f,B];simp only[Bool.not_true,if_true,zk,if_false,qL];rw[tZ,mM g,<-hA,<-hD,WX];rw[qi k4,qi k4,zi k4,qL]at i;exact i
 ·have S:j=j9 e.1:=k4
  subst S;rw[qS]at q;refine⟨(o,d),(q.box 3 k0).aS _ k0,?_⟩;refine q.storeAll ac 1 k0 k0 (qv (o,d)) k0 k0 k0 k0 λh8 i=>?_;refine⟨(o,d),(i.box 1 k0).aS _ k0,o,d,k0,?_⟩;exact i.cD [4,2]
theorem aa.aiK{B:aB}{c h:hZ}{As:List HP}{e k:Nat}{α:Type}{f:α->ba}{s:Sl}{l:List α}(H:aa B c h As)(i:Nat)(m:As[i]?=dB (al e s k f l))(d:∀x,j9 (f x)=k)(g:l≠[]):aa B c h (As.set i (EA (ui k f) s l)):=
 H.gF i m λq ⟨a,b⟩=>⟨a.seq d b,λj=>absurd j g⟩
theorem count_set{l:List Bool}:∀{i:Nat} (h:i<j9 l),l[i]=eS->((l.set i eR).count eS)+1=l.count eS:=by
 induction l with
 |nil=>intro i h;simp at h
 |cons a l ih=>
  intro i h b;cases i with
  |zero=>simp at b;subst b;simp
  |succ i=>
   have:=ih (i:=i) l6 m5;rw[List.set_cons_succ,List.count_cons,List.count_cons];omega
theorem abq(p:hU)(l k v:Sl)(L:List fu)(n w:Nat)(o h:hZ)(Q:dS rC o l L)(E:∀e∈L,jc n w e)(hn:n<=64)(X:j9 L<=2^20)(T:1<=w/\w<=2^20)(B:∀e∈L,j9 e.1<=2^20)
  (H:Sp o h [ao p 326 [l,k,v],al 4 k 1 fi (qg n eS),ct 34 v 1 bo (ui 1 aD) (qg n [])]):
  ab xm 264 #[xd (dB p)] h λr h'=>r=.tuple #[]/\∃kn vs,kb n w L kn vs/\Sp o h' [ao p 326 [l,k,v],al 4 k 1 fi kn,ct 34 v 1 bo (ui 1 aD) vs]:=by
 refine FM (dB p) ?_;unfold uH;refine aw (λ_:List Bool×aM=>()) (λt h'=>kb n w L t.1 t.2/\Sp o h' [ao p 326 [l,k,v],al 4 k 1 fi t.1,ct 34 v 1 bo (ui 1 aD) t.2]) (λt=>t.1.count eS) (qg n eS,qg n []) k0 ⟨XN n w L,H⟩ ?_;rintro⟨kn,vs⟩ N ⟨j,O⟩;dsimp only at*;have K:=j.klen;have ad:=j.vlen;have mk:∀{y},Sp o y [ao p 326 [l,k,v],al 4 k 1 fi kn,ct 34 v 1 bo (ui 1 aD) vs]->AF y p l k v L kn vs:=λf=>
  ⟨f.box 0 k0,dS.up Q f.aj,f.seq 1 k0 λ_=>rfl,f.OX 2 k0 λ_=>rfl⟩
 refine(Ui p l k v L kn vs n N (mk O) K (λe I=>(E e I).cZ) k4 λe I=>by have:=B e I;omega).mono ?_;rintro _ y ⟨⟨i,rfl,hi⟩,R⟩;refine⟨i,k0,?_⟩;have f:=O.up R.aj;refine ai (λe=>⟨k0,kn,vs,j,f⟩) λe=>?_;have F:0<=i:=Int.not_lt.1 e;obtain⟨A,u⟩:=hi F;have g:=mk f;refine⟨p,k0,l,g.box.cell0 k0,?_⟩;refine rC.get g.eqs i.toNat k4 A λx S=>?_;have d:=qh A;refine(Qc p l k v L kn vs n w x L[i.toNat] y g j S (E _ d) T.2 (B _ d)).mono ?_;rintro _ h3 ⟨a,b,rfl,V⟩;refine⟨(a,b),k0,?_⟩;obtain⟨c,D⟩:∃c,(fx kn vs L[i.toNat]).1=[c]:=by
  have N:(fx kn vs L[i.toNat]).1.length=1:=u
  match y:(fx kn vs L[i.toNat]).1,N with
  |[c],_=>exact⟨c,k0⟩
 have z:=j.CM (E _ d);have G:=z.cZ c (by rw[D];simp);have q:Wl.kn kn c=eS:=GF j L[i.toNat] c (by rw[D];simp);rw[Uh G.1 k4]at q;have P:=f.comp V;rw[D]at P;refine P.alloc ac k0 λa8 h4 W=>?_;refine W.storeAll ac 5 k0 k0 (qv (a,b)) k0 k0 k0 k0 λh5 m=>?_;refine⟨p,k0,k,(m.box 0 k0).cell k0,a,(m.box 5 k0).cell0 k0,?_⟩;have s:=m.seq 3 k0 λ_=>rfl;refine s.bC 0 k0 k9 c k0 ?_;refine⟨p,k0,v,(m.box 0 k0).cell k0,a,(m.box 5 k0).cell0 k0,?_⟩;refine s.bC 0 k0 k9 c k0 ?_;refine⟨b,(m.box 5 k0).cell k0,?_⟩;refine m.set ac 1 k0 (λ_=>rfl) k0 c.toNat k4 k4 eR k0 k0 k0 λh6 M=>?_;refine⟨⟨(M.box 5 k0).cell k0,(M.box 5 k0).cell0 k0,trivial⟩,?_⟩;have J:(fx kn vs L[i.toNat]).2≠[]:=λU=>by have:=z.len;rw[U]at this;simp at this;omega
 have Y:=aa.aiK M 4 k0 (λ_=>rfl) J;refine Y.aiC ac 2 4 k6 k0 k0 (λ_=>rfl) k0 c.toNat k4 k4 k0 k0 k0 λh8 Z=>⟨trivial,?_⟩
 refine⟨(kn.set c.toNat eR,vs.set c.toNat (fx kn vs L[i.toNat]).2),k0,⟨ZY j E d D,Z.cD [0,1,2]⟩,?_⟩;have:=count_set (l:=kn) (i:=c.toNat) k4 q;dsimp only;omega
theorem VK(s:Sl)(l:Row)(h:hZ)(d:Rd h s 1 aD l)(b:s.len<=s.cap)(c:j9 l<=2^30):
  ab xm 266 #[s] h λv h'=>v=xg (!(l.any (· !=0)))/\h'=h:=by
 refine ME s ?_;unfold Fy;refine(Qb s l _ k0 h d b c).mono ?_;rintro _ e ⟨⟨r,rfl,a⟩,rfl⟩;refine⟨r,k0,?_,k0⟩;congr 1;rw[vq];simp only[beq_iff_eq,Bool.not_eq_true',List.any_eq_false,bne_iff_ne,ne_eq,Decidable.not_not];rw[<-a];omega
def ON(l:au):Prop:=∀i (h:i+1<j9 l),l[i]<l[i+1]
theorem Rb(n:Nat)(l:Sl)(L:List fu)(w:Nat)(h:hZ)(r:dS rC h l L)(G:∀e∈L,jc n w e/\ON e.1)(hn:n<=64)(Y:j9 L<=2^20)(A:∀e∈L,j9 e.1<=2^20):
  ab xm 263 #[xb xi n,l] h λv h'=>v=xg eR/\Sp h h' []:=by
 refine Ox _ l ?_;unfold Hp;have Q:=bF.len r;refine bi (ai (λe=>k4) λ_=>ai (λe=>k4) λ_=>?_);refine aw (λi:Nat=>(i:Int)) (λi h'=>i<=j9 L/\Sp h h' []) (λi=>j9 L-i) 0 k0 ⟨k4,Sp.refl h⟩ ?_;rintro i W ⟨hi,t⟩;refine ai (λe=>?_) λe=>⟨k0,t⟩;have d:i<j9 L:=k4
 refine rC.get (dS.up r t.aj) i k0 d λx R=>?_;refine(Sp.refl W).alloc ac k0 λa h2 J=>?_;refine J.storeAll ac 0 k0 k0 (qv x) k0 k0 k0 k0 λh3 p=>?_;have D:=up t.aj p.aj;have c:=jK.mono (jK.loc R p.aj) λb V=>q7 V p.aj.1;have f:=p.box 0 k0;refine⟨x.1,f.cell0 k0,?_⟩;have O:=c.1.len;have F:=A _ (qh d);obtain⟨o,u⟩:=G _ (qh d);refine aw (λj:Nat=>(j:Int)) (λj h'=>h'=h3/\j<=(L[i]).1.length) (λj=>(L[i]).1.length-j) 0 k0 ⟨k0,k4⟩ ?_;rintro j E ⟨rfl,hj⟩;refine ai (λM=>?_) (λM=>?_)
 ·have k:j<(L[i]).1.length:=k4
  have S:=o.cZ _ (qh k);refine c.1.bC j k0 k _ k0 ?_;refine ai (λe=>k4) λ_=>ai (λe=>k4) λ_=>?_;have B:∃q:Nat,qc xi ((j:Int)+1)=(q:Int)/\(E=E/\q<=(L[i]).1.length)/\(L[i]).1.length-q<(L[i]).1.length-j:=⟨j+1,ld,⟨k0,k4⟩,k4⟩
  refine ai (λT=>?_) λT=>B;refine⟨x.1,f.cell0 k0,?_⟩;rw[ag ((j:Int)-1)];refine c.1.bC (j-1) k4 k4 _ k0 ?_;have H:=u (j-1) k4;have N:(L[i]).1[j-1+1]'(by omega)=(L[i]).1[j]:=by congr 1;omega
  rw[N]at H;exact ai (λe=>absurd H k4) λ_=>B
 ·refine⟨x.2,f.cell k0,?_⟩;obtain⟨rs,X,h8,Z⟩:=bF.jh (dS.up r D);have z:=(Z 0 k4 k4).2.len;obtain⟨s,P,y,I,U⟩:=X.ey (g:=qv) (i:=(0:Int)) 0 rfl k4 (rs[0]'(by omega)) rfl (K:=λy=>y.2.len=w) (by rw[z];exact(G _ (qh (show 0<j9 L by omega))).1.len);refine⟨s,P,y.2,?_,?_⟩
  ·exact I.2.1
  have m:=c.2.len;rw[o.len]at m;refine bR (λe=>absurd (by rw[m,U]) e) λ_=>?_;exact⟨i+1,ld,⟨k4,.zip D⟩,k4⟩
theorem aa.abr{B:aB}{m h:hZ}{As:List HP}{e k:Nat}{α β:Type}{E:jy α β}{f:α->ba}{s:Sl}{n:Nat}{a:α}{b:β}(H:aa B m h As)(i:Nat)(v:As[i]?=dB (al e s k f (qg n a)))(u:∀h,E.p h (λ_=>False) a b):aa B m h (As.set i (ct e s k f E (qg n b))):=
 H.gF i v λq ⟨x,y⟩=>⟨_,λ_=>False,x,λc o=>⟨y c o,λh=>h⟩,λ_ h=>h.elim,k9,λj r l d g=>by
  rw[wb]at d g;split at d
  ·rename_i t;rw[j1 t]at g;cases d;cases g;exact u h
  ·cases d⟩
theorem aa.aiL{B:aB}{f h:hZ}{As:List HP}{e m:Nat}{a b:Sl}{l:au}{r:Row}(H:aa B f h As)(i j:Nat)(c:i≠j)(o:As[i]?=dB (al e a 1 aq l))(n:As[j]?=dB (al m b 1 aD r)):aa B f h ((As.set i (EA jK (a,b) (l,r))).set j emp):=
 H.merge i j c o n λq p _ g k=>⟨g.1.seq (λ_=>rfl) λx d=>.inl (g.2 x d),k.1.seq (λ_=>rfl) λx d=>.inr (k.2 x d)⟩
theorem abs(kn:List Bool)(vs:aM)(L:List fu){i:Nat}(a:i<j9 L):bf kn vs (L.take (i+1))=if(fx kn vs L[i]).1.isEmpty then bf kn vs (L.take i)else bf kn vs (L.take i)++[fx kn vs L[i]]:=by unfold bf;rw[aH _ _ a,qW,zl];cases h:(fx kn vs L[i]).1.isEmpty<;>simp[h]
theorem YD(kn:List Bool)(vs:aM)(L:List fu){i:Nat}(a:i<j9 L):kJ kn vs (L.take (i+1))=(kJ kn vs (L.take i)||((fx kn vs L[i]).1.isEmpty&&(fx kn vs L[i]).2.any (· !=0))):=by unfold kJ;rw[aH _ _ a,qW,yK];simp
theorem YE{kn:List Bool}{vs:aM}{L:List fu}{i:Nat}(h:kJ kn vs (L.take i)=eR):kJ kn vs L=eR:=by rw[<-qJ i L];unfold kJ at*;rw[qW,yK,h];rfl
theorem abt(l:Sl)(L:List fu)(n w:Nat)(h:hZ)(G:dS rC h l L)(X:∀e∈L,jc n w e/\ON e.1)(hn:n<=64)(D:j9 L<=2^20)(hw:1<=w/\w<=2^20)(A:∀e∈L,j9 e.1<=2^20):
  ab xm 216 #[xb xi n,l] h λr h'=>∃kn vs,kb n w L kn vs/\((kJ kn vs L=eR/\r=.tuple #[xc eH 0 0,xc eH 0 0,xc eH 0 0,xb xi 10]/\Sp h h' [])∨
   (kJ kn vs L=eS/\∃k v s:Sl,r=.tuple #[k,v,s,xb xi 0]/\Sp h h' [al 4 k 1 fi kn,ct 34 v 1 bo (ui 1 aD) vs,ct 275 s 2 qv jK (bf kn vs L)])):=by
 refine QN _ l ?_;unfold JK;have ap:=bF.len G;refine(Rb n l L w h G X hn D A).mono ?_;rintro _ h1 ⟨rfl,R1⟩;refine⟨eR,k0,bj (λe=>ln) λ_=>?_⟩;refine bO (λs h'=>∃(p:hU) (k v:Sl),s=dB p/\Sp h h' [ao p 326 [l,k,v],al 4 k 1 fi (qg n eS),ct 34 v 1 bo (ui 1 aD) (qg n [])]) ⟨?_,?_⟩ ?_
 ·refine R1.make ac fi afq k6 eS k0 k0 n n k0 k0 (ql _) k4 λk h2 V R U=>⟨trivial,?_⟩
  refine U.make ac bo abp k6 ⟨eH,0,0⟩ k0 k0 n n k0 k0 (ql _) k4 λv h3 Y M Q=>⟨trivial,?_⟩
  refine Q.boxed λp S I=>⟨trivial,p,k,v,k0,?_⟩
  exact(aa.abr (E:=ui 1 aD) (b:=[]) I 1 k0 λh=>⟨Seq.nil _ _ _ _ _ _,λ_=>rfl⟩).cD [2,0,1]
 ·refine R1.make ac bo abp k6 ⟨eH,0,0⟩ k0 k0 n n k0 k0 (ql _) k4 λv h3 Y M Q=>⟨trivial,?_⟩
  refine Q.make ac fi afq k6 eS k0 k0 n n k0 k0 (ql _) k4 λk h2 V R U=>⟨trivial,?_⟩
  refine U.boxed λp S I=>⟨trivial,p,k,v,k0,?_⟩
  exact(aa.abr (E:=ui 1 aD) (b:=[]) I 0 k0 λh=>⟨Seq.nil _ _ _ _ _ _,λ_=>rfl⟩).cD [2,1,0]
 rintro s S ⟨p,k,v,rfl,I⟩;refine(abq p l k v L n w h S G (λe he=>(X e he).1) hn D hw A I).mono ?_;rintro _ h5 ⟨rfl,kn,vs,J,H5⟩;refine⟨(),k0,?_⟩;refine aw (λt:Nat×Sl=>(t.2,(t.1:Int))) (λt h'=>t.1<=j9 L/\kJ kn vs (L.take t.1)=eS/\Sp h h' [ao p 326 [l,k,v],al 4 k 1 fi kn,ct 34 v 1 bo (ui 1 aD) vs,ct 275 t.2 2 qv jK (bf kn vs (L.take t.1))]) (λt=>j9 L-t.1) (0,⟨eH,0,0⟩) k0 ⟨k9,k0,H5.Kl 275 2 qv jK⟩ ?_;rintro⟨i,o⟩ h6 ⟨hi,y,B⟩;dsimp only at*;refine ai (λe=>?_) (λe=>?_)
 ·have j:i<j9 L:=k4
  obtain⟨rs,q1,q2,q3⟩:=bF.jh G;have hx:=q3 i k4 j;refine(Seq.up q1 B.aj).ey (g:=qv) i k0 k4 (rs[i]'(by omega)) k0 ?_;generalize rs[i]'(by omega)=x at hx⊢;refine B.alloc ac k0 λa h7 H7=>?_;refine H7.storeAll ac 4 k0 k0 (qv x) k0 k0 k0 k0 λh8 z=>?_;refine⟨x,(z.box 4 k0).aS _ k0,?_⟩;have N:AF h8 p l k v L kn vs:=⟨z.box 0 k0,dS.up G z.aj,z.seq 1 k0 λ_=>rfl,z.OX 2 k0 λ_=>rfl⟩
  obtain⟨F,-⟩:=X _ (qh j);have O:dS jK h8 x L[i]:=dS.up hx z.aj;refine(Qc p l k v L kn vs n w x L[i] h8 N J O F hw.2 (A _ (qh j))).mono ?_;rintro _ h9 ⟨c,d,rfl,R9⟩;refine⟨(c,d),k0,?_⟩;have H9:=z.comp R9;refine H9.alloc ac k0 λa2 ax ad=>?_;refine ad.storeAll ac 7 k0 k0 (qv (c,d)) k0 k0 k0 k0 λah f=>?_;refine⟨c,(f.box 7 k0).cell0 k0,?_⟩;have q:=(f.own 5 k0).len;have ar:j9 (bf kn vs (L.take i))<=j9 L:=by unfold bf;refine zf (qT _ _) ?_;simp;omega
  have u:=abs kn vs L j;have m:=YD kn vs L j;refine ai (λe2=>?_) (λe2=>?_)
  ·have W:(fx kn vs L[i]).1.isEmpty=eS:=by
    cases hh:(fx kn vs L[i]).1 with
    |nil=>rw[hh]at q;simp at q;omega
    |cons a l=>rfl
   rw[W]at u m;refine⟨(c,d),(f.box 7 k0).aS _ k0,?_⟩;have T:=aa.aiL f 5 6 k6 k0 k0;refine T.uN ac 3 5 k6 k0 k0 eQ k0 k6 (λ_=>rfl) abo k0 k6 k4 λo' am P=>?_;refine⟨(i+1,o'),lb,⟨k7,by dsimp only;rw[m,y];rfl,?_⟩,k7⟩;dsimp only;rw[u];exact P.cD [0,1,2,3]
  ·have Z:(fx kn vs L[i]).1.isEmpty=eR:=by
    cases hh:(fx kn vs L[i]).1 with
    |nil=>rfl
    |cons a l=>rw[hh]at q;simp at q;omega
   rw[Z]at u m;refine⟨d,(f.box 7 k0).cell k0,?_⟩;refine(VK d _ ah (f.seq 6 k0 λ_=>rfl) (f.own 6 k0).cap (by have:=(J.CM F).len;omega)).mono ?_;rintro _ ay ⟨rfl,rfl⟩;refine⟨_,k0,bj (λH=>?_) λH=>?_⟩
   ·refine⟨kn,vs,J,.inl ⟨YE (i:=i+1) ?_,k0,f.cD []⟩⟩;rw[m];simp at H;simp[H]
   ·refine⟨(i+1,o),lb,⟨k7,?_,?_⟩,k7⟩
    ·dsimp only;rw[m,y];simp at H;simp;exact H
    ·dsimp only;rw[u];exact f.cD [0,1,2,3]
 ·have K:i=j9 L:=k4
  subst K;rw[qS]at B y;refine⟨p,k0,k,(B.box 0 k0).cell k0,p,k0,v,(B.box 0 k0).cell k0,kn,vs,J,.inr ⟨y,k,v,o,k0,B.cD [1,2,3]⟩⟩
def lA(pool:List (Sl×Row)):HP:=⟨λh q=>∀x∈pool,Seq h q x.1 1 aD x.2,λa d x b=>(a x b).aj d,λa c x b=>(a x b).mono c⟩
theorem _root_.Go.Vc.aa.pool{B:aB}{c h:hZ}{As:List HP}(H:aa B c h As)(i j:Nat)(a:i≠j){pool:List (Sl×Row)}{r:Sl}{l:Row}(g:As[i]?=dB (lA pool))(d:As[j]?=dB (uh r 1 aD l)):aa B c h ((As.set i (lA ((r,l)::pool))).set j emp):=
 H.merge i j a g d λm k _ e f x b=>by
  rcases qV.1 b with rfl|b
  ·exact Seq.mono f λ_ h=>.inr h
  ·exact(e x b).mono λ_ h=>.inl h
theorem _root_.Go.Vc.aa.Nj{B:aB}{a h:hZ}{As:List HP}(H:aa B a h As)(i:Nat){pool:List (Sl×Row)}(b:As[i]?=dB (lA pool)){r:Sl}{l:Row}(c:(r,l)∈pool):Rd h r 1 aD l:=(H.at i b) _ c
theorem _root_.Go.Vc.aa.adU{B:aB}{e h:hZ}{As:List HP}(H:aa B e h As)(i j:Nat)(c:i≠j){pool:List (Sl×Row)}{s:Sl}{rs:List Sl}{a:aM}(v:As[i]?=dB (al 34 s 1 bo rs))(m:As[j]?=dB (lA pool))
  (n:j9 rs=j9 a) (o:∀(k:Nat) r l,rs[k]?=dB r->a[k]?=dB l->(r,l)∈pool):aa B e h ((As.set i (fP 34 s 1 aD a)).set j emp):=
 H.merge i j c v m λw g t d u=>⟨rs,g,d.1,λb f=>⟨.inl (d.2 b f),t b (d.2 b f)⟩,λ_ h=>.inr h,n,λk r l q p=>u _ (o k r l q p)⟩
def iu(pool:List (Sl×Row))(g:Row->Row)(rs:List Sl)(m:aM):Prop:=j9 rs=j9 m/\∀(i:Nat) r l,rs[i]?=dB r->m[i]?=dB l->(r,g l)∈pool
theorem iu.get{pool:List (Sl×Row)}{g:Row->Row}{rs:List Sl}{m:aM}(h:iu pool g rs m){i:Nat}(a:i<j9 m):(rs[i]'(by rw[h.1];exact a),g m[i])∈pool:=
 h.2 i _ _ (qd _) (qd _)
theorem iu.mono{pool a:List (Sl×Row)}{g:Row->Row}{rs:List Sl}{m:aM}(h:iu pool g rs m)(d:∀x∈pool,x∈a):iu a g rs m:=⟨h.1,λi r l c b=>d _ (h.2 i r l c b)⟩
theorem iu.set{pool:List (Sl×Row)}{g:Row->Row}{rs:List Sl}{m:aM}(h:iu pool g rs m)(i:Nat){r:Sl}{l:Row}(e:(r,g l)∈pool):iu pool g (rs.set i r) (m.set i l):=by
 refine⟨by simp[h.1],λk f l' a b=>?_⟩;rw[List.getElem?_set]at a b;by_cases c:i=k
 ·subst c;rw[j1 rfl]at a b;split at a
  ·rename_i d;rw[j1 (by rw[<-h.1];exact d)]at b;cases a;cases b;exact e
  ·cases a
 ·rw[j3 c]at a b;exact h.2 k f l' a b
theorem _root_.Go.Vc.aa.EG{B:aB}{d h:hZ}{As:List HP}(H:aa B d h As)(i j:Nat){pool:List (Sl×Row)}{e:Nat}{s:Sl}{rs:List Sl}{a:aM}(n:As[i]?=dB (al e s 1 bo rs))(f:As[j]?=dB (lA pool))
  (c:iu pool id rs a):iC h (λb=>b<h.size) s 1 aD a rs:=⟨H.seq i n λ_=>rfl,c.1,λk r l m g=>H.Nj j f (c.2 k r l m g)⟩
theorem Ic{B:aB}{r h:hZ}{As:List HP}(s f:hU)(t:UInt8)(g a:Sl)(b c:Row)(H:aa B r h (al 5 a 1 aD c::As))(F:St B r As λh=>hY h s=dB (xd (dB f))/\fI h f/\Rd h g 1 aD b)
  (N:j9 b=j9 c) (T:j9 b<=2^30) {K:hZ->Prop} (S:∀h',aa B r h' (al 5 a 1 aD (cY t b c)::As)->K h'):
  aJ (σ:=Int) (λd R i=>
 Br (decide (d<((g.len:Nat):Int)))
 (∃E:hU,(g.ptr=dB E/\0<=d/\d<((g.len:Nat):Int))/\
 ∃G:Int,hY i (E.add (d.toNat*1))=dB (xb xj G)/\
 ∃w:hU,(a.ptr=dB w/\0<=d/\d<((a.len:Nat):Int))/\
 ∃A:Int,hY i (w.add (d.toNat*1))=dB (xb xj A)/\
 ∃m:hU,(dB s=dB m)/\
 ∃q:aQ,hY i m=dB (.pointer q)/\
 ae xm 280 #[(.pointer q),(xb xj (t.toNat:Int)),(xb xj G)] (.one (.sc (.int .u8))) i λu D=>
 (av.ok [(w.add (d.toNat*1),(xb xj A))] D)/\
 ∃n:hU,(a.ptr=dB n/\0<=d/\d<((a.len:Nat):Int))/\
 af xm (qf 5 (xd (dB (n.add (d.toNat*1)))) (xb xj (qc xj ((qF (qk xj) A^^^(qF (qk xj) u)).toNat:Nat)))) D λ_ h3=>
 (av.ok [] h3)/\
 R (qc xi (d+(1:Int))) h3) (K i)) (0:Int) h:=by
 have O:g.len=j9 b:=(F.at [al 5 a 1 aD c] H).2.2.len;refine aw (λk:Nat=>(k:Int)) (λk h'=>k<=j9 b/\aa B r h' (al 5 a 1 aD (zh (λx y=>y^^^Gf.mul t x) (b.take k) (c.take k)++c.drop k)::As)) (λk=>j9 b-k) 0 k0 ⟨k4,n4⟩ ?_;rintro k i ⟨L,p⟩;obtain⟨J,P,Q⟩:=F.at [_] p;refine ai (λe=>?_) (λe=>?_)
 ·have z:k<j9 b:=k4
  have o:j9 (zh (λx y=>y^^^Gf.mul t x) (b.take k) (c.take k))=k:=k8
  have M:j9 (zh (λx y=>y^^^Gf.mul t x) (b.take k) (c.take k)++c.drop k)=j9 c:=by rw[qy,o,ze];omega
  refine Q.bC k k0 z _ k0 ?_;have l:(zh (λx y=>y^^^Gf.mul t x) (b.take k) (c.take k)++c.drop k)[k]'(by omega)=c[k]:=by rw[zX k4];simp[o]
  refine(p.seq 0 k0 λ_=>rfl).Rn k k0 k4 _ k0 λax j=>?_;rw[l]at j⊢;refine⟨s,k0,dB f,J,(KV f t b[k] i P).mono ?_⟩;rintro v D ⟨rfl,rfl⟩;refine⟨_,k0,⟨j,trivial⟩,?_⟩;rw[ow];refine p.set ac 0 k0 (λ_=>rfl) k0 k k0 k4 _ k0 k0 k0 λh3 I=>⟨trivial,?_⟩
  rw[zx,Au N k4]at I;exact⟨k+1,ld,⟨k4,I⟩,k4⟩
 ·have:k=j9 b:=k4
  subst this;rw[qi (ql _),qi k4,zi k4,qL]at p;exact S i p
def gA(f:hU)(p:Int×Int×Int)(v r a d b c e:Sl):ba:=[xd (dB f),xb xi p.1,xb xi p.2.1,xb xi p.2.2,v,r,a,d,b,c,e]
structure DC (h:hZ) (s f:hU) (wa mo:Sl) (wr mr:List Sl) (W M:aM):Prop where
 fld:hY h s=dB (xd (dB f))
 way:hY h (s.add 9)=dB (xc wa.ptr wa.len wa.cap)
 more:hY h (s.add 10)=dB (xc mo.ptr mo.len mo.cap)
 field:fI h f
 rW:iC h (λb=>b<h.size) wa 1 aD W wr
 rM:iC h (λb=>b<h.size) mo 1 aD M mr
theorem DC.of{h:hZ}{s f:hU}{p:Int×Int×Int}{v r j n k d a:Sl}{e g:List Sl}{W M:aM}(c:cA h s 281 (gA f p v r j n k d a))(i:fI h f)(m:iC h (λb=>b<h.size) d 1 aD W e)(l:iC h (λb=>b<h.size) a 1 aD M g):DC h s f d a e g W M:=
 ⟨c.cell0 k0,c.cell k0,c.cell k0,i,m,l⟩
theorem Ie{B:aB}{i h:hZ}{As:List HP}(s f:hU)(t:UInt8)(c:Int)(a more x y:Sl)(w0 d:Row)(w u:List Sl)(W M:aM)(H:aa B i h (al 5 a 1 aD w0::al 5 more 1 aD d::As))(e:St B i As λh=>DC h s f x y w u W M)
  (A:0<=c) (m:c.toNat<j9 W) (o:c.toNat<j9 M) (l:j9 (aC W c.toNat)=j9 w0) (n:j9 (aC M c.toNat)=j9 d) (E:j9 w0<=2^30) (D:j9 d<=2^30):
  ab xm 272 #[xd (dB s),xb xj t.toNat,xb xi c,a,more] h λv h'=>v=.tuple #[]/\aa B i h' (al 5 a 1 aD (cY t (aC W c.toNat) w0)::al 5 more 1 aD (cY t (aC M c.toNat) d)::As):=by
 refine Dk (dB s) _ c a more ?_;unfold rX;have S:=e.at [_,_] H;refine⟨s,k0,x,S.way,?_⟩;rw[mM m]at l⊢;rw[mM o]at n⊢;have q:=S.rW;have z:=q.len;refine q.top.md c.toNat k4 k4 ?_;refine Ic s f t (w[c.toNat]'(by omega)) a (W[c.toNat]) w0 H (St.mk' λh' j=>?_) l k4 λh3 g=>?_
 ·have b:=e.at [_] j;exact⟨b.fld,b.field,b.rW.row _ _ _ (qd _) (qd m)⟩
 have p:=e.at [_,_] g;refine⟨s,k0,y,p.more,?_⟩;have k:=p.rM;have r:=k.len;refine k.top.md c.toNat k4 k4 ?_;refine Ic s f t (u[c.toNat]'(by omega)) more (M[c.toNat]) d g.nZ (St.mk' λh' j=>?_) n k4 λh3 g=>⟨k0,g.nZ⟩
 ·have b:=e.at [_] j;exact⟨b.fld,b.field,b.rM.row _ _ _ (qd _) (qd o)⟩
def fK:au->Bool
 |[]=>eR
 |[_]=>eR
 |a::b::r=>decide (a<b)&&fK (b::r)
theorem Nk:∀(l:au) (a b:Int),fK (l++[a,b])=(fK (l++[a])&&decide (a<b))
 |[],a,b=>by simp[fK]
 |[c],a,b=>by simp[fK]
 |c::d::r,a,b=>by
  have:=Nk (d::r) a b;simp only[zA]at this⊢;simp only[fK,this,Bool.and_assoc]
theorem abu{l r:au}(h:fK l=eS):fK (l++r)=eS:=by
 induction l with
 |nil=>simp[fK]at h
 |cons a t ih=>
  cases t with
  |nil=>simp[fK]at h
  |cons b t=>
   simp only[fK,va]at h;simp only[zA,fK,va];rcases h with h|h
   ·exact .inl h
   ·exact .inr (ih h)
theorem adV(l:au)(k:Nat)(h:k+1<j9 l):l.take (k+2)=l.take k++[l[k],l[k+1]]:=by have a:l.take (k+2)=l.take (k+1)++[l[k+1]]:=aH l (k+1) h;have b:=aH l k;rw[a,b,qt];rfl
def fL(n:Int)(r:au):Bool:=r.all (λc=>decide (0<=c/\c<n))&&fK r
theorem abv{n:Int}{l r:au}(h:fL n l=eS):fL n (l++r)=eS:=by
 simp only[fL,va]at*;rcases h with h|h
 ·left;rw[y7,h];rfl
 ·right;exact abu h
theorem YF{n:Int}{r:au}(h:0<j9 r):fL n (r.take 1)=decide (0<=r[0]/\r[0]<n):=by
 cases r with
 |nil=>simp at h
 |cons a t=>simp[fL,fK]
theorem YG{n:Int}{r:au}{k:Nat}(h:k+1<j9 r):fL n (r.take (k+2))=(fL n (r.take (k+1))&&decide (0<=r[k+1]/\r[k+1]<n)&&decide (r[k]<r[k+1])):=by
 have a:r.take (k+2)=r.take (k+1)++[r[k+1]]:=aH r (k+1) h;have b:fK (r.take (k+2))=(fK (r.take (k+1))&&decide (r[k]<r[k+1])):=by rw[adV r k h,Nk,aH r k]
 simp only[fL,b];rw[a,y7];simp only[List.all_cons,List.all_nil,Bool.and_true]
 cases(r.take (k+1)).all λc=>decide (0<=c/\c<n)<;>cases fK (r.take (k+1))<;>cases decide (0<=r[k+1]/\r[k+1]<n)<;>simp
theorem AG{n:Int}{r:au}{k:Nat}(h:fL n (r.take k)=eS):fL n r=eS:=by rw[<-qJ k r];exact abv h
theorem YH{n:Int}{r:au}{k:Nat}(c:k<j9 r)(h:fL n (r.take k)=eR):
  (r[k]<0->fL n r=eS)/\(n<=r[k]->fL n r=eS)/\(∀(h0:0<k),r[k]<=r[k-1]->fL n r=eS)/\
  (0<=r[k]->r[k]<n->(∀h0:0<k,r[k-1]<r[k])->fL n (r.take (k+1))=eR):=by
 cases k with
 |zero=>
  have e:=YF (n:=n) c;refine⟨λa=>AG (k:=1) ?_,λa=>AG (k:=1) ?_,λh0=>k4,λa b _=>?_⟩
  ·rw[e,j7 k4]
  ·rw[e,j7 k4]
  ·rw[e,j6 ⟨a,b⟩]
 |succ k=>
  have e:=YG (n:=n) c;refine⟨λa=>AG (k:=k+2) ?_,λa=>AG (k:=k+2) ?_,λh0 a=>AG (k:=k+2) ?_,λa b h3=>?_⟩
  ·rw[e,j7 (p:=0<=r[k+1]/\r[k+1]<n) k4];simp
  ·rw[e,j7 (p:=0<=r[k+1]/\r[k+1]<n) k4];simp
  ·rw[e,j7 (p:=r[k]<r[k+1]) l7];simp
  ·have d:r[k]<r[k+1]:=by simpa using h3 k4
   rw[e,h,j6 (p:=0<=r[k+1]/\r[k+1]<n) ⟨a,b⟩,j6 d];rfl
def jT(n:Int)(a:bz):Bool:=decide (0<=n/\n<=64)&&a.all (fL n)
theorem adW{α:Type}{f:α->Bool}{l:List α}{k:Nat}(a:k<j9 l)(h:(l.take k).all f=eR):(l.take (k+1)).all f=f l[k]:=by rw[aH _ _ a,y7,h];simp
theorem ahR{α:Type}{f:α->Bool}{l:List α}{k:Nat}(a:k<j9 l)(h:f l[k]=eS):l.all f=eS:=by rw[List.all_eq_false];exact⟨l[k],qh a,rb⟩
theorem OO{p:aB}(n:Int)(a:Sl)(b:bz)(rs:List Sl)(h:hZ)(x:iC h p a 1 aq b rs)(J:j9 b<=2^40)(m:∀l∈b,j9 l<=2^40):
  ab xm 307 #[xb xi n,a] h λv h'=>v=xg (jT n b)/\h'=h:=by
 refine MG n a ?_;unfold Fz;have G:=x.RH;refine bO (λ_ h'=>h'=h/\0<=n/\n<=64) ?_ ?_
 ·refine ai (λj=>⟨?_,k0⟩) (λj=>ai (λf=>⟨?_,k0⟩) λf=>⟨k0,k4,k4⟩)
  ·rw[jT,j7 k4];rfl
  ·rw[jT,j7 k4];rfl
 ·rintro _ h' ⟨rfl,u,q⟩;have z:jT n b=b.all (fL n):=by rw[jT,j6 ⟨u,q⟩];rfl
  refine aw (λk:Nat=>(k:Int)) (λk h0=>h0=h'/\k<=j9 b/\(b.take k).all (fL n)=eR) (λk=>j9 b-k) 0 k0 ⟨k0,k4,k9⟩ ?_;rintro i h0 ⟨rfl,I,c⟩;refine ai (λo=>?_) (λs=>?_)
  ·have e:i<j9 b:=k4
   refine x.get i k0 e λr t _=>?_;have B:=t.len;have E:=m _ (qh e);have d:fL n b[i]=eS->jT n b=eS:=λF=>by rw[z];exact ahR e F
   refine aw (λk:Nat=>(k:Int)) (λk f=>f=h0/\k<=b[i].length/\fL n (b[i].take k)=eR) (λk=>b[i].length-k) 0 k0 ⟨k0,k4,by simp[fL,fK]⟩ ?_;rintro k f ⟨rfl,H,w⟩;refine ai (λo=>?_) (λs=>?_)
   ·have g:k<b[i].length:=k4
    obtain⟨n1,n2,D,y⟩:=YH g w;refine t.bC k k0 g _ k0 ?_;refine ai (λj=>⟨by rw[d (n1 j)],k0⟩) λj=>?_;refine ai (λf=>⟨by rw[d (n2 f)],k0⟩) λf=>?_;rw[ag (k+1),ag (k-1)];refine ai (λh3=>?_) (λh3=>?_)
    ·refine t.bC (k-1) k4 k4 _ k0 ?_;refine ai (λA=>⟨by rw[d (D k4 A)],k0⟩) λA=>?_;exact⟨k+1,k9,⟨k0,k4,y k4 k4 λ_=>k4⟩,k4⟩
    ·exact⟨k+1,k9,⟨k0,k4,y k4 k4 λ_=>k4⟩,k4⟩
   ·rw[qi k4]at w;rw[ag (i+1)];exact⟨i+1,k9,⟨k0,k4,by rw[adW e c,w]⟩,k4⟩
  ·rw[qi k4]at c;exact⟨by rw[z,c],k0⟩
theorem Nl{p:aB}(a:Sl)(c:List Bool)(x:Bool)(h:hZ)(i:Seq h p a 1 fi c)(o:j9 c<=2^40):
  ab xm 324 #[a,xg x] h λv h'=>∃r:Int,v=xb xi r/\(0<=r↔x∈c)/\h'=h:=by
 refine uo a x ?_;unfold np;have m:=i.len;refine aw (λk:Nat=>(k:Int)) (λk h'=>h'=h/\k<=j9 c/\x∉c.take k) (λk=>j9 c-k) 0 k0 ⟨k0,k4,k9⟩ ?_;rintro k h' ⟨rfl,n,g⟩;refine ai (λj=>?_) (λl=>?_)
 ·have b:k<j9 c:=k4
  refine i.bC k k0 b _ k0 ?_;refine bQ (λf=>⟨_,k0,⟨λ_=>?_,λ_=>k4⟩,k0⟩) (λd=>?_)
  ·rw[eq_of_beq f];exact qh b
  ·rw[ag _];refine⟨k+1,k9,⟨k0,k4,?_⟩,k4⟩;rw[aH _ _ b];simp only[qA,qB,not_or];exact⟨g,λe=>by rw[e]at d;simp at d⟩
 ·rw[qi k4]at g;exact⟨_,k0,⟨λh=>k4,λh=>absurd h g⟩,k0⟩
theorem If{p:aB}(a:Sl)(b:List Bool)(x:Bool)(h:hZ)(d:Seq h p a 1 fi b)(e:j9 b<=2^40):
  ab xm 308 #[a,xg x] h λv h'=>v=xg (decide (x∈b))/\h'=h:=by
 refine rJ a x ?_;unfold lY;refine(Nl a b x h d e).mono ?_;rintro v h' ⟨r,rfl,c,rfl⟩;refine⟨r,k0,?_,k0⟩;exact congrArg Value.bool (decide_eq_decide.2 c)
theorem VL{α:Type}{f:α->Bool}{l:List α}{k:Nat}(a:k<j9 l):(l.take (k+1)).filter f=if f l[k]then(l.take k).filter f++[l[k]]else(l.take k).filter f:=by rw[aH _ _ a,zl];by_cases h:f l[k]=eR<;>simp[h]
theorem Nm{p q:aB}(i:hU)(o r:Sl)(op:List Bool)(row:au)(h:hZ)(u:hY h (i.add 1)=dB (xc o.ptr o.len o.cap))(n:Seq h p o 1 fi op)(m:Seq h q r 1 aq row)
  (j:∀c∈row,0<=c/\c<j9 op) (A:j9 row<=2^40):
  ab xm 325 #[xd (dB i),r] h λv h'=>
   v=.tuple #[xb xi ((de op row).getLast?.getD 0),xg (j9 (de op row)==1)]/\h'=h:=by
 refine Al (dB i) r ?_;unfold ou;have s:=m.len;refine aw (λk:Nat=>((de op (row.take k)).getLast?.getD 0,(j9 (de op (row.take k)):Int),(k:Int))) (λk h'=>h'=h/\k<=j9 row) (λk=>j9 row-k) 0 k0 ⟨k0,k4⟩ ?_;rintro k h' ⟨rfl,z⟩;dsimp only;refine ai (λt=>?_) (λw=>?_)
 ·have d:k<j9 row:=k4
  have y:=j _ (qh d);refine m.bC k k0 d _ k0 ?_;refine⟨i,k0,o,u,?_⟩;have a:row[k].toNat<j9 op:=k4
  refine n.bC row[k].toNat k4 a _ k0 ?_;have b:ko op row[k]=op[row[k].toNat]:=by simp[ko,qe,qd a]
  have g:=VL (f:=ko op) d;have x:j9 (de op (row.take k))<=j9 row:=zf (qT _ _) qa;rw[ag (k+1),ag _];refine bQ (λl=>?_) (λl=>?_)
  ·refine⟨k+1,?_,⟨k0,k4⟩,k4⟩;have e:de op (row.take (k+1))=de op (row.take k)++[row[k]]:=by rw[de,g,b,l];rfl
   simp[e]
  ·refine⟨k+1,?_,⟨k0,k4⟩,k4⟩;have e:de op (row.take (k+1))=de op (row.take k):=by rw[de,g,b,l];rfl
   simp[e]
 ·have e:row.take k=row:=qi k4;refine⟨?_,k0⟩;simp only[e];congr 4;congr 1;rw[vq];simp;omega
structure BQ (h:hZ) (p:aB) (a:hU) (l o u:Sl) (rows:bz) (rs:List Sl) (op us:List Bool):Prop where
 c0:hY h a=dB (xc l.ptr l.len l.cap)
 c1:hY h (a.add 1)=dB (xc o.ptr o.len o.cap)
 c2:hY h (a.add 2)=dB (xc u.ptr u.len u.cap)
 fO:p a.block
 sRows:iC h p l 1 aq rows rs
 sOp:Seq h p o 1 fi op
 sUs:Seq h p u 1 fi us
 ulen:j9 us=j9 rows
 cZ:∀r∈rows,∀c∈r,0<=c/\c<j9 op
 short:∀r∈rows,j9 r<=64
theorem BQ.aj{h h':hZ}{p:aB}{a:hU}{l o u:Sl}{rows:bz}{rs:List Sl}{op us:List Bool}(c:BQ h p a l o u rows rs op us)(k:aX p h h'):BQ h' p a l o u rows rs op us:=by
 have b:∀n,(a.add n).block=a.block:=λn=>by unfold Addr.add;split<;>rfl
 exact⟨k.cell c.fO c.c0,k.cell (by rw[b];exact c.fO) c.c1,k.cell (by rw[b];exact c.fO) c.c2,c.fO,c.sRows.aj k,c.sOp.aj k,c.sUs.aj k,c.ulen,c.cZ,c.short⟩
theorem Rc{p:aB}(a:hU)(l o u:Sl)(rows:bz)(rs:List Sl)(op us:List Bool)(h:hZ)(y:BQ h p a l o u rows rs op us)(P:j9 rows<=2^40):
  ab xm 309 #[xd (dB a)] h λv h'=>aX (λ_=>True) h h'/\
   v=match mQ rows op us with
    |some i=>.tuple #[xh #[xb xi i,xb xi (fm rows op i)],xg eR]
    |none=>.tuple #[xh #[xb xi 0,xb xi 0],xg eS]:=by
 refine Co (dB a) ?_;unfold rh;refine Bf ac k0 λb H N s c I=>?_;have f:=y.aj (c.mono λ_ _ _=>trivial);refine⟨a,k0,l,f.c0,?_⟩;have F:=y.sRows.RH;refine aw (λk:Nat=>(k:Int)) (λk h'=>h'=H/\k<=j9 rows/\∀j,j<k->mP rows op us j=eS) (λk=>j9 rows-k) 0 k0 ⟨k0,k4,λj n=>k4⟩ ?_;rintro k h' ⟨rfl,O,B⟩;refine ai (λG=>?_) (λJ=>?_)
 ·have e:k<j9 rows:=k4
  refine f.sRows.get k k0 e λr K _=>?_;refine⟨a,k0,u,f.c2,?_⟩;refine f.sUs.bC k k0 (by rw[y.ulen];exact e) _ k0 ?_;have E:us.getD k eS=us[k]'(by rw[y.ulen];exact e):=by rw[qe,qd];rfl
  have q:rows.getD k []=rows[k]:=by rw[qe,qd e];rfl
  rw[ag _];refine bQ (λx=>?_) (λx=>?_)
  ·refine⟨k+1,k9,⟨k0,k4,λj n=>?_⟩,k4⟩;rcases zu.1 n with n|rfl
   ·exact B j n
   ·simp only[mP,E,x];rfl
  ·refine(Nm a o r op rows[k] h' f.c1 f.sOp K (y.cZ _ (qh e)) (zf (y.short _ (qh e)) k4)).mono ?_;rintro v M ⟨rfl,rfl⟩;refine⟨(_,_),k0,?_⟩;have g:mP rows op us k=(j9 (de op rows[k])==1):=by simp only[mP,E,x,q];rfl
   refine bQ (λw=>?_) (λw=>?_)
   ·have m:mP rows op us k=eR:=g.trans w;refine DM ac s k0 _ k0 k0 k0 (ql _) λh3 d t z=>?_;refine⟨(_,_),d.aS _ k0,c.then t (λL D _=>k4),?_⟩;have A:fm rows op k=(de op rows[k]).getLast?.getD 0:=by unfold fm;rw[q]
    rw[mQ,aaa e B m];show _=Value.tuple #[xh #[xb xi k,xb xi (fm rows op k)],xg eR];rw[A];rfl
   ·have m:mP rows op us k=eS:=g.trans w;refine⟨k+1,k9,⟨k0,k4,λj n=>?_⟩,k4⟩;rcases zu.1 n with n|rfl
    ·exact B j n
    ·exact m
 ·refine DM ac s k0 _ k0 k0 k0 (ql _) λh3 d t z=>?_;refine⟨(_,_),d.aS _ k0,c.then t (λL D _=>k4),?_⟩;rw[mQ,ZZ λj n=>B j k4]
theorem Lb{l:List Bool}{i:Nat}(h:i<j9 l):l.getD i eS=l[i]:=by rw[qe,qd h];rfl
theorem WY(op:List Bool)(a:au):∀k,-1<=iY op a k/\iY op a k<k
 |0=>by simp[iY]
 |k+1=>by
  have:=WY op a k;unfold iY;split<;>omega
theorem Re{p:aB}(a:hU)(l o u:Sl)(rows:bz)(rs:List Sl)(op us:List Bool)(h:hZ)(y:BQ h p a l o u rows rs op us)(hs:j9 rows<=2^30)(a3:j9 op<=2^30):
  ab xm 310 #[xd (dB a)] h λv h'=>aX (λ_=>True) h h'/\v=xb xi (ic rows op us):=by
 refine Cp (dB a) ?_;unfold ri;refine⟨a,k0,o,y.c1,?_⟩;have a6:=y.sOp.len;refine Go.Vc.run_make (f:=aq) ac ⟨_,_,k0,k0,k0,k0,k0,k0⟩ k6 0 k0 k0 op.length op.length k4 k4 (ql _) k4 λs h1 L Z a7 t a2=>?_;have ah:=y.aj (t.mono λ_ _ _=>trivial);refine⟨a,k0,l,ah.c0,?_⟩;have a4:=y.sRows.RH;have A:∀b,s.on b->b=h.size:=by rintro b ⟨o',K⟩;rw[Z]at K;cases K;rfl
 have ax:∀k,j9 ((λ_ r=>r:Nat->au->au) k (rows.getD k []))<=64:=λk=>by
  show(rows.getD k []).length<=64;by_cases hk:k<j9 rows
  ·rw[qe,qd hk];exact y.short _ (qh hk)
  ·rw[qe,List.getElem?_eq_none k4];simp
 let d:=lH (λ_ r=>r) rows us (qg op.length 0);have P:∀k,j9 (d k)=j9 op:=λk=>by rw[DX];simp
 have S:∀k,∀x∈d k,0<=x/\x<=64*k:=λk x hx=>Sy (λ_ r=>r) ax k x hx;refine aw (λk:Nat=>(k:Int)) (λk h'=>aX (λb=>b<h.size) h h'/\k<=j9 rows/\Own h' 3 s 1 aq (d k)) (λk=>j9 rows-k) 0 k0 ⟨t.mono λ_ _ _=>trivial,k4,L⟩ ?_;rintro i W ⟨F,hi,w⟩;have n:BQ W p a l o u rows rs op us:=y.aj (F.mono λb e _=>e);refine ai (λI=>?_) (λM=>?_)
 ·have g:i<j9 rows:=k4
  have O:rows.getD i []=rows[i]:=by rw[qe,qd g];rfl
  have hu:us.getD i eS=us[i]'(by rw[y.ulen];exact g):=Lb _;refine n.sRows.get i k0 g λr hr Y=>?_;have a8:=hr.len;have Q:=y.short _ (qh g);refine aw (λk:Nat=>(k:Int)) (λk h'=>aX (λb=>b<h.size) h h'/\k<=rows[i].length/\Own h' 3 s 1 aq (if us.getD i eS then d i else kK (d i) (rows[i].take k))) (λk=>rows[i].length-k) 0 k0
   ⟨F,k4,by simpa[kK]using w⟩ ?_
  rintro j h3 ⟨B,hj,c⟩;have q:BQ h3 p a l o u rows rs op us:=y.aj (B.mono λb e _=>e);refine ai (λI=>?_) (λM=>?_)
  ·have E:j<rows[i].length:=k4
   have ap:=q.sRows.row i r _ Y (qd g);have hc:=y.cZ _ (qh g) _ (qh E);refine ap.bC j k0 E _ k0 ?_;refine⟨a,k0,u,q.c2,?_⟩;refine q.sUs.bC i k0 (by rw[y.ulen];exact g) _ k0 ?_;rw[ag (j+1)];refine bj (λe=>?_) (λe=>?_)
   ·rw[hu,e]at c;simp only[zk,if_false]at c;have N:j9 (kK (d i) (rows[i].take j))=j9 op:=by rw[EV,P]
    have m:rows[i][j].toNat<j9 (kK (d i) (rows[i].take j)):=by rw[N];omega
    have a9:=GG (r:=rows[i].take j) (S i) _ (qh m);have a5:j9 (rows[i].take j)<=64:=qa
    have X:Seq h3 (λ_=>True) s 1 aq (kK (d i) (rows[i].take j)):=c.seq (λ_=>rfl) λ_ _=>trivial;refine X.bC rows[i][j].toNat k4 m _ k0 ?_;rw[ag _];refine c.set ac (λ_=>rfl) k0 rows[i][j].toNat k4 m _ k0 k0 k0 λh4 D U a0=>?_;refine⟨j+1,k9,⟨B.then U (λb e _=>λar=>by have:=A b ar;omega),k4,?_⟩,k4⟩;rw[hu,e];simp only[zk,if_false];rw[aH _ _ E,UO,getD_lt m];exact D
   ·refine⟨j+1,k9,⟨B,k4,?_⟩,k4⟩;rw[hu,e]at c⊢;exact c
  ·rw[ag (i+1)];rw[qi k4]at c;refine⟨i+1,k9,⟨B,k4,?_⟩,k4⟩;have:d (i+1)=if us.getD i eS then d i else kK (d i) rows[i]:=by show lH _ _ _ _ (i+1)=_;rw[lH];simp only[O];rfl
   rw[this];exact c
 ·have R:i=j9 rows:=k4
  subst R;refine⟨a,k0,o,n.c1,?_⟩;have J:Seq W (λ_=>True) s 1 aq (d rows.length):=w.seq (λ_=>rfl) λ_ _=>trivial;have ay:=P rows.length;refine aw (λk:Nat=>(iY op (d rows.length) k,(k:Int))) (λk h'=>h'=W/\k<=j9 op) (λk=>j9 op-k) 0 k0 ⟨k0,k4⟩ ?_;rintro k h3 ⟨rfl,hk⟩;dsimp only;have a1:=WY op (d rows.length) k;refine ai (λI=>?_) (λM=>?_)
  ·have G:k<j9 op:=k4
   refine n.sOp.bC k k0 G _ k0 ?_;rw[ag (k+1)];have z:op.getD k eS=op[k]:=Lb G;refine bQ (λe=>?_) (λe=>?_)
   ·refine ai (λH=>?_) (λV=>?_)
    ·refine⟨k+1,?_,⟨k0,k4⟩,k4⟩;rw[iY,j1 (by rw[z,e,j6 H];rfl)];rfl
    ·refine J.bC k k0 k4 _ k0 ?_;refine J.bC (iY op (d rows.length) k).toNat k4 k4 _ k0 ?_;have e1:(d rows.length).getD k 0=(d rows.length)[k]:=getD_lt;have e2:(d rows.length).getD (iY op (d rows.length) k).toNat 0=(d rows.length)[(iY op (d rows.length) k).toNat]:=getD_lt;refine ai (λad=>?_) (λam=>?_)
     ·refine⟨k+1,?_,⟨k0,k4⟩,k4⟩;rw[iY,j1 (by rw[z,e,e1,e2,j6 ad];simp)];rfl
     ·refine⟨k+1,?_,⟨k0,k4⟩,k4⟩;rw[iY,j3 (by rw[z,e,e1,e2,j7 am,j7 V];simp)];rfl
   ·refine⟨k+1,?_,⟨k0,k4⟩,k4⟩;rw[iY,j3 (by rw[z,e];simp)];rfl
  ·have T:k=j9 op:=k4
   subst T;exact⟨F.mono λb e _=>e,k0⟩
def fM(p:Int×Int):ba:=[xb xi p.1,xb xi p.2]
theorem adX:∀x,∀c∈fM x,c.oneCell'=eR:=by intro x c a;simp only[fM,qV,vJ,or_false]at a;rcases a with rfl|rfl<;>rfl
def EH(n:Int)(rows:bz):List (Int×Int)×au×au:=
 if jT n rows then((dN n.toNat rows).steps,(dN n.toNat rows).dead,fF (dN n.toNat rows).used rows.length)else([],[],[])
def ahS(a h:hZ)(v:Value)(ok:Bool)(b:List (Int×Int))(e c:au):Prop:=
 ∃s d f:Sl,v=.tuple #[xh #[s,d,f],xg ok]/\
  Sp a h [al 332 s 2 fM b,al 3 d 1 aq e,al 3 f 1 aq c]
theorem agp{α β γ:Type}{l h:hZ}{c:Nat->Nat}{k m r s g v:Nat}{t:α->ba}{p:β->ba}{q:γ->ba}{w n o:Sl}{l1:List α}{l2:List β}{j:List γ}(u:mY l h c)(e:dQ h c 6 k w s t l1)(f:dQ h c 7 m n g p l2)(a3:dQ h c 8 r o v q j):
  Sp l h [al k w s t l1,al m n g p l2,al r o v q j]:=by
 refine⟨λ_ h=>h,u.aj,λb=>c b-5,λb a=>?_,λi A d=>?_⟩
 ·have:=u.bt b a;dsimp only;omega
 ·match i,d with
  |0,d=>simp at d;subst d;exact⟨e.own,λb a=>⟨e.own.lt a,by have:=e.bt b a;dsimp only;omega⟩⟩
  |1,d=>simp at d;subst d;exact⟨f.own,λb a=>⟨f.own.lt a,by have:=f.bt b a;dsimp only;omega⟩⟩
  |2,d=>simp at d;subst d;exact⟨a3.own,λb a=>⟨a3.own.lt a,by have:=a3.bt b a;dsimp only;omega⟩⟩
  |i+3,d=>simp at d
theorem agq{n:Int}{rows:bz}(h:jT n rows=eR):0<=n/\n<=64/\∀r∈rows,fL n r=eR:=by simp only[jT,qz,decide_eq_true_eq,qU]at h;exact⟨h.1.1,h.1.2,h.2⟩
theorem Lc{n:Int}{r:au}(h:fL n r=eR):∀c∈r,0<=c/\c<n:=by simp only[fL,qz,qU,decide_eq_true_eq]at h;exact h.1
theorem Qd:∀{r:au} {a n:Int},fK r=eR->(∀c∈r,a<=c/\c<n)->(j9 r:Int)<=max 0 (n-a)
 |[],a,n,_,_=>k8
 |[x],a,n,_,h=>by have:=h x k9;simp;omega
 |x::y::t,a,n,hr,h=>by
  simp only[fK,qz,decide_eq_true_eq]at hr;have g:=h x k9;have f:=h y k9;have e:∀(l:au) (z:Int),fK (z::l)=eR->∀c∈l,z<c:=by
   intro l
   induction l with
   |nil=>intro z _ c b;simp at b
   |cons w t ih=>
    intro z d c b;simp only[fK,qz,decide_eq_true_eq]at d;rcases qV.1 b with rfl|b
    ·exact d.1
    ·have:=ih w d.2 c b;omega
  have:=Qd (r:=y::t) (a:=x+1) (n:=n) hr.2 λc b=>⟨by
   rcases qV.1 b with rfl|b
   ·omega
   ·have:=e t y hr.2 c b;omega,(h c (by simp only[qV]at b⊢;exact .inr b)).2⟩
  simp only[List.length_cons]at this⊢;omega
theorem abw{n:Int}{r:au}(h:fL n r=eR)(c:n<=64):j9 r<=64:=by have b:=Lc h;simp only[fL,qz]at h;have:=Qd (a:=0) h.2 b;omega
theorem adY(n k:Nat)(h:k<n):(qg k eR++qg (n-k) eS).set k eR=qg (k+1) eR++qg (n-(k+1)) eS:=by
 have e:n-k=(n-(k+1))+1:=k4
 rw[qX _ _ k9,e,yd];simp only[List.length_replicate,zc,zx];rw[List.replicate_succ' (n:=k)];simp
theorem Uj{h f:hZ}{c:Nat->Nat}{a:hU}{l o u:Sl}{rows:bz}{rs:List Sl}{op us:List Bool}(q:iC f (λb=>b<f.size) l 1 aq rows rs)(j:mY f h c)(e:kY h c 2 a 366 [l,o,u])
  (p:dQ h c 3 4 o 1 fi op) (m:dQ h c 4 4 u 1 fi us) (i:j9 us=j9 rows) (n:j9 op<=64) (k:∀r∈rows,fL op.length r=eR):BQ h (λb=>b<h.size) a l o u rows rs op us:=
 ⟨e.box.cell0 k0,e.box.cell k0,e.box.cell k0,e.box.lt,(q.aj j.aj).mono λb g=>q7 g j.aj.1,p.Xo λ_=>rfl,m.Xo λ_=>rfl,i,λr d=>Lc (k r d),λr d=>abw (k r d) k4⟩
theorem abx(n:Int)(l:Sl)(rows:bz)(rs:List Sl)(h:hZ)(hl:iC h (λb=>b<h.size) l 1 aq rows rs)(hs:j9 rows<=2^30)(c9:∀r∈rows,j9 r<=2^40):
  ab xm 267 #[xb xi n,l] h λv h'=>ahS h h' v (jT n rows) (EH n rows).1 (EH n rows).2.1 (EH n rows).2.2:=by
 refine Oy n l ?_;unfold Hq;have eo:=hl.RH;refine uL ac (mY.refl h) 1 k0 λa1 h1 b2 d8=>?_;have E:=(mY.refl h).keep (m:=1) d8 k6;refine(OO n l rows rs h1 (hl.aj E.aj) k4 c9).mono ?_;rintro v h2 ⟨rfl,rfl⟩;refine⟨_,k0,?_⟩;refine bj (λhr=>?_) (λhr=>?_)
 ·refine b2.lC ac k0 _ k0 k0 k0 (ql _) λh3 a5 D=>?_;refine⟨(⟨eH,0,0⟩,⟨eH,0,0⟩,⟨eH,0,0⟩),a5.box.aS _ k0,?_⟩;refine⟨⟨eH,0,0⟩,⟨eH,0,0⟩,⟨eH,0,0⟩,by rw[hr],?_⟩;simp only[EH,hr,zk,if_false];exact(((Sp.zip (E.keep (m:=1) D k6).aj).nil 332 2 fM).nil 3 1 aq).nil 3 1 aq
 ·obtain⟨es,en,b6⟩:=agq hr;obtain⟨N,rfl⟩:∃N:Nat,n=N:=⟨n.toNat,k4⟩
  have hN:N<=64:=k4
  refine bO (λs h'=>∃c a o u,s=dB a/\mY h h' c/\kY h' c 1 a1 279 [xc eH 0 0,xc eH 0 0,xc eH 0 0]/\kY h' c 2 a 366 [l,xc o.ptr o.len o.cap,xc u.ptr u.len u.cap]/\
   dQ h' c 3 4 o 1 fi (qg N eS)/\dQ h' c 4 4 u 1 fi (qg rows.length eS)) ⟨?_,?_⟩ ?_
  ·refine Bg ac E 3 fi ⟨_,_,k0,k0,k0,k0,k0,k0⟩ k6 eS k0 k0 N k0 k0 k4 λo h3 ho D=>?_;refine⟨trivial,?_⟩;refine Bg ac (E.keep (m:=3) D k6) 4 fi ⟨_,_,k0,k0,k0,k0,k0,k0⟩ k6 eS k0 k0 rows.length k4 k4 k4 λu h4 hu G=>?_;refine⟨trivial,?_⟩;refine RK _ ((E.keep (m:=3) D k6).keep (m:=4) G k6) 2 λa h5 ha A=>?_;exact⟨trivial,_,a,o,u,k0,((E.keep D k6).keep G k6).keep A k6,((b2.keep D k6).keep G k6).keep A k6,ha,(ho.keep G k6).keep A k6,hu.keep A k6⟩
  ·refine Bg ac E 4 fi ⟨_,_,k0,k0,k0,k0,k0,k0⟩ k6 eS k0 k0 rows.length k4 k4 k4 λu h3 hu D=>?_;refine⟨trivial,?_⟩;refine Bg ac (E.keep (m:=4) D k6) 3 fi ⟨_,_,k0,k0,k0,k0,k0,k0⟩ k6 eS k0 k0 N k0 k0 k4 λo h4 ho G=>?_;refine⟨trivial,?_⟩;refine RK _ ((E.keep (m:=4) D k6).keep (m:=3) G k6) 2 λa h5 ha A=>?_;exact⟨trivial,_,a,o,u,k0,((E.keep D k6).keep G k6).keep A k6,((b2.keep D k6).keep G k6).keep A k6,ha,ho.keep A k6,(hu.keep G k6).keep A k6⟩
  ·rintro s h3 ⟨c,a,o,u,rfl,c1,br,a5,a9,cn⟩;refine⟨a,k0,o,a5.box.cell k0,?_⟩;have eq:o.len=N:=by rw[a9.own.len];simp
   refine aw (λt:Nat×(Nat->Nat)=>(t.1:Int)) (λt h'=>t.1<=N/\mY h h' t.2/\kY h' t.2 1 a1 279 [xc eH 0 0,xc eH 0 0,xc eH 0 0]/\kY h' t.2 2 a 366 [l,o,u]/\
    dQ h' t.2 3 4 o 1 fi (qg t.1 eR++qg (N-t.1) eS)/\dQ h' t.2 4 4 u 1 fi (qg rows.length eS)) (λt=>N-t.1) (0,c) k0 ⟨k9,c1,br,a5,by simpa using a9,cn⟩ ?_
   rintro⟨k,c⟩ h4 ⟨hk,bk,b0,bq,bl,cd⟩;dsimp only at*;refine ai (λd0=>?_) (λec=>?_)
   ·have dk:k<N:=k4
    refine⟨a,k0,o,bq.box.cell k0,?_⟩;refine bl.set ac (λ_=>rfl) k0 k k0 k8 eR k0 k0 k0 λh5 bd A=>?_;rw[ag _];rw[adY _ _ dk]at bd;exact⟨(k+1,_),k9,⟨k8,bk.keep A k6,b0.keep A k6,bq.keep A k6,bd,cd.keep A k6⟩,k8⟩
   ·have eg:k=N:=k4
    subst eg;simp only[zc,vk,qL]at bl;refine uL ac bk 5 k0 λap h5 d7 A=>?_;have dr:=bk.keep (m:=5) A k6;have d9:=b0.keep (m:=5) A k6;have ed:=bq.keep (m:=5) A k6;have bd:=bl.keep (m:=5) A k6;have d2:=cd.keep (m:=5) A k6;clear bk b0 bq bl cd c1 br a5 a9 cn;generalize grow c h4.size 5=c5 at*;refine aw (τ:=Nat×List Bool×List Bool×(List (Int×Int))×au×(Nat->Nat)×Sl×Sl) (λ_=>())
     (λ⟨f,op,us,st,dd,c,ss,ds⟩ h'=>j9 op=k/\us.length=j9 rows/\op.count eR<=f/\f<=k/\st.length<=k-f/\dd.length<=k-f/\
      (∃r,cJ rows f op us=r/\dN k rows=⟨st++r.steps,dd++r.dead,r.used⟩)/\mY h h' c/\
      kY h' c 1 a1 279 [xc eH 0 0,xc eH 0 0,xc eH 0 0]/\kY h' c 2 a 366 [l,o,u]/\
      dQ h' c 3 4 o 1 fi op/\dQ h' c 4 4 u 1 fi us/\
      kY h' c 5 ap 279 [ss,ds,xc eH 0 0]/\dQ h' c 6 332 ss 2 fM st/\dQ h' c 7 3 ds 1 aq dd)
     (λt=>t.1) (k,qg k eR,qg rows.length eS,[],[],c5,⟨eH,0,0⟩,⟨eH,0,0⟩) k0
     ⟨k9,k9,k9,k9,k9,k9,⟨_,k0,by simp[dN]⟩,dr,d9,ed,bd,d2,d7,dQ.nil _ _ _ _ _ _,dQ.nil _ _ _ _ _ _⟩ ?_
    rintro⟨f,op,us,st,dd,c,ss,ds⟩ h6 ⟨a7,L,ek,et,ej,ei,⟨r,ar,bx⟩,I,a0,R,Z,P,K,J,M⟩;dsimp only at*;have H:∀r∈rows,fL op.length r=eR:=by rw[a7];exact b6
    have ah:=Uj hl I R Z P L k4 H;refine⟨a,k0,o,R.box.cell k0,?_⟩;refine(If o op eR h6 (Z.Xo λ_=>rfl) k4).mono ?_;rintro v h7 ⟨rfl,rfl⟩;refine⟨_,k0,?_⟩;refine bj (λhc=>?_) (λhc=>?_)
    ·have ad:op.contains eR=eS:=by simpa using hc
     have br:r=⟨[],[],us⟩:=by rw[<-ar];exact Bq ad f
     subst br;simp only[qL]at bx;refine⟨a,k0,u,R.box.cell k0,?_⟩;have e0:u.len=j9 rows:=by rw[P.own.len,L]
     refine aw (λt:Nat×(Nat->Nat)×Sl=>(t.1:Int)) (λ⟨j,c,fs⟩ h'=>j<=j9 rows/\mY h h' c/\
      kY h' c 1 a1 279 [xc eH 0 0,xc eH 0 0,xc eH 0 0]/\dQ h' c 4 4 u 1 fi us/\
      kY h' c 5 ap 279 [ss,ds,fs]/\dQ h' c 6 332 ss 2 fM st/\dQ h' c 7 3 ds 1 aq dd/\dQ h' c 8 3 fs 1 aq (fF us j)) (λt=>j9 rows-t.1) (0,c,⟨eH,0,0⟩) k0
      ⟨k9,I,a0,P,K,J,M,dQ.nil _ _ _ _ _ _⟩ ?_
     rintro⟨j,c,fs⟩ h8 ⟨hj,bb,b1,b4,W,a2,a6,am⟩;dsimp only at*;refine ai (λd0=>?_) (λec=>?_)
     ·have er:j<j9 rows:=k4
      have ep:j9 (fF us j)<=j:=IQ us j;refine(b4.Xo λ_=>rfl).bC j k0 k4 _ k0 ?_;have c2:us.getD j eS=us[j]:=Lb k4;rw[ag _];refine bj (λhb=>?_) (λhb=>?_)
      ·refine⟨fs,W.box.cell k0,?_⟩;refine Kk ac bb 9 aq ⟨_,_,k0,k0,k0,k0,k0,k0⟩ k0 [(j:Int)] k0 (zJ k0) k0 λv h9 ea p=>?_;refine(am.keep (m:=9) p k6).append ac ⟨_,_,k0,k0,k0,k0,k0,k0⟩ ⟨_,_,k0,k0⟩ k0 k6 (λ_=>rfl) (ea.seq λ_=>rfl) eT k8 λd1 b5 b9 g=>?_;refine((W.keep (m:=9) p k6).keep (m:=8) g k6).store ac k0 2 _ k0 k0 k0 (zJ k0) λc6 cc d=>?_;refine⟨(j+1,_,d1),k9,⟨k8,((bb.keep p k6).keep g k6).keep d k6,((b1.keep p k6).keep g k6).keep d k6,((b4.keep p k6).keep g k6).keep d k6,cc,
        ((a2.keep p k6).keep g k6).keep d k6,((a6.keep p k6).keep g k6).keep d k6,?_⟩,k8⟩
       have e:fF us (j+1)=fF us j++[(j:Int)]:=by rw[fF,c2,hb];rfl
       rw[e];exact b9.keep d k6
      ·have e:fF us (j+1)=fF us j:=by rw[fF,c2,hb];rfl
       exact⟨(j+1,c,fs),k9,⟨k8,bb,b1,b4,W,a2,a6,by rw[e];exact am⟩,k8⟩
     ·have d5:j=j9 rows:=k4
      subst d5;refine⟨(ss,ds,fs),W.box.aS _ k0,?_⟩;refine b1.lC ac k0 _ k0 k0 k0 (ql _) λh9 da p=>?_;refine⟨(ss,ds,fs),da.box.aS _ k0,?_⟩;refine⟨ss,ds,fs,by rw[hr],?_⟩;simp only[EH,hr,if_true,qn,bx];exact agp (bb.keep (m:=1) p k6) (a2.keep (m:=1) p k6) (a6.keep (m:=1) p k6) (am.keep (m:=1) p k6)
    ·have ad:op.contains eR=eR:=by simpa using hc
     obtain⟨f',rfl⟩:∃f',f=f'+1:=by obtain⟨j,hj,e⟩:=GH ad;have:=lh e;exact⟨f-1,k4⟩
     refine bi ?_;refine(Rc a l o u rows rs op us h7 ah k4).mono ?_;rintro v h8 ⟨z,rfl⟩;have z:=z.bt c 9;cases hst:mQ rows op us with
     |some i=>
      obtain⟨hi,d4⟩:=uT hst;obtain⟨ew,ef,a9⟩:=DY d4;have c4:rows.getD i []=rows[i]:=by rw[qe,qd hi];rfl
      have el:=Lc (H _ (qh hi)) _ (c4▸ef);refine⟨((i,fm rows op i),eR),k0,?_⟩;dsimp only;refine uL ac (I.keep (m:=9) z k6) 9 k0 λax h9 has p=>?_;refine has.lC ac k0 _ k0 k0 k0 (ql _) λb5 T g=>?_;refine FX k0 ?_;have F:=((I.keep (m:=9) z k6).keep (m:=9) p k6).keep (m:=9) g k6;have a4:=((a0.keep (m:=9) z k6).keep (m:=9) p k6).keep (m:=9) g k6;have Y:=((R.keep (m:=9) z k6).keep (m:=9) p k6).keep (m:=9) g k6;have U:=((Z.keep (m:=9) z k6).keep (m:=9) p k6).keep (m:=9) g k6;have V:=((P.keep (m:=9) z k6).keep (m:=9) p k6).keep (m:=9) g k6;have B:=((K.keep (m:=9) z k6).keep (m:=9) p k6).keep (m:=9) g k6;have S:=((J.keep (m:=9) z k6).keep (m:=9) p k6).keep (m:=9) g k6;have Q:=((M.keep (m:=9) z k6).keep (m:=9) p k6).keep (m:=9) g k6;clear I a0 R Z P K J M z p has ah;generalize grow (grow (grow c h7.size 9) h8.size 9) h9.size 9=c10 at*;refine⟨ss,B.box.cell0 k0,(_,_),T.box.aS _ k0,?_⟩;dsimp only;refine Kk ac F 10 fM ⟨_,_,k0,k0,k0,k0,k0,k0⟩ k0 [((i:Int),fm rows op i)] k0 (zJ k0) k0 λv c6 cs d=>?_;refine(S.keep (m:=10) d k6).append ac ⟨_,_,k0,k0,k0,k0,k0,k0⟩ ⟨_,_,k0,k0⟩ k0 k6 (λ_=>rfl) (cs.seq λ_=>rfl) adX k8 λd3 eh cl q=>?_;refine((B.keep (m:=10) d k6).keep (m:=6) q k6).lC ac k0 _ k0 k0 k0 (zJ k0) λdy b3 y=>?_;have O:=((T.keep (m:=10) d k6).keep (m:=6) q k6).keep (m:=5) y k6;have a3:=((Y.keep (m:=10) d k6).keep (m:=6) q k6).keep (m:=5) y k6;have cq:=((V.keep (m:=10) d k6).keep (m:=6) q k6).keep (m:=5) y k6;have c8:=((U.keep (m:=10) d k6).keep (m:=6) q k6).keep (m:=5) y k6;refine⟨a,k0,u,a3.box.cell k0,(i:Int),O.box.cell0 k0,a,k0,o,a3.box.cell k0,fm rows op i,O.box.cell k0,?_⟩;refine cq.set ac (λ_=>rfl) k0 i k0 k4 eR k0 k0 k0 λd6 cr x=>?_;have ay:=O.keep (m:=4) x k6;have X:=a3.keep (m:=4) x k6;refine⟨⟨ay.box.cell k0,trivial⟩,?_⟩;refine(c8.keep (m:=4) x k6).set ac (λ_=>rfl) k0 (fm rows op i).toNat k4 k4 eS k0 k0 k0 λdu a8 w=>?_;have dx:=ay.keep (m:=3) w k6;have cp:=X.keep (m:=3) w k6;refine⟨trivial,?_⟩;have dp:=lh (op:=op) (j:=(fm rows op i).toNat) a9;rw[oW ad hst]at ar;refine⟨(f',op.set (fm rows op i).toNat eS,us.set i eR,st++[((i:Int),fm rows op i)],dd,_,d3,ds),k0,⟨by simp[a7],by simp[L],k7,k7,k8,k7,⟨_,k0,?_⟩,
       ((((F.keep d k6).keep q k6).keep y k6).keep x k6).keep w k6,
       ((((a4.keep d k6).keep q k6).keep y k6).keep x k6).keep w k6,
       cp,a8,cr.keep w k6,(b3.keep x k6).keep w k6,((cl.keep y k6).keep x k6).keep w k6,
       ((((Q.keep d k6).keep q k6).keep y k6).keep x k6).keep w k6⟩,k7⟩
      rw[bx,<-ar];simp
     |none=>
      have eb:=tf (rows:=rows) (us:=us) ad;refine⟨((0,0),eS),k0,?_⟩;dsimp only;refine uL ac (I.keep (m:=9) z k6) 9 k0 λax h9 has p=>?_;refine has.lC ac k0 _ k0 k0 k0 (ql _) λb5 T g=>?_;refine xH k0 ?_;have F:=((I.keep (m:=9) z k6).keep (m:=9) p k6).keep (m:=9) g k6;have a4:=((a0.keep (m:=9) z k6).keep (m:=9) p k6).keep (m:=9) g k6;have Y:=((R.keep (m:=9) z k6).keep (m:=9) p k6).keep (m:=9) g k6;have U:=((Z.keep (m:=9) z k6).keep (m:=9) p k6).keep (m:=9) g k6;have V:=((P.keep (m:=9) z k6).keep (m:=9) p k6).keep (m:=9) g k6;have B:=((K.keep (m:=9) z k6).keep (m:=9) p k6).keep (m:=9) g k6;have S:=((J.keep (m:=9) z k6).keep (m:=9) p k6).keep (m:=9) g k6;have Q:=((M.keep (m:=9) z k6).keep (m:=9) p k6).keep (m:=9) g k6;clear I a0 R Z P K J M z p has ah;generalize grow (grow (grow c h7.size 9) h8.size 9) h9.size 9=c10 at*;have ah:=Uj hl F Y U V L k4 H;refine(Re a l o u rows rs op us b5 ah k4 k4).mono ?_;rintro v c6 ⟨d,rfl⟩;have d:=d.bt c10 9;refine⟨_,k0,?_⟩;refine⟨ds,(B.keep (m:=9) d k6).box.cell k0,?_⟩;refine Kk ac (F.keep (m:=9) d k6) 10 aq ⟨_,_,k0,k0,k0,k0,k0,k0⟩ k0 [ic rows op us] k0 (zJ k0) k0 λv eh c7 q=>?_;refine((Q.keep (m:=9) d k6).keep (m:=10) q k6).append ac ⟨_,_,k0,k0,k0,k0,k0,k0⟩ ⟨_,_,k0,k0⟩ k0 k6 (λ_=>rfl) (c7.seq λ_=>rfl) eT k8 λds' dy cf y=>?_;refine(((B.keep (m:=9) d k6).keep (m:=10) q k6).keep (m:=7) y k6).store ac k0 1 _ k0 k0 k0 (zJ k0) λd6 b7 x=>?_;have X:=(((Y.keep (m:=9) d k6).keep (m:=10) q k6).keep (m:=7) y k6).keep (m:=5) x k6;have c0:=(((U.keep (m:=9) d k6).keep (m:=10) q k6).keep (m:=7) y k6).keep (m:=5) x k6;refine⟨a,k0,o,X.box.cell k0,?_⟩;refine c0.set ac (λ_=>rfl) k0 (ic rows op us).toNat k4 k4 eS k0 k0 k0 λdu a8 w=>?_;have dp:=lh (op:=op) (j:=(ic rows op us).toNat) eb.2.2;rw[oX ad hst]at ar;refine⟨(f',op.set (ic rows op us).toNat eS,us,st,dd++[ic rows op us],_,ss,ds'),k0,⟨by simp[a7],L,k7,k7,k7,k8,⟨_,k0,?_⟩,
       ((((F.keep d k6).keep q k6).keep y k6).keep x k6).keep w k6,
       ((((a4.keep d k6).keep q k6).keep y k6).keep x k6).keep w k6,
       X.keep w k6,a8,((((V.keep d k6).keep q k6).keep y k6).keep x k6).keep w k6,b7.keep w k6,
       ((((S.keep d k6).keep q k6).keep y k6).keep x k6).keep w k6,
       (cf.keep x k6).keep w k6⟩,k7⟩
      rw[bx,<-ar];simp
theorem Nn(pool:List (Sl×Row))(d:(⟨eH,0,0⟩,[])∈pool)(n:Nat):iu pool id (qg n ⟨eH,0,0⟩) (qg n []):=
 ⟨k9,λi r l a b=>by
  rw[wb]at a b;split at a
  ·rename_i c;rw[j1 c]at b;cases a;cases b;exact d
  ·cases a⟩
theorem aa.agr{B:aB}{b h:hZ}{As:List HP}(H:aa B b h As)(i:Nat){pool:List (Sl×Row)}(c:As[i]?=dB (lA pool)):aa B b h (As.set i (lA ((⟨eH,0,0⟩,[])::pool))):=
 H.gF i c λq d x a=>by
  rcases qV.1 a with rfl|a
  ·exact Seq.nil _ _ _ _ _ _
  ·exact d x a
structure YI (h:hZ) (f:hU) (r st dd lf:Sl) (rr:List (Sl×Sl)) (R:List fu) (ST:List (Int×Int)) (D L:au):Prop where
 field:fI h f
 rest:oa jK 2 qv h r rr R
 steps:Rd h st 2 fM ST
 dead:Rd h dd 1 aq D
 left:Rd h lf 1 aq L
abbrev SA(s:hU)(a:ba):HP:=ao s 281 a
abbrev HA(s:Sl)(rs:List Sl):HP:=al 34 s 1 bo rs
abbrev RA(s:Sl)(l:Row):HP:=al 5 s 1 aD l
theorem Qe{R:bz}:∀{l1 l2:List (Int×Int)} {D:Int->Prop},tj R D (l1++l2)->tj R D l1/\tj R (λx=>D x∨∃i,(i,x)∈l1) l2
 |[],l2,D,h=>⟨trivial,by
  have:(λx=>D x∨∃i,(i,x)∈([]:List (Int×Int)))=D:=by funext x;simp
  rw[this];exact h⟩
 |(i,c)::l1,l2,D,h=>by
  obtain⟨a,b,k,d,e⟩:=h;obtain⟨f,g⟩:=Qe e;refine⟨⟨a,b,k,d,f⟩,?_⟩;have:(λx=>D x∨∃j,(j,x)∈(i,c)::l1)=λx=>(D x∨x=c)∨∃j,(j,x)∈l1:=by
   funext x;simp only[qV,Prod.mk.injEq,eq_iff_iff];constructor
   ·rintro(h|⟨j,⟨_,h⟩|h⟩)
    ·exact .inl (.inl h)
    ·exact .inl (.inr h)
    ·exact .inr ⟨j,h⟩
   ·rintro((h|h)|⟨j,h⟩)
    ·exact .inl h
    ·exact .inr ⟨i,.inl ⟨k0,h⟩⟩
    ·exact .inr ⟨j,.inr h⟩
  rw[this];exact g
section
variable {B:aB} {h0 h:hZ} {As:List HP}
theorem VM(s f:hU)(p:Int×Int×Int)(v r U Z V P S:Sl)(n:Nat)(pool:List (Sl×Row))(H:aa B h0 h (SA s (gA f p v r U Z V P S)::lA pool::As))(l:v.len=n)(hn:n<=64){K:Unit->hZ->Prop}
  (Q:∀j d h',j.len=n->d.len=n->aa B h0 h' (SA s (gA f p v r U Z V j d)::HA j (qg n ⟨eH,0,0⟩)::HA d (qg n ⟨eH,0,0⟩)::lA pool::As)->K () h'):(λ(c:aQ) (R:Unit->hZ->Prop)=>
 ∃a3:hU,(c=dB a3)/\
 ∃b:Sl,hY h (a3.add 4)=dB (xc b.ptr b.len b.cap)/\
 ∃a5:hU,(c=dB a5)/\
 ∃a:Sl,hY h (a5.add 4)=dB (xc a.ptr a.len a.cap)/\
 (aA xm (qG 85 (xb xi ((b.len:Nat):Int)) (xb xi ((b.len:Nat):Int))) (.one (.sc .slc)) h λy I=>
 (av.ok [(a5.add 4,(xc a.ptr a.len a.cap)),(a3.add 4,(xc b.ptr b.len b.cap))] I)/\
 ∃O:hU,(c=dB O)/\
 (aA xm (qG 85 (xb xi ((a.len:Nat):Int)) (xb xi ((a.len:Nat):Int))) (.one (.sc .slc)) I λv9 G=>
 (av.ok [(a5.add 4,(xc a.ptr a.len a.cap)),(a3.add 4,(xc b.ptr b.len b.cap))] G)/\
 af xm (qf 85 (xd (dB (O.add 9))) (xc y.ptr y.len y.cap)) G λ_ h3=>
 (av.ok [] h3)/\
 ∃E:hU,(c=dB E)/\
 af xm (qf 85 (xd (dB (E.add 10))) (xc v9.ptr v9.len v9.cap)) h3 λ_ q=>
 (av.ok [] q)/\
 R () q)/\(af xm (qf 85 (xd (dB (O.add 9))) (xc y.ptr y.len y.cap)) I λ_ Y=>
 (av.ok [] Y)/\
 aA xm (qG 85 (xb xi ((a.len:Nat):Int)) (xb xi ((a.len:Nat):Int))) (.one (.sc .slc)) Y λw T=>
 (av.ok [] T)/\
 ∃z:hU,(c=dB z)/\
 af xm (qf 85 (xd (dB (z.add 10))) (xc w.ptr w.len w.cap)) T λ_ X=>
 (av.ok [] X)/\
 R () X))/\(aA xm (qG 85 (xb xi ((a.len:Nat):Int)) (xb xi ((a.len:Nat):Int))) (.one (.sc .slc)) h λu h8=>
 (av.ok [(a5.add 4,(xc a.ptr a.len a.cap)),(a3.add 4,(xc b.ptr b.len b.cap))] h8)/\
 aA xm (qG 85 (xb xi ((b.len:Nat):Int)) (xb xi ((b.len:Nat):Int))) (.one (.sc .slc)) h8 λt h9=>
 (av.ok [(a5.add 4,(xc a.ptr a.len a.cap)),(a3.add 4,(xc b.ptr b.len b.cap))] h9)/\
 ∃F:hU,(c=dB F)/\
 af xm (qf 85 (xd (dB (F.add 9))) (xc t.ptr t.len t.cap)) h9 λ_ M=>
 (av.ok [] M)/\
 ∃A:hU,(c=dB A)/\
 af xm (qf 85 (xd (dB (A.add 10))) (xc u.ptr u.len u.cap)) M λ_ D=>
 (av.ok [] D)/\
 R () D)) (dB s) K:=by
 have W:=H.box 0 k0;refine⟨s,k0,v,W.cell k0,s,k0,v,W.cell k0,?_,?_⟩
 ·refine H.make ac bo fH k6 ⟨eH,0,0⟩ k0 k0 n n q6 q6 (ql _) k4 λj I o N m=>?_;have m:=m.bu;have k:=m.box 1 k0;refine⟨⟨k.cell k0,k.cell k0,trivial⟩,s,k0,?_,?_⟩
  ·refine m.make ac bo fH k6 ⟨eH,0,0⟩ k0 k0 n n q6 q6 (ql _) k4 λd G g L e=>?_;have e:=e.bu;have i:=e.box 2 k0;refine⟨⟨i.cell k0,i.cell k0,trivial⟩,?_⟩;refine e.store ac 2 k0 k0 9 [j] k0 k0 k0 pa λh3 x=>⟨trivial,s,k0,?_⟩
   refine x.store ac 2 k0 k0 10 [d] k0 k0 k0 pa λq J=>⟨trivial,?_⟩
   exact Q j d q o g (J.bc 4 [2,1,0,3])
  ·refine m.store ac 1 k0 k0 9 [j] k0 k0 k0 pa λG e=>⟨trivial,?_⟩
   refine e.make ac bo fH k6 ⟨eH,0,0⟩ k0 k0 n n q6 q6 (ql _) k4 λd h3 g L x=>⟨trivial,s,k0,?_⟩
   have x:=x.bu;refine x.store ac 2 k0 k0 10 [d] k0 k0 k0 pa λq J=>⟨trivial,?_⟩
   exact Q j d q o g (J.bc 4 [2,1,0,3])
 ·refine H.make ac bo fH k6 ⟨eH,0,0⟩ k0 k0 n n q6 q6 (ql _) k4 λd I o N m=>?_;have m:=m.bu;have k:=m.box 1 k0;refine⟨⟨k.cell k0,k.cell k0,trivial⟩,?_⟩;refine m.make ac bo fH k6 ⟨eH,0,0⟩ k0 k0 n n q6 q6 (ql _) k4 λj G g L e=>?_;have e:=e.bu;have i:=e.box 2 k0;refine⟨⟨i.cell k0,i.cell k0,trivial⟩,s,k0,?_⟩;refine e.store ac 2 k0 k0 9 [j] k0 k0 k0 pa λh3 x=>⟨trivial,s,k0,?_⟩
  refine x.store ac 2 k0 k0 10 [d] k0 k0 k0 pa λq J=>⟨trivial,?_⟩
  exact Q j d q g o (J.bc 4 [2,0,1,3])
end
section
variable {B:aB} {h0 h:hZ} {As:List HP}
theorem aby(n nd w:Nat)(d:au):(fW n nd w d).1.length=n/\(fW n nd w d).2.length=n:=by
 unfold fW;have:∀(l:List (Int×Nat)) (s:aM×aM),(l.foldl (λs p=>(s.1.set p.1.toNat (oD nd p.2),s.2.set p.1.toNat (aK w))) s).1.length=j9 s.1/\(l.foldl (λs p=>(s.1.set p.1.toNat (oD nd p.2),s.2.set p.1.toNat (aK w))) s).2.length=j9 s.2:=by
  intro l
  induction l with
  |nil=>intro s;exact⟨k0,k0⟩
  |cons a l ih=>intro s;rw[zC];have:=ih (s.1.set a.1.toNat (oD nd a.2),s.2.set a.1.toNat (aK w));simpa using this
 have:=this d.zipIdx (qg n [],qg n []);simpa using this
abbrev Told(s f:hU)(p:Int×Int×Int)(v r e i h a b:Sl)(g c:List Sl)(d:List (Sl×Row)):List HP:=[SA s (gA f p v r e i h a b),HA a g,HA b c,lA d]
theorem YJ(s f:hU)(p:Int×Int×Int)(v r st O lf wa L:Sl)(I mr:List Sl)(pl:List (Sl×Row))(c:Int)(nd w:Nat)(H:aa B h0 h (Told s f p v r st O lf wa L I mr pl++As))(a0:0<=c)(hw:c.toNat<j9 I)(hm:c.toNat<j9 mr)(Y:p.2.2=w)(hd:O.len=nd)(ay:nd<=64)(J:w<=2^20){K:Unit->hZ->Prop}
  (hk:∀a b h',aa B h0 h' (RA a (aK nd)::RA b (aK w)::(Told s f p v r st O lf wa L (I.set c.toNat a) (mr.set c.toNat b) pl++As))->K () h'):(λ(T:aQ) (K3:Unit->hZ->Prop)=>
 ∃l:hU,(T=dB l)/\
 ∃g:Sl,hY h (l.add 9)=dB (xc g.ptr g.len g.cap)/\
 ∃a25:hU,(T=dB a25)/\
 ∃d:Sl,hY h (a25.add 10)=dB (xc d.ptr d.len d.cap)/\
 ∃Q:hU,(T=dB Q)/\
 ∃j:Int,hY h ((Q.add 1).add 2)=dB (xb xi j)/\
 (aA xm (qG 34 (xb xi ((O.len:Nat):Int)) (xb xi ((O.len:Nat):Int))) (.one (.sc .slc)) h λn R=>
 (av.ok [((Q.add 1).add 2,(xb xi j)),(a25.add 10,(xc d.ptr d.len d.cap)),(l.add 9,(xc g.ptr g.len g.cap))] R)/\
 ∃S:hU,(g.ptr=dB S/\0<=c/\c<((g.len:Nat):Int))/\
 (aA xm (qG 34 (xb xi j) (xb xi j)) (.one (.sc .slc)) R λV ad=>
 (av.ok [(a25.add 10,(xc d.ptr d.len d.cap)),(l.add 9,(xc g.ptr g.len g.cap))] ad)/\
 af xm (qf 34 (xd (dB (S.add (c.toNat*1)))) (xc n.ptr n.len n.cap)) ad λ_ A=>
 (av.ok [] A)/\
 ∃D:hU,(d.ptr=dB D/\0<=c/\c<((d.len:Nat):Int))/\
 af xm (qf 34 (xd (dB (D.add (c.toNat*1)))) (xc V.ptr V.len V.cap)) A λ_ y=>
 (av.ok [] y)/\
 K3 () y)/\(af xm (qf 34 (xd (dB (S.add (c.toNat*1)))) (xc n.ptr n.len n.cap)) R λ_ z=>
 (av.ok [] z)/\
 aA xm (qG 34 (xb xi j) (xb xi j)) (.one (.sc .slc)) z λk E=>
 (av.ok [] E)/\
 ∃t:hU,(d.ptr=dB t/\0<=c/\c<((d.len:Nat):Int))/\
 af xm (qf 34 (xd (dB (t.add (c.toNat*1)))) (xc k.ptr k.len k.cap)) E λ_ q=>
 (av.ok [] q)/\
 K3 () q))/\(aA xm (qG 34 (xb xi j) (xb xi j)) (.one (.sc .slc)) h λW ah=>
 (av.ok [(a25.add 10,(xc d.ptr d.len d.cap)),(l.add 9,(xc g.ptr g.len g.cap))] ah)/\
 aA xm (qG 34 (xb xi ((O.len:Nat):Int)) (xb xi ((O.len:Nat):Int))) (.one (.sc .slc)) ah λU ar=>
 (av.ok [(a25.add 10,(xc d.ptr d.len d.cap)),(l.add 9,(xc g.ptr g.len g.cap))] ar)/\
 ∃am:hU,(g.ptr=dB am/\0<=c/\c<((g.len:Nat):Int))/\
 af xm (qf 34 (xd (dB (am.add (c.toNat*1)))) (xc U.ptr U.len U.cap)) ar λ_ ax=>
 (av.ok [] ax)/\
 ∃ap:hU,(d.ptr=dB ap/\0<=c/\c<((d.len:Nat):Int))/\
 af xm (qf 34 (xd (dB (ap.add (c.toNat*1)))) (xc W.ptr W.len W.cap)) ax λ_ Z=>
 (av.ok [] Z)/\
 K3 () Z)) (dB s) K:=by
 have hb:=H.box 0 k0;have mk:∀{X:hZ} {Cs:List HP} (m:Nat) (hm:m<=2^20) {z1 z2:Int},z1=(m:Int)->z2=(m:Int)->aa B h0 X Cs->∀{K:Sl->hZ->Prop},(∀a h',aa B h0 h' (RA a (aK m)::Cs)->K a h')->
   aA xm (qG 34 (xb xi z1) (xb xi z2)) (.one (.sc .slc)) X K:=by
  intro X Cs m hm z1 z2 e1 e2 G K hK;subst e1;subst e2;exact G.make ac aD gM k6 0 k0 k0 m m k0 k0 (ql _) k4 λa h' _ _ H'=>hK a h' H'.bu
 refine⟨s,k0,wa,hb.cell k0,s,k0,L,hb.cell k0,s,k0,p.2.2,show hY h (s.add 3)=_ from hb.cell k0,?_,?_⟩
 ·refine mk nd k4 (by rw[hd]) (by rw[hd]) H λa X G=>?_;have o:=G.box 1 k0;refine⟨⟨show hY X (s.add 3)=_ from o.cell k0,o.cell k0,o.cell k0,trivial⟩,?_⟩;have u:∀{h2:hZ} {Cs:List HP} {I:List Sl} (i:Nat) (a:Sl) {s':Sl},aa B h0 h2 Cs->Cs[i]?=dB (HA s' I)->c.toNat<j9 I->∀{K:hZ->Prop},(∀h',aa B h0 h' (Cs.set i (HA s' (I.set c.toNat a)))->K h')->∃x:hU,(s'.ptr=dB x/\0<=c/\c<((s'.len:Nat):Int))/\af xm (qf 34 (xd (dB (x.add (c.toNat*1)))) (xc a.ptr a.len a.cap)) h2 λ_ h'=>K h':=by intro h2 Cs I i a s' P hi hl K hK;exact P.set ac i hi (λ_=>rfl) k0 c.toNat k4 hl a k0 k0 k0 λh3 N=>hK h3 N
  obtain⟨x,hx,-⟩:=u (K:=λ_=>True) 2 a G rfl hw λ_ _=>trivial;refine⟨x,hx,?_,?_⟩
  ·refine mk w J Y Y G λb h2 P=>?_;have F:=P.box 2 k0;refine⟨⟨F.cell k0,F.cell k0,trivial⟩,?_⟩;obtain⟨x',M,hr⟩:=u (K:=λA=>av.ok [] A/\∃D:hU,(L.ptr=dB D/\0<=c/\c<((L.len:Nat):Int))/\
 af xm (qf 34 (xd (dB (D.add (c.toNat*1)))) (xc b.ptr b.len b.cap)) A λ_ y=>(av.ok [] y)/\K () y) 3 a P k0 hw λh3 N=>⟨trivial,u 4 b N k0 hm λh4 H4=>⟨trivial,hk a b h4 (H4.bc 6 [1,0,2,3,4,5])⟩⟩
   have e:x=x':=zS.inj (hx.1.symm.trans M.1);subst e;exact hr
  ·obtain⟨x',M,hr⟩:=u (K:=λz=>av.ok [] z/\aA xm (qG 34 (xb xi p.2.2) (xb xi p.2.2)) (.one (.sc .slc)) z λk E=>
 (av.ok [] E)/\
 ∃t:hU,(L.ptr=dB t/\0<=c/\c<((L.len:Nat):Int))/\
 af xm (qf 34 (xd (dB (t.add (c.toNat*1)))) (xc k.ptr k.len k.cap)) E λ_ q=>
 (av.ok [] q)/\K () q) 2 a G k0 hw λh3 N=>⟨trivial,mk w J Y Y N λb h4 H4=>⟨trivial,u 4 b H4 k0 hm λh5 H5=>⟨trivial,hk a b h5 (H5.bc 6 [1,0,2,3,4,5])⟩⟩⟩
   have e:x=x':=zS.inj (hx.1.symm.trans M.1);subst e;exact hr
 ·refine mk w J Y Y H λb X G=>?_;have o:=G.box 1 k0;refine⟨⟨o.cell k0,o.cell k0,trivial⟩,?_⟩;refine mk nd k4 (by rw[hd]) (by rw[hd]) G λa h2 P=>?_;have F:=P.box 2 k0;refine⟨⟨F.cell k0,F.cell k0,trivial⟩,?_⟩;refine P.set ac 3 k0 (λ_=>rfl) k0 c.toNat k4 hw a k0 k0 k0 λh3 N=>⟨trivial,?_⟩
  refine N.set ac 4 k0 (λ_=>rfl) k0 c.toNat k4 hm b k0 k0 k0 λh4 H4=>⟨trivial,hk a b h4 (H4.bc 6 [0,1,2,3,4,5])⟩
end
section
variable {B:aB} {h0 h:hZ} {As:List HP}
theorem Uk{h:hZ}{Cs:List HP}(x:Sl)(m:Row)(nd:Nat)(z:Int)(H:aa B h0 h Cs)(A:z=nd)(w:nd<=64)(E:j9 m<=2^20){L L2:av}(D:L.ok h)(o:L2.ok h)(s:St B h0 Cs λh=>Rd h x 1 aD m){K:Sl->Sl->hZ->Prop}
  (u:∀a b h',aX (λb=>b<h.size) h h'->aa B h0 h' (RA a (aK nd)::RA b m::Cs)->K a b h'):
  (aA xm (qG 34 (xb xi z) (xb xi z)) (.one (.sc .slc)) h λl d=>
 (av.ok L d)/\
 ae xm 146 #[(xc x.ptr x.len x.cap)] (.one (.sc .slc)) d λf i=>K l f i)/\(ae xm 146 #[(xc x.ptr x.len x.cap)] (.one (.sc .slc)) h λp e=>
 (av.ok L2 e)/\
 aA xm (qG 34 (xb xi z) (xb xi z)) (.one (.sc .slc)) e λg k=>K g p k):=by
 subst A;constructor
 ·refine H.Lw ac aD gM k6 0 k0 k0 nd nd k0 k0 (ql _) k4 λa t _ q c=>⟨lS q D,?_⟩
  have c:=c.bu;refine(fA x m t (s.at [_] c) k4).mono ?_;rintro _ n ⟨b,rfl,r⟩;exact⟨b,k0,u a b n (up q r.aj) ((c.ck r).nZ)⟩
 ·refine(fA x m h (s.at [] H) k4).mono ?_;rintro _ t ⟨b,rfl,j⟩;have c:=H.ck j;refine⟨b,k0,lS j.aj o,?_⟩;refine c.Lw ac aD gM k6 0 k0 k0 nd nd k0 k0 (ql _) k4 λa n _ y v=>?_;exact u a b n (up j.aj y) v.bu
structure mH (pool pl:List (Sl×Row)) (wr mr:List Sl) (W M:aM):Prop where
 sub:∀x∈pool,x∈pl
 way:iu pl id wr W
 more:iu pl id mr M
theorem mH.step{pool e:List (Sl×Row)}{f g:List Sl}{W M:aM}(x:mH pool e f g W M)(c:Nat)(a b:Sl)(l m:Row):mH pool ((b,m)::(a,l)::e) (f.set c a) (g.set c b) (W.set c l) (M.set c m):=
 ⟨λy d=>by simp[x.sub y d],(x.way.mono λy d=>u6).set c k9,(x.more.mono λy d=>u6).set c k9⟩
theorem YK(s f:hU)(p:Int×Int×Int)(v r z o A a3 bd:Sl)(rr:List (Sl×Sl))(R:List fu)(ST:List (Int×Int))(D L:au)(n nd w:Nat)(pool:List (Sl×Row))(H:aa B h0 h (SA s (gA f p v r z o A a3 bd)::lA pool::As))(X:St B h0 As λh=>YI h f r z o A rr R ST D L)
  (hv:v.len=n) (hn:n<=64) (hp:p.2.2=w) (hw:w<=2^20) (bl:j9 D=nd) (ad:nd<=64) (hR:∀e∈R,jc n w e) (hD:∀c∈D,0<=c/\c<(n:Int)) (b9:D.Nodup) (hg:tj (R.map qM) (·∈D) ST) (cf:j9 ST<=2^20) (bx:∀e∈R,j9 e.1<=2^20) (bk:(⟨eH,0,0⟩,[])∈pool):
  ab xm 218 #[xd (dB s)] h λv' h'=>v'=.tuple #[]/\∃k l q u I,aa B h0 h' (Told s f p v r z o A k l q u I++As)/\mH pool I q u (ST.foldl (ie R nd) (fW n nd w D)).1 (ST.foldl (ie R nd) (fW n nd w D)).2:=by
 refine AY (dB s) ?_;unfold pq;have hb:=H.box 0 k0;have a7:o.len=nd:=by rw[(X.at [_,_] H).dead.len,bl]
 refine⟨s,k0,o,show hY h (s.add 7)=_ from hb.cell k0,?_⟩;refine bO (λ_ h'=>∃k l,k.len=n/\l.len=n/\aa B h0 h' (Told s f p v r z o A k l (qg n ⟨eH,0,0⟩) (qg n ⟨eH,0,0⟩) pool++As)) ?_ ?_
 ·exact VM (K:=λ_ h'=>∃k l,k.len=n/\l.len=n/\aa B h0 h' (Told s f p v r z o A k l (qg n ⟨eH,0,0⟩) (qg n ⟨eH,0,0⟩) pool++As)) s f p v r z o A a3 bd n pool H hv hn λk l h' h1 h2 N=>⟨k,l,h1,h2,N⟩
 rintro-h1 ⟨k,l,cs,cr,H1⟩;have cc:=H1.box 0 k0;refine⟨s,k0,o,show hY h1 (s.add 7)=_ from cc.cell k0,?_⟩;refine aw (λt:Nat×List Sl×List Sl×List (Sl×Row)=>(t.1:Int)) (λt h'=>t.1<=nd/\aa B h0 h' (Told s f p v r z o A k l t.2.1 t.2.2.1 t.2.2.2++As)/\mH pool t.2.2.2 t.2.1 t.2.2.1 (fW n nd w (D.take t.1)).1 (fW n nd w (D.take t.1)).2) (λt=>nd-t.1)
  (0,qg n ⟨eH,0,0⟩,qg n ⟨eH,0,0⟩,pool) k0 ⟨k4,H1,⟨λ_ h=>h,Nn pool bk n,Nn pool bk n⟩⟩ ?_
 rintro⟨i,q,u,I⟩ h2 ⟨hi,H2,T2⟩;dsimp only at*;have b2:=aby n nd w (D.take i);have U:=T2.way.1;have S:=T2.more.1;refine ai (λe=>?_) (λe=>?_)
 ·have Y:i<nd:=k4
  have T:=hD _ (qh (show i<j9 D by omega));refine(X.at [_,_,_,_] H2).dead.bC i k0 k4 _ k0 ?_;refine bO (λ_ h'=>∃a b,aa B h0 h' (RA a (aK nd)::RA b (aK w)::(Told s f p v r z o A k l (q.set D[i].toNat a) (u.set D[i].toNat b) I++As))) ?_ ?_
  ·exact YJ (K:=λ_ h'=>∃a b,aa B h0 h' (RA a (aK nd)::RA b (aK w)::(Told s f p v r z o A k l (q.set D[i].toNat a) (u.set D[i].toNat b) I++As))) s f p v r z o A k l q u I D[i] nd w H2 T.1 k4 k4 hp a7 ad hw λa b h' N=>⟨a,b,N⟩
  rintro-h3 ⟨a,b,H3⟩;refine⟨s,k0,k,(H3.box 2 k0).cell k0,?_⟩;refine(H3.seq 3 k0 λ_=>rfl).md D[i].toNat k4 k8 ?_;rw[y9];refine H3.set ac 0 k0 (λ_=>rfl) k0 i k0 (by simp[aK];omega) 1 k0 k0 k0 λh4 H4=>?_;have H5:=(H4.freeze 0 k0 λ_=>rfl).pool 5 0 k6 k0 k0;have H6:=(H5.freeze 1 k0 λ_=>rfl).pool 5 1 k6 k0 k0;refine⟨(i+1,q.set D[i].toNat a,u.set D[i].toNat b,_),lb,⟨k7,H6.bc 6 [2,3,4,5],?_⟩,k7⟩;dsimp only;have e1:D.take (i+1)=D.take i++[D[i]]:=aH _ _;have e2:j9 (D.take i)=i:=k8
  rw[e1,LK,e2];exact T2.step D[i].toNat a b (oD nd i) (aK w)
 have ah:i=j9 D:=k4
 subst ah;rw[qS]at T2 b2 U S;refine⟨s,k0,z,(H2.box 0 k0).cell k0,?_⟩;have cd:=(X.at [_,_,_,_] H2).steps.len;refine aw (λt:Nat×List Sl×List Sl×List (Sl×Row)=>(t.1:Int)) (λt h'=>t.1<=j9 ST/\aa B h0 h' (Told s f p v r z o A k l t.2.1 t.2.2.1 t.2.2.2++As)/\mH pool t.2.2.2 t.2.1 t.2.2.1 ((ST.take t.1).foldl (ie R nd) (fW n nd w D)).1 ((ST.take t.1).foldl (ie R nd) (fW n nd w D)).2) (λt=>j9 ST-t.1)
  (0,q,u,I) k0 ⟨k9,H2,T2⟩ ?_
 clear U S T2 H2 hi e;rintro⟨i,q,u,I⟩ h3 ⟨hi,H3,T3⟩;dsimp only at*;obtain⟨dk,-⟩:=NY (nd:=nd) (w:=w) hD b9 D.length (ql _);rw[qS]at dk;have a8:=Qe (l1:=ST.take i) (l2:=ST.drop i) (by rw[qJ];exact hg);obtain⟨a0,-⟩:=Ky hR a8.1 dk;obtain⟨W,hW⟩:∃W,W=((ST.take i).foldl (ie R nd) (fW n nd w D)).1:=⟨_,rfl⟩
 obtain⟨M,hM⟩:∃M,M=((ST.take i).foldl (ie R nd) (fW n nd w D)).2:=⟨_,rfl⟩
 have am:(ST.take i).foldl (ie R nd) (fW n nd w D)=(W,M):=by rw[hW,hM]
 have G:WOk n nd w (λc=>c∈D∨∃j,(j,c)∈ST.take i) W M:=by rw[hW,hM];exact a0
 rw[<-hW,<-hM]at T3;clear a0 hW hM;have cq:=G.wl;have cp:=G.ml;have U:=T3.way.1;have S:=T3.more.1;refine ai (λe=>?_) (λe=>?_)
 ·have Y:i<j9 ST:=k4
  have ax:=a8.2;rw[qP Y]at ax;obtain⟨row,bt,ar⟩:∃row bt,ST[i]=(row,bt):=⟨_,_,rfl⟩
  rw[ar]at ax;obtain⟨g1,g2,g3,g4,-⟩:=ax;have m:row.toNat<j9 R:=by have:=g1.2;rw[qw]at this;omega
  obtain⟨d,V⟩:∃d,d=R[row.toNat]:=⟨_,rfl⟩
  have er:R.getD row.toNat ([],[])=d:=by rw[qe,qd m,V];rfl
  have b4:(R.map qM).getD row.toNat []=d.1:=by rw[qe,qR,qd m,V];rfl
  rw[b4]at g3 g4;have J:=hR d (V▸qh m);have cl:=bx d (V▸qh m);have c1:=J.cZ bt g3;have G3:=X.at [_,_,_,_] H3;have hF:=G3.rest.2.1;refine G3.steps.ey (g:=fM) i k0 Y ST[i] k0 ?_;rw[ar];refine H3.Ge ac k0 λa50 h4 P4 H4=>?_;have H4:=H4.bu;refine H4.storeAll ac 0 k0 k0 (fM (row,bt)) k0 k0 k0 k0 λh5 H5=>?_;have bq:row.toNat<j9 rr:=by rw[hF];exact m
  obtain⟨y,hy⟩:∃y,y=rr[row.toNat]:=⟨_,rfl⟩
  have E:∀{h'},oa jK 2 qv h' r rr R->jK.p h' (λb=>b<h'.size) y d:=λhh=>by rw[hy,V];exact Fix.row hh m
  refine bO (λa' h'=>aa B h0 h' (ao a' 275 (qv y)::ao a50 332 (fM (row,bt))::(Told s f p v r z o A k l q u I++As))) ?_ ?_
  ·have ay:=H5.box 1 k0;have G5:=X.at [_,_,_,_,_] H5;refine⟨s,k0,r,ay.cell k0,row,(H5.box 0 k0).cell0 k0,?_⟩;obtain⟨br,ha,x,T,rfl⟩:=G5.rest.1.ey (g:=qv) (i:=row) row.toNat k4 bq y (by rw[hy]) (K:=λx=>x=y) rfl;refine⟨br,ha,_,T,?_⟩;refine H5.Ge ac k0 λO h6 P6 H6=>⟨⟨py T.1 P6,py T.2.1 P6,py ((H5.box 0 k0).cell0 k0) P6,py (ay.cell k0) P6,trivial⟩,?_⟩
   have H6:=H6.bu;refine H6.storeAll ac 0 k0 k0 (qv x) k0 k0 k0 k0 λh7 H7=>⟨trivial,H7⟩
  intro O h7 H7;refine bO (λt h'=>aa B h0 h' (RA t.1 (aK nd)::RA t.2 d.2::ao O 275 (qv y)::ao a50 332 (fM (row,bt))::(Told s f p v r z o A k l q u I++As))) ?_ ?_
  ·have a1:=H7.box 0 k0;refine⟨y.2,a1.cell k0,?_⟩;exact Uk (L:=[(O.add 1,xc y.2.ptr y.2.len y.2.cap)]) (K:=λa b h'=>av.ok [] h'/\aa B h0 h' (RA a (aK nd)::RA b d.2::ao O 275 (qv y)::ao a50 332 (fM (row,bt))::(Told s f p v r z o A k l q u I++As))) y.2 d.2 nd _ H7 (by rw[a7]) ad (by rw[J.len];exact hw) ⟨a1.cell k0,trivial⟩ (L2:=[]) trivial (St.mk' λh' N=>(E (X.at [_,_,_,_,_,_] N).rest).2) λa b h' _ N=>⟨trivial,N⟩
  rintro⟨Q,more⟩ h8 H8;dsimp only at H8;refine⟨y.1,(H8.box 2 k0).cell0 k0,?_⟩;have cn:=(E (X.at [_,_,_,_,_,_,_,_] H8).rest).1.len;let F:Nat->au:=λj=>(d.1.take j).filter λc=>!decide (c=bt);refine aw (λj:Nat=>(j:Int)) (λj h'=>j<=j9 d.1/\aa B h0 h' (RA Q (cW W (aK nd) (F j))::RA more (cW M d.2 (F j))::ao O 275 (qv y)::ao a50 332 (fM (row,bt))::(Told s f p v r z o A k l q u I++As))) (λj=>j9 d.1-j) 0 k0 ⟨k4,by simpa[F,cW]using H8⟩ ?_;rintro j h9 ⟨hj,H9⟩;have told:∀c∈F j,j9 (aC W c.toNat)=nd/\(aC M c.toNat).length=w:=λc T=>by
   have a6:=qH.1 T;have hm:=zI a6.1;exact G.rw_ c (g4 c hm (by simpa using a6.2)) (J.cZ c hm).1 (J.cZ c hm).2
  have a5:j9 (cW W (aK nd) (F j))=nd:=ka mn λc T=>(told c T).1;have a4:j9 (cW M d.2 (F j))=w:=ka J.len λc T=>(told c T).2;refine ai (λe2=>?_) (λe2=>?_)
  ·have P:j<j9 d.1:=k4
   have ap:=J.cZ _ (qh P);refine(E (X.at [_,_,_,_,_,_,_,_] H9).rest).1.bC j k0 P _ k0 ?_;refine⟨bt,(H9.box 3 k0).cell k0,?_⟩;refine bR (λbb=>?_) (λb1=>?_)
   ·have tc:=G.rw_ d.1[j] (g4 _ (qh P) bb) ap.1 ap.2;refine(Ie s f 1 d.1[j] Q more k l _ _ q u W M H9 (St.mk' λh' N=>?_) ap.1 k4 k4 (by rw[tc.1,a5]) (by rw[tc.2,a4]) k4 k4).mono ?_
    ·exact DC.of (N.box 2 k0) (X.at [_,_,_,_,_,_] N).field (N.EG 3 5 k0 k0 T3.way) (N.EG 4 5 k0 k0 T3.more)
    rintro _ b3 ⟨rfl,Z⟩;have e3:F (j+1)=F j++[d.1[j]]:=by simp only[F];rw[jR _ _ P];simp[bb]
    exact⟨(),k0,j+1,ld,⟨k4,by rw[e3,tZ,tZ];exact Z⟩,k4⟩
   ·have e3:F (j+1)=F j:=by simp only[F];rw[jR _ _ P];simp[b1]
    exact⟨j+1,ld,⟨k4,by rw[e3];exact H9⟩,k4⟩
  ·have b6:j=j9 d.1:=k4
   subst b6;have a9:=H9.box 3 k0;have a2:=H9.box 4 k0;refine⟨s,k0,k,a2.cell k0,bt,a9.cell k0,s,k0,l,a2.cell k0,bt,a9.cell k0,?_⟩;refine H9.set ac 5 k0 (λ_=>rfl) k0 bt.toNat k4 k4 Q k0 k0 k0 λb3 Z=>⟨⟨(Z.box 3 k0).cell k0,trivial⟩,?_⟩
   refine Z.set ac 6 k0 (λ_=>rfl) k0 bt.toNat k4 k4 more k0 k0 k0 λc0 b7=>⟨trivial,?_⟩
   have b5:=(b7.freeze 0 k0 λ_=>rfl).pool 7 0 k6 k0 k0;have b0:=(b5.freeze 1 k0 λ_=>rfl).pool 7 1 k6 k0 k0;refine⟨(i+1,q.set bt.toNat Q,u.set bt.toNat more,_),lb,⟨k7,b0.bc 8 [4,5,6,7],?_⟩,k7⟩;dsimp only;rw[aH _ _ Y,wv,am,ar];have e3:[(row,bt)].foldl (ie R nd) (W,M)=(W.set bt.toNat (cW W (aK nd) (F d.1.length)),M.set bt.toNat (cW M d.2 (F d.1.length))):=by simp only[zC,List.foldl_nil,ie,er,F,qS]
   rw[e3];exact T3.step bt.toNat Q more _ _
 ·have ah:i=j9 ST:=k4
  subst ah;rw[qS]at am;exact⟨k0,k,l,q,u,I,H3,by rw[am];exact T3⟩
end
def kT(nd:Nat)(known:List Bool)(vals:aM)(s:aM×aM)(i:Nat):aM×aM:=
 (s.1.mapIdx λc r=>if c<i/\known.getD c eS=eR then aK nd else r,s.2.mapIdx λc r=>if c<i/\known.getD c eS=eR then aC vals c else r)
theorem YL(nd:Nat)(known:List Bool)(vals:aM)(s:aM×aM):kT nd known vals s 0=s:=by unfold kT;refine yY ?_ ?_<;>refine wC k9 λi b a=>?_<;>simp
theorem abz(nd:Nat)(known:List Bool)(vals:aM)(s:aM×aM){n:Nat}(a:j9 s.1=n)(b:j9 s.2=n):kT nd known vals s n=iI nd known vals s:=by unfold kT iI;refine yY ?_ ?_<;>refine wC k9 λi a b=>?_<;>simp at a<;>simp[show i<n by omega]
theorem abA(nd:Nat)(known:List Bool)(vals:aM)(s:aM×aM){i:Nat}(d:known.getD i eS=eR):kT nd known vals s (i+1)=((kT nd known vals s i).1.set i (aK nd),(kT nd known vals s i).2.set i (aC vals i)):=by
 unfold kT;refine yY ?_ ?_<;>refine wC k9 λj f e=>?_<;>simp only[List.getElem_mapIdx,List.getElem_set]<;>by_cases c:i=j
 ·subst c;rw[j1 ⟨k4,d⟩,j1 rfl]
 ·rw[j3 c];congr 1;simp only[eq_iff_iff];constructor<;>rintro⟨a,b⟩<;>exact⟨k4,b⟩
 ·subst c;rw[j1 ⟨k4,d⟩,j1 rfl]
 ·rw[j3 c];congr 1;simp only[eq_iff_iff];constructor<;>rintro⟨a,b⟩<;>exact⟨k4,b⟩
theorem adZ(nd:Nat)(known:List Bool)(vals:aM)(s:aM×aM){i:Nat}(e:known.getD i eS=eS):kT nd known vals s (i+1)=kT nd known vals s i:=by
 have c:∀j,(j<i+1/\known.getD j eS=eR)↔(j<i/\known.getD j eS=eR):=λj=>by
  constructor
  ·rintro⟨a,b⟩;by_cases d:j=i
   ·subst d;rw[e]at b;cases b
   ·exact⟨k4,b⟩
  ·rintro⟨a,b⟩;exact⟨k4,b⟩
 unfold kT;simp only[c]
section
variable {B:aB} {h0 h:hZ} {As:List HP}
theorem abB(s f:hU)(p:Int×Int×Int)(v r L F N J G:Sl)(j d g:List Sl)(l:List (Sl×Row))(known:List Bool)(V W M:aM)(n nd:Nat)(H:aa B h0 h (Told s f p v r L F N J G d g l++HA v j::As))(hn:n<=64)(D:F.len=nd)(ad:nd<=64)(hT:mH l l d g W M)(P:iu l id j V)(Y:j9 V=n)(z:j9 W=n)(w:j9 M=n)
  (hk:∀(c:Nat) (hc:c<j9 j),j[c].ptr.isNone=!(known.getD c eS)):
  ab xm 219 #[xd (dB s)] h λv' h'=>v'=.tuple #[]/\∃d g b,aa B h0 h' (Told s f p v r L F N J G d g b++HA v j::As)/\mH l b d g (iI nd known V (W,M)).1 (iI nd known V (W,M)).2:=by
 refine Cm (dB s) ?_;unfold re;have S:=P.1;have O:v.len=n:=by rw[(H.own 4 k0).len];omega
 refine⟨s,k0,v,(H.box 0 k0).cell k0,?_⟩;refine aw (λt:Nat×List Sl×List Sl×List (Sl×Row)=>(t.1:Int)) (λt h'=>t.1<=n/\aa B h0 h' (Told s f p v r L F N J G t.2.1 t.2.2.1 t.2.2.2++HA v j::As)/\mH l t.2.2.2 t.2.1 t.2.2.1 (kT nd known V (W,M) t.1).1 (kT nd known V (W,M) t.1).2) (λt=>n-t.1) (0,d,g,l) k0 ⟨k4,H,by rw[YL];exact hT⟩ ?_;rintro⟨i,d,g,b⟩ h1 ⟨hi,E,k⟩;dsimp only at*;have U:(kT nd known V (W,M) i).1.length=n:=by simp[kT,z]
 have X:(kT nd known V (W,M) i).2.length=n:=by simp[kT,w]
 have Q:=k.way.1;have R:=k.more.1;refine ai (λe=>?_) (λe=>?_)
 ·have T:i<n:=k4
  refine(E.seq 4 k0 λ_=>rfl).md i k0 k4 ?_;have A:=hk i k4;refine bj (λu=>?_) (λu=>?_)
  ·have m:known.getD i eS=eR:=by rw[A]at u;simpa using u
   have q:=E.box 0 k0;refine⟨s,k0,J,q.cell k0,s,k0,G,q.cell k0,s,k0,F,show hY h1 (s.add 7)=_ from q.cell k0,?_⟩;refine E.Lw ac aD gM k6 0 k0 k0 nd nd (by rw[D]) (by rw[D]) (ql _) k4 λa h2 _ P2 I=>?_;have I:=I.bu;have o:=I.box 1 k0;refine⟨⟨show hY h2 (s.add 7)=_ from o.cell k0,o.cell k0,o.cell k0,trivial⟩,?_⟩;refine I.set ac 2 k0 (λ_=>rfl) k0 i k0 k4 a k0 k0 k0 λh3 H3=>⟨trivial,?_⟩
   refine H3.set ac 3 k0 (λ_=>rfl) k0 i k0 k4 (j[i]'(by omega)) k0 k0 k0 λh4 H4=>⟨trivial,?_⟩
   have H5:=(H4.freeze 0 k0 λ_=>rfl).pool 4 0 k6 k0 k0;refine⟨(i+1,d.set i a,g.set i (j[i]'(by omega)),_),lb,⟨k7,H5.bc 5 [1,2,3,4],?_⟩,k7⟩;dsimp only;rw[abA nd known V (W,M) m];have Z:((j[i]'(by omega)),aC V i)∈l:=by have:=P.get (i:=i) k4;rw[mM k4];exact this
   exact⟨λx y=>qC _ (k.sub x y),(k.way.mono λx y=>qC _ y).set i mn,(k.more.mono λx y=>qC _ y).set i (qC _ (k.sub _ Z))⟩
  ·have m:known.getD i eS=eS:=by rw[A]at u;simpa using u
   exact⟨(i+1,d,g,b),lb,⟨k7,E,by dsimp only;rw[adZ nd known V (W,M) m];exact k⟩,k7⟩
 ·have K:i=n:=k4
  subst K;exact⟨k0,d,g,b,E,by rw[<-abz nd known V (W,M) z w];exact k⟩
def nM(nd:Nat)(known:List Bool)(vals W M D:aM)(i:Nat):aM:=vals.mapIdx λc r=>if c<i/\known.getD c eS=eS then gV D (aC W c) (aC M c) nd else r
theorem abC(nd:Nat)(known:List Bool)(vals W M D:aM):nM nd known vals W M D 0=vals:=by unfold nM;refine wC k9 λi b a=>?_;simp
theorem aea(nd:Nat)(known:List Bool)(vals W M D:aM){n:Nat}(a:j9 vals=n):nM nd known vals W M D n=xW nd known vals W M D:=by
 unfold nM xW;refine wC k9 λi a b=>?_;simp at a;simp only[List.getElem_mapIdx];cases hk:known.getD i eS
 ·rw[j1 ⟨k4,k0⟩,j3 k9]
 ·rw[j3 k9,j1 rfl]
theorem aeb(nd:Nat)(known:List Bool)(vals W M D:aM){i:Nat}(e:known.getD i eS=eR):nM nd known vals W M D (i+1)=nM nd known vals W M D i:=by
 have c:∀j,(j<i+1/\known.getD j eS=eS)↔(j<i/\known.getD j eS=eS):=λj=>by
  constructor
  ·rintro⟨a,b⟩;by_cases d:j=i
   ·subst d;rw[e]at b;cases b
   ·exact⟨k4,b⟩
  ·rintro⟨a,b⟩;exact⟨k4,b⟩
 unfold nM;simp only[c]
theorem ags(nd:Nat)(known:List Bool)(vals W M D:aM){i:Nat}(d:known.getD i eS=eS):nM nd known vals W M D (i+1)=(nM nd known vals W M D i).set i (gV D (aC W i) (aC M i) nd):=by
 unfold nM;refine wC k9 λj f e=>?_;simp only[List.getElem_mapIdx,List.getElem_set];by_cases c:i=j
 ·subst c;rw[j1 ⟨k4,d⟩,j1 rfl]
 ·rw[j3 c];congr 1;simp only[eq_iff_iff];constructor<;>rintro⟨a,b⟩<;>exact⟨k4,b⟩
theorem abD(s f:hU)(p:Int×Int×Int)(v r st X U R G dead:Sl)(g z A dr:List Sl)(E:List (Sl×Row))(known:List Bool)(V W M D:aM)(n nd w:Nat)(H:aa B h0 h (Told s f p v r st X U R G z A E++HA v g::As))(hS:St B h0 As λh=>fI h f/\iC h (λb=>b<h.size) dead 1 aD D dr)(hn:n<=64)(hw:w<=2^20)(a8:nd<=64)(Z:mH E E z A W M)(hV:iu E id g V)(N:j9 V=n)(bk:j9 W=n)(bb:j9 M=n)
  (O:∀c,c<n->j9 (aC W c)=nd/\(aC M c).length=w) (bl:j9 D=nd) (K:aT w D) (hk:∀(c:Nat) (l:c<j9 g),g[c].ptr.isNone=!(known.getD c eS)):
  ab xm 222 #[xd (dB s),dead] h λv' h'=>v'=.tuple #[]/\∃L a,aa B h0 h' (Told s f p v r st X U R G z A a++HA v L::As)/\iu a id L (xW nd known V W M D):=by
 refine De (dB s) dead ?_;unfold rT;have a3:=hV.1;have a1:v.len=n:=by rw[(H.own 4 k0).len];omega
 have a6:=Z.way.1;have a5:=Z.more.1;refine⟨s,k0,v,(H.box 0 k0).cell k0,?_⟩;refine aw (λt:Nat×List Sl×List (Sl×Row)=>(t.1:Int)) (λt h'=>t.1<=n/\aa B h0 h' (Told s f p v r st X U R G z A t.2.2++HA v t.2.1::As)/\iu t.2.2 id t.2.1 (nM nd known V W M D t.1)/\(∀x∈E,x∈t.2.2)/\∀(c:Nat) (l:c<j9 t.2.1),t.1<=c->t.2.1[c].ptr.isNone=!(known.getD c eS)) (λt=>n-t.1) (0,g,E) k0 ⟨k4,H,by rw[abC];exact hV,λ_ h=>h,λc l _=>hk c l⟩ ?_;rintro⟨i,g,a⟩ h1 ⟨hi,y,T,d,o⟩;dsimp only at*;have a7:j9 (nM nd known V W M D i)=n:=by simp[nM,N]
 have a4:=T.1;refine ai (λe=>?_) (λe=>?_)
 ·have am:i<n:=k4
  have S:=y.box 0 k0;refine⟨s,k0,v,S.cell k0,?_⟩;refine(y.seq 4 k0 λ_=>rfl).md i k0 k4 ?_;have P:=o i k4 (ql _);refine bj (λI=>?_) (λI=>?_)
  ·have u:known.getD i eS=eR:=by rw[P]at I;simpa using I
   exact⟨(i+1,g,a),lb,⟨k7,y,by dsimp only;rw[aeb nd known V W M D u];exact T,d,λc l h=>o c l (by dsimp only at h;omega)⟩,k7⟩
  have u:known.getD i eS=eS:=by rw[P]at I;simpa using I
  have ap:=O i am;have a0:((A[i]'(by omega)),aC M i)∈a:=by have:=(Z.more.mono d).get (i:=i) k4;rw[mM k4];exact this
  have F:((z[i]'(by omega)),aC W i)∈a:=by have:=(Z.way.mono d).get (i:=i) k4;rw[mM k4];exact this
  refine⟨s,k0,G,S.cell k0,?_⟩;refine(y.seq 2 k0 λ_=>rfl).md i k0 k4 ?_;refine(fA _ (aC M i) h1 (y.Nj 3 k0 a0) k4).mono ?_;rintro _ h2 ⟨b,rfl,R2⟩;have Y:=y.ck R2;have a2:=Y.box 1 k0;refine⟨b,k0,s,k0,R,a2.cell k0,?_⟩;refine(Y.seq 2 k0 λ_=>rfl).md i k0 k4 ?_;have ar:=(Y.Nj 4 k0 F).len;refine aw (λj:Nat=>(j:Int)) (λj h'=>j<=nd/\aa B h0 h' (RA b (gV D (aC W i) (aC M i) j)::(Told s f p v r st X U R G z A a++HA v g::As))) (λj=>nd-j) 0 k0 ⟨k4,Y⟩ ?_;rintro j h3 ⟨hj,J⟩;refine ai (λe3=>?_) (λe3=>?_)
  ·have bd:j<nd:=k4
   have q:j<j9 (aC W i):=k4
   refine(J.Nj 4 k0 F).bC j k0 q _ k0 ?_;obtain⟨S1,S2⟩:=hS.at [_,_,_,_,_,_] J;have a9:=S2.len;refine S2.top.md j k0 k4 ?_;have ax:j9 (D[j]'(by omega))=w:=K _ (qh _);have Q:(aC W i)[j]'q=aN (aC W i) j:=by rw[aN,qe,qd q];rfl
   have ay:j9 (gV D (aC W i) (aC M i) j)=w:=mj _ ap.2 λk hk=>cy K;rw[Q];refine Ic s f (aN (aC W i) j) (dr[j]'(by omega)) b (D[j]'(by omega)) _ J (St.mk' λh' H'=>?_) (by rw[ax,ay]) k4 λh4 H4=>?_
   ·obtain⟨q1,q2⟩:=hS.at [_,_,_,_,_] H';exact⟨(H'.box 0 k0).cell0 k0,q1,q2.row _ _ _ (qd _) (qd _)⟩
   ·refine⟨j+1,ld,⟨k4,?_⟩,k4⟩;rw[gV,mM (m:=D) (i:=j) k4];exact H4
  ·have ah:j=nd:=k4
   subst ah;refine⟨s,k0,v,(J.box 1 k0).cell k0,?_⟩;refine J.set ac 5 k0 (λ_=>rfl) k0 i k0 k4 b k0 k0 k0 λh4 H4=>?_;have H5:=(H4.freeze 0 k0 λ_=>rfl).pool 4 0 k6 k0 k0;refine⟨(i+1,g.set i b,_),lb,⟨k7,H5.bc 6 [1,2,3,4,5],?_,λx hx=>qC _ (d x hx),λc l h=>?_⟩,k7⟩
   ·dsimp only;rw[ags j known V W M D u];exact(T.mono λx hx=>qC _ hx).set i k9
   ·dsimp only at l h⊢;rw[List.getElem_set_ne k4];exact o c (by simpa using l) k4
 ·have ad:i=n:=k4
  subst ad;exact⟨k0,g,a,y,by rw[<-aea nd known V W M D N];exact T⟩
end
section
variable {B:aB} {h0 h:hZ} {As:List HP}
abbrev MA(s:Sl)(m:aM):HP:=fP 34 s 1 aD m
abbrev Ul:jy Sl Row:=agN (cF 1 aD) λr _=>r.len<=r.cap
abbrev CA(s:Sl)(m:aM):HP:=ct 34 s 1 bo Ul m
theorem aa.abE{e:Nat}{s:Sl}{l:Row}(H:aa B h0 h As)(i:Nat)(c:As[i]?=dB (al e s 1 aD l)):aa B h0 h (As.set i (EA Ul s l)):=
 H.gF i c λ_ ⟨a,b⟩=>⟨a.seq (λ_=>rfl) b,a.cap⟩
theorem YM(s f:hU)(p:Int×Int×Int)(v r T I O J G:Sl)(m o:List Sl)(N:List (Sl×Row))(rr:List (Sl×Sl))(R:List fu)(ST:List (Int×Int))(D L:au)(W M:aM)(n nd w:Nat)(H:aa B h0 h (Told s f p v r T I O J G m o N++As))(hS:St B h0 As λh=>YI h f r T I O rr R ST D L)
  (hn:n=p.1.toNat+p.2.1.toNat) (hp:p.2.2=w) (hw:w<=2^20) (a0:bH p=eR) (bl:j9 D=nd) (a8:nd<=64) (hR:∀e∈R,jc n w e) (b0:∀e∈R,j9 e.1<=2^20) (hL:∀i∈L,0<=i/\i<(j9 R:Int)) (cf:j9 L<=2^20) (hT:mH N N m o W M) (cq:j9 W=n) (cn:j9 M=n)
  (E:∀c,c<n->j9 (aC W c)=nd/\(aC M c).length=w):
  ab xm 220 #[xd (dB s)] h λv' h'=>∃a b:Sl,v'=.tuple #[a,b]/\aa B h0 h' (MA a (dF n nd R W L (bw p.1.toNat p.2.1.toNat))::CA b (fG n w R M L (bw p.1.toNat p.2.1.toNat))::(Told s f p v r T I O J G m o N++As)):=by
 refine AZ (dB s) ?_;unfold pr;have hb:=H.box 0 k0;have ad:I.len=nd:=by rw[(hS.at [_,_,_,_] H).dead.len,bl]
 have b7:=(bZ p).1 a0;have b6:=hT.way.1;have b4:=hT.more.1;refine⟨s,k0,I,show hY h (s.add 7)=_ from hb.cell k0,s,k0,O,show hY h (s.add 8)=_ from hb.cell k0,?_⟩;have cc:=(hS.at [_,_,_,_] H).left.len;have ay:∀{h':hZ} {Cs:List HP},aa B h0 h' (Cs++(Told s f p v r T I O J G m o N++As))->aa B h0 h' (Told s f p v r T I O J G m o N++As):=λ{h' Cs} S=>S.take Cs.length λi A hi=>by
  rw[qj k4,Nat.add_sub_cancel_left];exact hi
 have SR:∀{h':hZ},aa B h0 h' (Told s f p v r T I O J G m o N++As)->DC h' s f J G m o W M:=λS=>DC.of (S.box 0 k0) (hS.at [_,_,_,_] S).field (S.EG 1 3 k0 k0 hT.way) (S.EG 2 3 k0 k0 hT.more);let rA:Int->Row:=λi=>cW W (aK nd) (R.getD i.toNat ([],[])).1;let rB:Int->Row:=λi=>cW M (R.getD i.toNat ([],[])).2 (R.getD i.toNat ([],[])).1;have H0:aa B h0 h (MA ⟨eH,0,0⟩ []::CA ⟨eH,0,0⟩ []::(Told s f p v r T I O J G m o N++As)):=((H.Kl 34 1 bo Ul).bu.Lt 34 1 aD).bu;refine aw (λt:Nat×Sl×Sl=>(t.2.1,t.2.2,(t.1:Int))) (λt h'=>t.1<=j9 L/\aa B h0 h' (MA t.2.1 ((L.take t.1).map rA)::CA t.2.2 ((L.take t.1).map rB)::(Told s f p v r T I O J G m o N++As))) (λt=>j9 L-t.1) (0,⟨eH,0,0⟩,⟨eH,0,0⟩) k0 ⟨k9,H0⟩ ?_;rintro⟨i,a,b⟩ h1 ⟨hi,H1⟩;dsimp only at*;refine ai (λe=>?_) (λe=>?_)
 ·have u:i<j9 L:=k4
  have G1:=hS.at [_,_,_,_,_,_] H1;refine G1.left.bC i k0 u _ k0 ?_;have hx:=hL _ (qh u);generalize bq:L[i]=x at hx⊢;have F:x.toNat<j9 R:=k4
  obtain⟨d,ar⟩:∃d,d=R[x.toNat]:=⟨_,rfl⟩
  have er:R.getD x.toNat ([],[])=d:=by rw[qe,qd F,ar];rfl
  have ap:=hR d (ar▸qh F);have b9:=b0 d (ar▸qh F);have hF:=G1.rest.2.1;have a9:x.toNat<j9 rr:=by rw[hF];exact F
  obtain⟨y,hy⟩:∃y,y=rr[x.toNat]:=⟨_,rfl⟩
  have Q:∀{h'},oa jK 2 qv h' r rr R->jK.p h' (λb=>b<h'.size) y d:=λhh=>by rw[hy,ar];exact Fix.row hh F
  refine bO (λt h'=>aa B h0 h' (RA t.1 (aK nd)::RA t.2 d.2::MA a ((L.take i).map rA)::CA b ((L.take i).map rB)::(Told s f p v r T I O J G m o N++As))) ?_ ?_
  ·have ax:=H1.box 2 k0;refine⟨s,k0,r,ax.cell k0,?_⟩;obtain⟨bb,ha,z,hc,rfl⟩:=G1.rest.1.ey (g:=qv) (i:=x) x.toNat k4 a9 y (by rw[hy]) (K:=λz=>z=y) rfl;refine⟨bb,ha,z.2,hc.2.1,?_⟩;have a6:av.ok [(s.add 5,xc r.ptr r.len r.cap)] h1:=⟨ax.cell k0,trivial⟩
   exact Uk (L:=[((bb.add (x.toNat*2)).add 1,xc z.2.ptr z.2.len z.2.cap),(s.add 5,xc r.ptr r.len r.cap)]) (L2:=[(s.add 5,xc r.ptr r.len r.cap)]) (K:=λa' b' h'=>av.ok [(s.add 5,xc r.ptr r.len r.cap)] h'/\aa B h0 h' (RA a' (aK nd)::RA b' d.2::MA a ((L.take i).map rA)::CA b ((L.take i).map rB)::(Told s f p v r T I O J G m o N++As)))
    z.2 d.2 nd _ H1 (by rw[ad]) a8 (by rw[ap.len];exact hw) ⟨hc.2.1,a6⟩ a6 (St.mk' λh' S=>(Q (hS.at [_,_,_,_,_,_] S).rest).2) λa b h' P S=>⟨lS P a6,S⟩
  rintro⟨am,more⟩ h2 H2;dsimp only at H2;have G2:=hS.at [_,_,_,_,_,_,_,_] H2;refine⟨s,k0,r,(H2.box 4 k0).cell k0,?_⟩;obtain⟨bx,ha,z,hc,rfl⟩:=G2.rest.1.ey (g:=qv) (i:=x) x.toNat k4 a9 y (by rw[hy]) (K:=λz=>z=y) rfl;refine⟨bx,ha,z.1,hc.1,?_⟩;have b1:=(Q G2.rest).1.len;refine aw (λj:Nat=>(j:Int)) (λj h'=>j<=j9 d.1/\aa B h0 h' (RA am (cW W (aK nd) (d.1.take j))::RA more (cW M d.2 (d.1.take j))::MA a ((L.take i).map rA)::CA b ((L.take i).map rB)::(Told s f p v r T I O J G m o N++As))) (λj=>j9 d.1-j) 0 k0 ⟨k4,by simpa[cW]using H2⟩ ?_;rintro j h3 ⟨hj,X⟩;have told:∀c∈d.1.take j,j9 (aC W c.toNat)=nd/\(aC M c.toNat).length=w:=λc hc=>by
   have cl:=ap.cZ c (zI hc);exact E c.toNat k4
  have Y:j9 (cW W (aK nd) (d.1.take j))=nd:=ka mn λc hc=>(told c hc).1;have V:j9 (cW M d.2 (d.1.take j))=w:=ka ap.len λc hc=>(told c hc).2;refine ai (λe2=>?_) (λe2=>?_)
  ·have Z:j<j9 d.1:=k4
   have br:=ap.cZ _ (qh Z);refine(Q (hS.at [_,_,_,_,_,_,_,_] X).rest).1.bC j k0 Z _ k0 ?_;have tc:=E d.1[j].toNat k4;refine(Ie s f 1 d.1[j] am more J G _ _ m o W M X (St.mk' λh' S=>SR (ay (Cs:=[_,_]) S)) br.1 k4 k4 (by rw[tc.1,Y]) (by rw[tc.2,V]) k4 k4).mono ?_;rintro _ h4 ⟨rfl,U⟩;exact⟨(),k0,j+1,ld,⟨k4,by rw[aH _ _ Z,tZ,tZ];exact U⟩,k4⟩
  ·have a4:j=j9 d.1:=k4
   subst a4;rw[qS]at X;have U:=aa.abE (X.freeze 0 k0 λ_=>rfl) 1 k0;refine U.xw ac 2 0 k6 k0 k0 fH k8 λa' h5 H5=>?_;refine H5.uN ac 3 1 k6 k0 k0 fH k0 k6 (λ_=>rfl) jx k0 k6 k8 λb' h6 H6=>?_;refine⟨(i+1,a',b'),lb,⟨k7,?_⟩,k7⟩;dsimp only;rw[aH _ _ u,qW,qW,bq];have e3:[x].map rA=[cW W (aK nd) d.1]:=by simp only[yj,vC,rA,er]
   have e4:[x].map rB=[cW M d.2 d.1]:=by simp only[yj,vC,rB,er]
   rw[e3,e4];exact H6.bc 8 [2,3,4,5,6,7]
 have a1:i=j9 L:=k4
 subst a1;rw[qS]at H1;have ax:=H1.box 2 k0;refine⟨s,k0,p,ax.cells 1 _ k0,(ut p h1).mono ?_⟩;rintro _ h2 ⟨q,rfl,R2⟩;rw[a0,j1 rfl]at R2;obtain⟨l,a5⟩:∃l,l=bw p.1.toNat p.2.1.toNat:=⟨_,rfl⟩
 have b5:j9 l=p.2.1.toNat:=by rw[a5];simp[bw]
 have bk:∀x∈l,j9 x=n:=λx hx=>by rw[hn];exact LH _ _ x (a5▸hx)
 rw[<-a5]at R2⊢;have H2:=(H1.ck R2).Ro 0 k0;obtain⟨qr,H2⟩:=H2.RP 0 rfl λ_=>rfl;have cd:=(H2.gy 0 k0).1.len;have cp:=(H2.gy 0 k0).2.1;refine⟨q,k0,?_⟩;let a3:Row->Row:=λx=>gV W x (aK nd) n;let a7:Row->Row:=λx=>gV M x (aK w) n;refine aw (λt:Nat×Sl×Sl=>(t.2.1,t.2.2,(t.1:Int))) (λt h'=>t.1<=j9 l/\aa B h0 h' (dg (cF 1 aD) 1 bo q qr l::MA t.2.1 (L.map rA++(l.take t.1).map a3)::CA t.2.2 (L.map rB++(l.take t.1).map a7)::(Told s f p v r T I O J G m o N++As))) (λt=>j9 l-t.1) (0,a,b) k0 ⟨k9,by simpa using H2⟩ ?_;rintro⟨i,a,b⟩ h3 ⟨hi,X⟩;dsimp only at*;refine ai (λe=>?_) (λe=>?_)
 ·have u:i<j9 l:=k4
  have b2:=bk _ (qh u);have F3:=X.gy 0 k0;refine F3.1.md i k0 k4 ?_;have b1:(qr[i]'(by omega)).len=n:=by rw[(Fix.row F3 u).len,b2]
  refine bO (λt h'=>aa B h0 h' (RA t.1 (aK nd)::RA t.2 (aK w)::dg (cF 1 aD) 1 bo q qr l::MA a (L.map rA++(l.take i).map a3)::CA b (L.map rB++(l.take i).map a7)::(Told s f p v r T I O J G m o N++As))) ?_ ?_
  ·have b3:=X.box 3 k0;refine⟨s,k0,p.2.2,show hY h3 (s.add 3)=_ from b3.cell k0,?_,?_⟩
   ·refine X.make ac aD gM k6 0 k0 k0 nd nd (by rw[ad]) (by rw[ad]) (ql _) k4 λx h4 _ _ U=>?_;have U:=U.bu;refine⟨⟨show hY h4 (s.add 3)=_ from(U.box 4 k0).cell k0,trivial⟩,?_⟩;refine U.make ac aD gM k6 0 k0 k0 w w hp hp (ql _) k4 λy h5 _ _ H5=>⟨trivial,H5.bu.nZ⟩
   ·refine X.make ac aD gM k6 0 k0 k0 w w hp hp (ql _) k4 λy h4 _ _ U=>⟨trivial,?_⟩
    refine U.bu.make ac aD gM k6 0 k0 k0 nd nd (by rw[ad]) (by rw[ad]) (ql _) k4 λx h5 _ _ H5=>⟨trivial,H5.bu⟩
  rintro⟨am,more⟩ h4 U;dsimp only at U⊢;refine aw (λj:Nat=>(j:Int)) (λj h'=>j<=n/\aa B h0 h' (RA am (gV W l[i] (aK nd) j)::RA more (gV M l[i] (aK w) j)::dg (cF 1 aD) 1 bo q qr l::MA a (L.map rA++(l.take i).map a3)::CA b (L.map rB++(l.take i).map a7)::(Told s f p v r T I O J G m o N++As))) (λj=>n-j) 0 k0 ⟨k4,U⟩ ?_;rintro j h5 ⟨hj,H5⟩;have Y:j9 (gV W l[i] (aK nd) j)=nd:=mj _ mn λk hk=>(E k k4).1;have V:j9 (gV M l[i] (aK w) j)=w:=mj _ mn λk hk=>(E k k4).2;refine ai (λe2=>?_) (λe2=>?_)
  ·have Z:j<n:=k4
   have a2:j<l[i].length:=k4
   refine(Fix.row (H5.gy 2 k0) u).bC j k0 a2 _ k0 ?_;have bd:l[i][j]'a2=aN l[i] j:=by rw[aN,qe,qd a2];rfl
   rw[bd];have tc:=E j Z;refine(Ie s f (aN l[i] j) (j:Int) am more J G _ _ m o W M H5 (St.mk' λh' S=>SR (ay (Cs:=[_,_,_]) S)) k4 k4 k4 (by rw[qn,tc.1,Y]) (by rw[qn,tc.2,V]) k4 k4).mono ?_;rintro _ h6 ⟨rfl,H6⟩;rw[qn]at H6;exact⟨(),k0,j+1,ld,⟨k4,H6⟩,k4⟩
  ·have a4:j=n:=k4
   subst a4;have H6:=aa.abE (H5.freeze 0 k0 λ_=>rfl) 1 k0;refine H6.xw ac 3 0 k6 k0 k0 fH k8 λa' h7 H7=>?_;refine H7.uN ac 4 1 k6 k0 k0 fH k0 k6 (λ_=>rfl) jx k0 k6 k8 λb' h8 H8=>?_;refine⟨(i+1,a',b'),lb,⟨k7,?_⟩,k7⟩;dsimp only;rw[aH _ _ u,qW,qW,<-qt,<-qt];exact H8.bc 9 [2,3,4,5,6,7,8]
 ·have a1:i=j9 l:=k4
  subst a1;rw[qS]at X;exact⟨a,b,k0,X.rest⟩
end
section
variable {B:aB} {h0 h:hZ} {As:List HP}
theorem Ig{α:Type}{g:α->Bool}{l:List α}{i:Nat}(h:i<j9 l)(a:∀j (b:j<j9 l),j<i->g l[j]=eS)(c:g l[i]=eR):l.findIdx g=i:=by rw[List.findIdx_eq h];exact⟨c,λj b=>a j k4 b⟩
theorem VN(s:Sl)(l:au)(b:FuncId)(a:Array Value)(g:Int->Bool)(Q:hZ->Prop)(u:C.fns[b]?=dB eR)(z:St B h0 As Q)(q:∀x h',Q h'->ab xm b ([Value.int .i64 x]++a.toList).toArray h' λv r=>v=xg (g x)/\Sp h' r [])(H:aa B h0 h (al 3 s 1 aq l::As))(D:j9 l<=2^20):
  ab xm 189 #[s,.func (.func b) #[] a] h λv h'=>v=xb xi (if l.findIdx g<j9 l then(l.findIdx g:Int)else-1)/\aa B h0 h' (al 3 s 1 aq l::As):=by
 refine iQ s (b,#[],a) ?_;unfold gz;have y:=(H.own 0 k0).len;refine aw (λi:Nat=>(i:Int)) (λi h'=>aa B h0 h' (al 3 s 1 aq l::As)/\i<=j9 l/\∀j (f:j<j9 l),j<i->g l[j]=eS) (λi=>j9 l-i) 0 k0 ⟨H,k4,λj _ f=>k4⟩ ?_;rintro i A ⟨m,F,d⟩;refine ai (λe=>?_) (λe=>?_)
 ·have c:i<j9 l:=k4
  refine(m.seq 0 k0 λ_=>rfl).bC i k0 c _ k0 ?_;refine fq u ?_;refine(q l[i] A (z.at [_] m)).mono ?_;rintro _ E ⟨rfl,t⟩;refine⟨_,k0,bQ (λp=>?_) λp=>?_⟩
  ·rw[Ig c d p,j1 c];exact⟨k0,m.up t.aj⟩
  ·refine⟨i+1,ld,⟨m.up t.aj,k4,λj f o=>?_⟩,k4⟩;rcases zu.1 o with h3|rfl
   ·exact d j f h3
   ·exact p
 ·have n:¬l.findIdx g<j9 l:=by rw[wD];rintro⟨x,w,k⟩;obtain⟨j,f,rfl⟩:=qK w;rw[d j f k4]at k;cases k
  rw[j3 n];exact⟨k0,m⟩
theorem YN{α:Type}{g:α->Bool}{l:List α}{j:Nat}(h:j<l.findIdx g)(a:j<j9 l):g l[j]=eS:=by simpa using List.not_of_lt_findIdx h
structure mU {α:Type} (g:α->Bool) (l l':List α) (i j:Nat):Prop where
 len:j9 l'=j9 l
 le:i<=j
 pre:l'.take i=(l.take j).filter λx=>!g x
 post:l'.drop j=l.drop j
theorem mU.start{α:Type}{g:α->Bool}{l:List α}{i:Nat}(h:i<j9 l)(b:l.findIdx g=i):mU g l l i (i+1):=by
 refine⟨k0,k4,?_,k0⟩;have a:g l[i]=eR:=by have:=List.findIdx_getElem (xs:=l) (p:=g) (w:=by rw[b];exact h);simpa[b]using this
 rw[aH _ _ h,zl,zp,a];have:(l.take i).filter (λx=>!g x)=l.take i:=zW.2 λx c=>by
  obtain⟨j,d,rfl⟩:=qK c;simp only[qZ]at d;rw[yc,YN (g:=g) (l:=l) (j:=j) k4 k4];rfl
 rw[this];simp
theorem mU.at_{α:Type}{g:α->Bool}{l l':List α}{i j:Nat}(x:mU g l l' i j)(a:j<j9 l):l'[j]'(by rw[x.len];exact a)=l[j]:=by have h:=congrArg (λm=>m[0]?) x.post;simp only[wz,Nat.add_zero]at h;rw[qd a,qd (by rw[x.len];exact a)]at h;exact zS.inj h
theorem mU.keep{α:Type}{g:α->Bool}{l l':List α}{i j:Nat}(x:mU g l l' i j)(b:j<j9 l)(e:g l[j]=eS):mU g l (l'.set i l[j]) (i+1) (j+1):=by
 have c:=x.len;have a:=x.le;refine⟨oj,k4,?_,?_⟩
 ·rw[aH _ _ k8,y9,List.take_set_of_le (ql _),x.pre,aH _ _ b,zl,zp,e];rfl
 ·rw[List.drop_set_of_lt k4];have d:=congrArg (xa 1) x.post;simpa[zL]using d
theorem mU.skip{α:Type}{g:α->Bool}{l l':List α}{i j:Nat}(x:mU g l l' i j)(b:j<j9 l)(e:g l[j]=eR):mU g l l' i (j+1):=by
 have c:=x.len;have a:=x.le;refine⟨c,k4,?_,?_⟩
 ·rw[x.pre,aH _ _ b,zl,zp,e];simp
 ·have d:=congrArg (xa 1) x.post;simpa[zL]using d
theorem filter_all{α:Type}{g:α->Bool}{l:List α}(h:¬l.findIdx g<j9 l):l.filter (λx=>!g x)=l:=zW.2 λx a=>by
 have:g x=eS:=by
  cases hh:g x with
  |false=>rfl
  |true=>exact absurd (wD.2 ⟨x,a,hh⟩) h
 rw[this];rfl
theorem Um(s:Sl)(l:au)(b:FuncId)(a:Array Value)(g:Int->Bool)(Q:hZ->Prop)(w:C.fns[b]?=dB eR)(z:St B h0 As Q)(f:∀x h',Q h'->ab xm b ([Value.int .i64 x]++a.toList).toArray h' λv q=>v=xg (g x)/\Sp h' q [])(H:aa B h0 h (al 3 s 1 aq l::As))(D:j9 l<=2^20):
  ab xm 270 #[s,.func (.func b) #[] a] h λv h'=>∃r:Sl,v=r/\aa B h0 h' (al 3 r 1 aq (l.filter λx=>!g x)::As):=by
 refine rI s (b,#[],a) ?_;unfold lX;refine(VN s l b a g Q w z f H D).mono ?_;rintro _ N ⟨rfl,y⟩;have I:=(H.own 0 k0).len;have E:=(H.own 0 k0).cap;refine⟨_,k0,dD (λe=>?_) λe=>?_⟩
 ·have u:¬l.findIdx g<j9 l:=λm=>by rw[j1 m]at e;omega
  exact⟨s,k0,by rw[filter_all u];exact y⟩
 ·have c:l.findIdx g<j9 l:=by
   by_cases m:l.findIdx g<j9 l
   ·exact m
   ·rw[j3 m]at e;exact absurd k0 e
  rw[j1 c];refine aw (λt:Nat×Nat×au=>((t.1:Int),(t.2.1:Int))) (λt h'=>mU g l t.2.2 t.1 t.2.1/\t.2.1<=j9 l/\aa B h0 h' (al 3 s 1 aq t.2.2::As)) (λt=>j9 l-t.2.1) (l.findIdx g,l.findIdx g+1,l) ld ⟨mU.start c k0,k7,y⟩ ?_;rintro⟨i,j,l'⟩ F ⟨M2,M,k⟩;dsimp only at*;have J:=M2.len;have K:=M2.le;refine ai (λA=>?_) (λA=>?_)
  ·have d:j<j9 l:=k4
   refine(k.seq 0 k0 λ_=>rfl).bC j k0 k4 _ k0 ?_;rw[M2.at_ d];refine fq w ?_;refine(f l[j] F (z.at [_] k)).mono ?_;rintro _ h3 ⟨rfl,G⟩;have n:=k.up G.aj;refine⟨_,k0,bj (λp=>?_) λp=>?_⟩
   ·refine n.set ac 0 k0 (λ_=>rfl) k0 i k0 k4 l[j] k0 k0 k0 λO L=>?_;exact⟨(i+1,j+1,l'.set i l[j]),by dsimp only;rw[ag _,ag _];rfl,⟨M2.keep d n9,k7,L⟩,k7⟩
   ·exact⟨(i,j+1,l'),lb,⟨M2.skip d n9,k7,n⟩,k7⟩
  ·have o:j=j9 l:=k4
   subst o;refine⟨⟨k4,k4⟩,?_⟩;rw[qn];refine k.te ac 0 k0 fN (λ_=>rfl) k0 k6 i k4 λh3 n=>⟨⟨k4,k4⟩,⟨s.ptr,i,s.cap⟩,k0,?_⟩
   have:=M2.pre;rw[qS]at this;rw[<-this];exact n
end
section
variable {B:aB} {h0 h:hZ} {As:List HP}
abbrev ahT:ce C.toCG 277 332 2 [xb xi 0,xb xi 0] 16:=⟨_,_,k0,k0,k0,k0,k0,k0⟩
theorem VO(s:Sl)(l:List (Int×Int))(b:FuncId)(a:Array Value)(g:Int×Int->Bool)(Q:hZ->Prop)(u:C.fns[b]?=dB eR)(z:St B h0 As Q)(q:∀x h',Q h'->ab xm b ([Value.agg #[xb xi x.1,xb xi x.2]]++a.toList).toArray h' λv r=>v=xg (g x)/\Sp h' r [])(H:aa B h0 h (al 332 s 2 fM l::As))(D:j9 l<=2^20):
  ab xm 311 #[s,.func (.func b) #[] a] h λv h'=>v=xb xi (if l.findIdx g<j9 l then(l.findIdx g:Int)else-1)/\aa B h0 h' (al 332 s 2 fM l::As):=by
 refine mN s (b,#[],a) ?_;unfold jd;have y:=(H.own 0 k0).len;refine aw (λi:Nat=>(i:Int)) (λi h'=>aa B h0 h' (al 332 s 2 fM l::As)/\i<=j9 l/\∀j (f:j<j9 l),j<i->g l[j]=eS) (λi=>j9 l-i) 0 k0 ⟨H,k4,λj _ f=>k4⟩ ?_;rintro i A ⟨m,F,d⟩;refine ai (λe=>?_) (λe=>?_)
 ·have c:i<j9 l:=k4
  refine(m.seq 0 k0 λ_=>rfl).ey (g:=fM) i k0 c l[i] k0 ?_;refine fq u ?_;refine(q l[i] A (z.at [_] m)).mono ?_;rintro _ E ⟨rfl,t⟩;refine⟨_,k0,bQ (λp=>?_) λp=>?_⟩
  ·rw[Ig c d p,j1 c];exact⟨k0,m.up t.aj⟩
  ·refine⟨i+1,ld,⟨m.up t.aj,k4,λj f o=>?_⟩,k4⟩;rcases zu.1 o with h3|rfl
   ·exact d j f h3
   ·exact p
 ·have n:¬l.findIdx g<j9 l:=by rw[wD];rintro⟨x,w,k⟩;obtain⟨j,f,rfl⟩:=qK w;rw[d j f k4]at k;cases k
  rw[j3 n];exact⟨k0,m⟩
theorem Un(s:Sl)(l:List (Int×Int))(b:FuncId)(a:Array Value)(g:Int×Int->Bool)(Q:hZ->Prop)(y:C.fns[b]?=dB eR)(D:St B h0 As Q)(k:∀x h',Q h'->ab xm b ([Value.agg #[xb xi x.1,xb xi x.2]]++a.toList).toArray h' λv u=>v=xg (g x)/\Sp h' u [])(H:aa B h0 h (al 332 s 2 fM l::As))(G:j9 l<=2^20):
  ab xm 268 #[s,.func (.func b) #[] a] h λv h'=>∃r:Sl,v=r/\aa B h0 h' (al 332 r 2 fM (l.filter λx=>!g x)::As):=by
 refine mE s (b,#[],a) ?_;unfold iV;refine(VO s l b a g Q y D k H G).mono ?_;rintro _ P ⟨rfl,A⟩;have K:=(H.own 0 k0).len;have I:=(H.own 0 k0).cap;refine⟨_,k0,dD (λe=>?_) λe=>?_⟩
 ·have w:¬l.findIdx g<j9 l:=λn=>by rw[j1 n]at e;omega
  exact⟨s,k0,by rw[filter_all w];exact A⟩
 ·have c:l.findIdx g<j9 l:=by
   by_cases n:l.findIdx g<j9 l
   ·exact n
   ·rw[j3 n]at e;exact absurd k0 e
  rw[j1 c];refine aw (λt:Nat×Nat×List (Int×Int)=>((t.1:Int),(t.2.1:Int))) (λt h'=>mU g l t.2.2 t.1 t.2.1/\t.2.1<=j9 l/\aa B h0 h' (al 332 s 2 fM t.2.2::As)) (λt=>j9 l-t.2.1) (l.findIdx g,l.findIdx g+1,l) ld ⟨mU.start c k0,k7,A⟩ ?_;rintro⟨i,j,l'⟩ O ⟨M2,N,o⟩;dsimp only at*;have L:=M2.len;have M:=M2.le;refine ai (λF=>?_) (λF=>?_)
  ·have f:j<j9 l:=k4
   refine(o.seq 0 k0 λ_=>rfl).ey (g:=fM) j k0 k4 l[j] (by rw[M2.at_ f]) ?_;refine o.alloc ac k0 λa5 h3 d=>?_;have d:=d.bu;refine d.storeAll ac 0 k0 k0 (fM l[j]) k0 k0 k0 k0 λE m=>?_;refine⟨l[j],(m.box 0 k0).aS _ k0,?_⟩;refine fq y ?_;refine(k l[j] E (D.at [_,_] m)).mono ?_;rintro _ R ⟨rfl,J⟩;have z:=m.up J.aj;have d:=z.oC;refine⟨_,k0,bj (λq=>?_) λq=>?_⟩
   ·refine⟨l[j],(z.box 0 k0).aS _ k0,?_⟩;refine d.set ac 0 k0 (λ_=>rfl) k0 i k0 k4 l[j] k0 k0 k0 λE m=>?_;exact⟨(i+1,j+1,l'.set i l[j]),by dsimp only;rw[ag _,ag _];rfl,⟨M2.keep f x0,k7,m⟩,k7⟩
   ·exact⟨(i,j+1,l'),lb,⟨M2.skip f x0,k7,d⟩,k7⟩
  ·have p:j=j9 l:=k4
   subst p;refine⟨⟨k4,k4⟩,?_⟩;rw[qn];refine o.te ac 0 k0 ahT (λ_=>rfl) k0 k6 i k4 λh3 d=>⟨⟨k4,k4⟩,⟨s.ptr,i,s.cap⟩,k0,?_⟩
   have:=M2.pre;rw[qS]at this;rw[<-this];exact d
end
section
variable {B:aB} {h0 h:hZ} {As:List HP}
def xo(pool:List (Sl×au)):HP:=⟨λh q=>∀x∈pool,Seq h q x.1 1 aq x.2,λa d x b=>(a x b).aj d,λa c x b=>(a x b).mono c⟩
theorem aa.abF(H:aa B h0 h As):aa B h0 h (As++[xo []]):=H.comp (.one (aX.refl _ _) λx a=>by cases a)
theorem aa.afr(H:aa B h0 h As)(i j:Nat)(b:i≠j){pool:List (Sl×au)}{r:Sl}{l:au}(e:As[i]?=dB (xo pool))(f:As[j]?=dB (uh r 1 aq l)):aa B h0 h ((As.set i (xo (pool++[(r,l)]))).set j emp):=
 H.merge i j b e f λk g _ d c x a=>by
  rcases qA.1 a with a|a
  ·exact(d x a).mono λ_ h=>.inl h
  ·rw[qB]at a;subst a;exact Seq.mono c λ_ h=>.inr h
abbrev ahU:ce C.toCG 51 22 1 [xc eH 0 0] 24:=⟨_,_,k0,k0,k0,k0,k0,k0⟩
theorem VP(s c:hU)(r:Sl)(x:Int×Int)(h':hZ)(e:hY h' c=dB (xd (dB s))/\hY h' (s.add 5)=dB (xc r.ptr r.len r.cap)):
  ab xm 269 ([Value.agg #[xb xi x.1,xb xi x.2]]++(#[Value.pointer (dB c)]:Array Value).toList).toArray h' λv d=>v=xg (decide (x.1>=(r.len:Int)))/\Sp h' d []:=by
 refine uZ x c ?_;unfold nQ;refine(Sp.refl h').boxed λa f b=>?_;exact⟨x.1,(b.box 0 k0).cell0 k0,dB s,py e.1 b.aj,s,k0,r,py e.2 b.aj,k0,.zip b.aj⟩
theorem VQ(s a:hU)(r:Sl)(x:Int)(h':hZ)(c:hY h' a=dB (xd (dB s))/\hY h' (s.add 5)=dB (xc r.ptr r.len r.cap)):
  ab xm 271 ([Value.int .i64 x]++(#[Value.pointer (dB a)]:Array Value).toList).toArray h' λv b=>v=xg (decide (x>=(r.len:Int)))/\Sp h' b []:=by
 refine vA x a ?_;unfold nR;exact⟨dB s,c.1,s,k0,r,c.2,k0,Sp.refl _⟩
theorem VR(s f:hU)(p:Int×Int×Int)(v r j d m L G kn:Sl)(z:List (Sl×Sl))(R:List fu)(known:List Bool)(n:Nat)(H:aa B h0 h (SA s (gA f p v r j d m L G)::As))(hS:St B h0 As λh=>oa jK 2 qv h r z R/\Rd h kn 1 fi known)(a3:j9 known=n)(hn:n<=64)(a7:j9 R<=2^19)(ax:∀e∈R,j9 e.1<=2^20)
  (D:jT (n:Int) (rowsOf R known n)=eR) (X:(dN n (rowsOf R known n)).steps.length<=2^20/\(fF (dN n (rowsOf R known n)).used (rowsOf R known n).length).length<=2^20):
  ab xm 217 #[xd (dB s),kn] h λv' h'=>v'=.tuple #[]/\∃K A I:Sl,aa B h0 h' (SA s (gA f p v r K A I L G)::al 332 K 2 fM ((dN n (rowsOf R known n)).steps.filter λx=>decide (x.1<j9 R))::al 3 A 1 aq (dN n (rowsOf R known n)).dead::al 3 I 1 aq ((fF (dN n (rowsOf R known n)).used (rowsOf R known n).length).filter λx=>decide (x<j9 R))::As):=by
 refine AX (dB s) kn ?_;unfold po;refine H.boxed λq J T=>?_;have T:=T.bu;refine⟨dB s,(T.box 0 k0).cell0 k0,s,k0,r,(T.box 1 k0).cell k0,?_⟩;have G1:=hS.at [_,_] T;have ap:=G1.1.1.len;have N:=G1.1.2.1;have ad:=G1.2.len;let pre:List HP:=[ao q 276 [xd (dB s)],SA s (gA f p v r j d m L G)]
 have H2:aa B h0 J (al 22 ⟨eH,0,0⟩ 1 bo []::xo []::ao q 276 [xd (dB s)]::SA s (gA f p v r j d m L G)::As):=((aa.abF T).bu.nil 22 1 bo).bu;refine aw (λt:Nat×Sl=>(t.2,(t.1:Int))) (λt h'=>t.1<=j9 R/\aa B h0 h' (al 22 t.2 1 bo ((z.take t.1).map qM)::xo []::ao q 276 [xd (dB s)]::SA s (gA f p v r j d m L G)::As)) (λt=>j9 R-t.1) (0,⟨eH,0,0⟩) k0 ⟨k9,by simpa using H2⟩ ?_;rintro⟨i,o⟩ h3 ⟨hi,H3⟩;dsimp only at*;refine ai (λe=>?_) (λe=>?_)
 ·have ay:i<j9 R:=k4
  have G3:=hS.at [_,_,_,_] H3;refine G3.1.1.ey (g:=qv) i k0 k4 (z[i]'(by omega)) k0 ?_;refine H3.alloc ac k0 λa8 h4 w=>?_;have w:=w.bu;refine w.storeAll ac 0 k0 k0 (qv (z[i]'(by omega))) k0 k0 k0 k0 λh5 F=>?_;refine⟨(z[i]'(by omega)).1,(F.box 0 k0).cell0 k0,?_⟩;refine F.oC.push ac 0 k0 ahU k0 k6 (λ_=>rfl) jx (z[i]'(by omega)).1 k0 k6 k8 λo' h6 V=>?_;refine⟨(i+1,o'),lb,⟨k7,?_⟩,k7⟩;dsimp only;rw[aH z i,qW];exact V
 have M:i=j9 R:=k4
 subst M;rw[qi k4]at H3;refine aw (λt:Nat×Sl×List Sl=>(t.2.1,(t.1:Int))) (λt h'=>t.1<=n/\t.2.2.length=j9 (iz known t.1)/\aa B h0 h' (al 22 t.2.1 1 bo (z.map qM++t.2.2)::xo (t.2.2.zip (iz known t.1))::ao q 276 [xd (dB s)]::SA s (gA f p v r j d m L G)::As)) (λt=>n-t.1) (0,o,[]) k0 ⟨k4,k0,by simpa using H3⟩ ?_;rintro⟨i,o,sr⟩ h4 ⟨hi,E,w⟩;dsimp only at*;have bd:=EW known i;refine ai (λe=>?_) (λe=>?_)
 ·have ay:i<n:=k4
  have G4:=hS.at [_,_,_,_] w;refine G4.2.bC i k0 k4 _ k0 ?_;have a2:known.getD i eS=known[i]'(by omega):=by rw[qe,qd k4];rfl
  have Q:=Oa known i;rw[a2]at Q;refine bQ (λZ=>?_) (λZ=>?_)
  ·rw[Z,j1 rfl]at Q;refine w.lit ac aq fN k0 [(i:Int)] k0 (show 1*1<=2^20 by decide) k0 λb h5 F=>?_;have F:=F.bu.freeze 0 k0 λ_=>rfl;have V:=aa.afr F 2 0 k6 k0 k0;refine V.push ac 1 k0 ahU k0 k6 (λ_=>rfl) jx b k0 k6 k8 λo' h7 Y=>?_;refine⟨(i+1,o',sr++[b]),lb,⟨k7,by dsimp only;rw[Q];simp[E],?_⟩,k7⟩;dsimp only;rw[Q,List.zip_append E,<-qt];exact Y.oC
  ·rw[Z,j3 k9,qL]at Q;exact⟨(i+1,o,sr),lb,⟨k7,by dsimp only;rw[Q];exact E,by dsimp only;rw[Q];exact w⟩,k7⟩
 have M:i=n:=k4
 subst M;have G4:=hS.at [_,_,_,_] w;have P:j9 (rowsOf R known i)=j9 R+j9 sr:=by rw[rowsOf,qy,qw,E]
 have W:iC h4 (λb=>b<h4.size) o 1 aq (rowsOf R known i) (z.map qM++sr):=by
  refine⟨w.seq 0 k0 λ_=>rfl,by rw[P];simp;omega,λk a l J S=>?_⟩;by_cases hk:k<j9 R
  ·rw[qp k8,qR,qd k4]at J;rw[rowsOf,qp k8,qR,qd hk]at S;simp only[Option.map_some,zS.injEq]at J S;subst J;subst S;exact(Fix.row G4.1 hk).1
  ·rw[qj k8]at J;rw[rowsOf,qj k8]at S;simp only[qw,N]at J S;have hm:(a,l)∈sr.zip (iz known i):=by refine yE.2 ⟨k-j9 R,?_⟩;rw[List.getElem?_zip_eq_some];exact⟨J,S⟩
   exact(w.at 1 k0) _ hm
 rw[ad,a3];refine(abx (i:Int) o (rowsOf R known i) _ h4 W k4 ?_).mono ?_
 ·intro x U;rcases qA.1 U with U|U
  ·obtain⟨e,he,rfl⟩:=qo.1 U;have:=ax e he;omega
  ·obtain⟨c,hc,rfl⟩:=qo.1 U;simp
 rintro _ h5 ⟨K,A,I,rfl,R5⟩;have ar:EH (i:Int) (rowsOf R known i)=((dN i (rowsOf R known i)).steps,(dN i (rowsOf R known i)).dead,fF (dN i (rowsOf R known i)).used (rowsOf R known i).length):=by unfold EH;rw[j1 D,qn]
 rw[ar]at R5;dsimp only at R5;have F:=((w.oC).oC).comp R5;refine⟨((K,A,I),_),k0,?_⟩;have V:aa B h0 h5 (al 332 K 2 fM (dN i (rowsOf R known i)).steps::al 3 A 1 aq (dN i (rowsOf R known i)).dead::al 3 I 1 aq (fF (dN i (rowsOf R known i)).used (rowsOf R known i).length)::ao q 276 [xd (dB s)]::SA s (gA f p v r j d m L G)::As):=aa.front (As:=ao q 276 [xd (dB s)]::SA s (gA f p v r j d m L G)::As) (Bs:=[_,_,_]) F;refine V.alloc ac k0 λa6 h7 Y=>?_;have Y:=Y.bu;refine Y.storeAll ac 0 k0 k0 [K,A,I] k0 k0 k0 k0 λh8 H8=>?_;refine⟨K,(H8.box 0 k0).cell0 k0,?_⟩;refine(Un K _ 269 #[xd (dB q)] (λx=>decide (x.1>=(r.len:Int))) (λh'=>hY h' q=dB (xd (dB s))/\hY h' (s.add 5)=dB (xc r.ptr r.len r.cap)) k0 (St.mk' λh' H'=>⟨(H'.box 3 k0).cell0 k0,(H'.box 4 k0).cell k0⟩) (λx h' hq=>VP s q r x h' hq) H8.nZ X.1).mono ?_;rintro _ h9 ⟨u,rfl,H9⟩;refine⟨u,k0,?_⟩;refine H9.lC ac 1 k0 k0 [u] k0 k0 k0 k9 λa9 ah=>?_;refine⟨I,(ah.box 1 k0).cell k0,?_⟩;have a4:=ah.bc 6 [3,0,1,2,4,5];refine(Um I _ 271 #[xd (dB q)] (λx=>decide (x>=(r.len:Int))) (λh'=>hY h' q=dB (xd (dB s))/\hY h' (s.add 5)=dB (xc r.ptr r.len r.cap)) k0 (St.mk' λh' H'=>⟨(H'.box 3 k0).cell0 k0,(H'.box 4 k0).cell k0⟩) (λx h' hq=>VQ s q r x h' hq) a4 X.2).mono ?_;rintro _ bk ⟨y,rfl,a0⟩;refine⟨y,k0,?_⟩;refine a0.store ac 2 k0 k0 2 [y] k0 k0 k0 k9 λa5 O=>?_;refine⟨dB s,(O.box 4 k0).cell0 k0,(u,A,y),(O.box 2 k0).aS _ k0,s,k0,?_⟩;refine O.store ac 5 k0 k0 6 [u,A,y] k0 k0 k0 pa λbb am=>⟨k0,u,A,y,?_⟩
 have e1:(λx:Int×Int=>!decide (x.1>=(r.len:Int)))=λx=>decide (x.1<(j9 R:Int)):=by
  funext x;rw[ap,N];by_cases h:x.1<(j9 R:Int)
  ·rw[j6 h,j7 k4];rfl
  ·rw[j7 h,j6 k4];rfl
 have Z:(λx:Int=>!decide (x>=(r.len:Int)))=λx=>decide (x<(j9 R:Int)):=by
  funext x;rw[ap,N];by_cases h:x<(j9 R:Int)
  ·rw[j6 h,j7 k4];rfl
  ·rw[j7 h,j6 k4];rfl
 rw[e1,Z]at am;exact am.bc 6 [5,1,3,0]
end
theorem Qf{l:Row}:¬fl l<j9 l↔l=aK l.length:=by
 rw[fl,wD];constructor
 ·intro h;refine vF.2 ⟨k0,λx b=>?_⟩;by_cases a:x=0
  ·exact a
  ·exact absurd ⟨x,b,l7⟩ h
 ·rintro h ⟨x,b,a⟩;have:=(vF.1 h).2 x b;subst this;simp at a
theorem VS(f:hU)(a b:Sl)(A B:aM)(m n w:Nat)(h:hZ)(hf:fI h f)(ha:fZ h a 1 aD A)(hb:fZ h b 1 aD B)(hl:j9 A=m)(bk:j9 B=m)(q:aT n A)(hB:aT w B)(a9:1<=n)(hn:n+w<=64)(hm:m<=2^20)(hr:ca A=n):
  ab xm 175 #[xd (dB f),a,b] h λv h'=>(ly n A B/\∃r:Sl,v=.tuple #[r,xb xi 0]/\Sp h h' [fP 34 r 1 aD (gc n A B)])∨(¬ly n A B/\v=.tuple #[xc eH 0 0,xb xi 10]/\Sp h h' []):=by
 have b0:n<=m:=by have:=pM A q;omega
 have d:j9 B=j9 A:=k4
 have a2:=ha.len;have S:=hb.len;refine Fq (dB f) a b ?_;unfold Cl;refine bi ?_;refine(nr a A n h ha q).mono ?_;rintro v Q ⟨rfl,rfl⟩;refine⟨_,k0,bj (λe=>ln) λ_=>?_⟩;refine(nr b B w Q hb hB).mono ?_;rintro v O ⟨rfl,rfl⟩;refine⟨_,k0,bj (λe=>ln) λ_=>?_⟩;refine bR (λe=>absurd (by rw[a2,S,d]) e) λ_=>?_;refine dD (λe=>k4) λ_=>?_;refine(sA a A O ha).mono ?_;rintro v h3 ⟨rfl,rfl⟩;have a5:eU A=n:=by
  cases A with
  |nil=>simp at hl;omega
  |cons x t=>rw[eU,bv k9];exact q _ k9
 refine⟨_,k0,?_⟩;rw[a5];refine(Ar a A n h3 ha q).mono ?_;rintro v h4 ⟨r,rs,rfl,bq,R4⟩;refine⟨r,k0,?_⟩;have a8:=(R4.own 0 k0).len;refine aw (λt:Nat×List Sl=>(t.1:Int)) (λt h'=>t.1<=m/\t.2.length=m/\Sp h3 h' (nU r t.2 (pz A B t.1))) (λt=>m-t.1) (0,rs) k0 ⟨k9,k7,by simpa[pz,fe]using R4⟩ ?_;rintro⟨k,rs⟩ h5 ⟨hk,bd,J⟩;dsimp only at*;have V:j9 rs=j9 (pz A B k):=pt
 refine ai (λe=>?_) (λe=>?_)
 ·have I:k<m:=k4
  have W:k<j9 A:=k4
  have F:=px (a:=r) V k pt;have eg:(pz A B k)[k]'(by rw[tR d];omega)=A[k]:=by have:=aaN d W;rw[qd pt]at this;exact zS.inj this
  rw[eg]at F;have l1:A[k].length=n:=q _ (qh _);have l2:j9 (B[k]'(by omega))=w:=hB _ (qh _);refine(J.seq 0 k0 λ_=>rfl).mZ k k0 k4 λa1 L ad=>?_;refine(hb.up J.aj).get k k0 k4 λrb ax=>?_;refine J.append ac (k+1) F gM TG k0 k6 (λ_=>rfl) ax iK k4 λs6 h6 H6=>⟨trivial,?_⟩
  refine H6.set ac 0 k0 (λ_=>rfl) k0 k k0 k4 s6 k0 k0 k0 λh7 H7=>⟨trivial,?_⟩
  refine⟨(k+1,rs.set k s6),lb,⟨k7,n8,?_⟩,k7⟩;dsimp only;rw[<-aaO d W];show Sp h3 h7 (al 34 r 1 bo (rs.set k s6)::bA 5 1 aD (rs.set k s6) ((pz A B k).set k _));rw[<-kZ V];exact H7
 ·have a0:k=j9 A:=k4
  subst a0;rw[aaP d]at J;refine(ur f h5).mono ?_;rintro v h6 ⟨rfl,rfl⟩;refine⟨dB f,k0,?_⟩;have G:=ng d.symm q hB;have bx:=mJ d.symm;refine(Ct (m:=fe A B) (n:=n+w) hf hf.lt k4 G k4 k4 k4 J).mono ?_;rintro v h7 ⟨l,rfl,a7,u⟩;rw[Ks d.symm q,hr];refine⟨_,k0,?_⟩;dsimp only;have K:=(u.own 0 k0).cap;have b2:=(u.own 0 k0).len;have O:=gZ G n;refine ai (λe=>absurd (show(n:Int)<(n:Int)from e) k4) λ_=>?_;refine⟨⟨wj _,yR.2 (show n<=r.len by omega)⟩,?_⟩;obtain⟨M,U⟩:∃M,M=(bG (fe A B) n).2:=⟨_,rfl⟩
  have br:j9 M=j9 A:=by have:=O.2;rw[<-U]at this;omega
  have T:aT (n+w) M:=by rw[U];exact O.1
  rw[<-U]at u;have P:j9 l=j9 M:=k4
  have o:ly n A B↔∀i (R:i<j9 M),n<=i->M[i]=aK M[i].length:=by
   unfold ly;rw[<-U];constructor
   ·intro Y i R hn;refine Y _ (yE.2 ⟨i-n,?_⟩);rw[wz,show n+(i-n)=i by omega,qd R]
   ·intro Y x hx;obtain⟨i,R,rfl⟩:=qK hx;simp only[ze]at R;rw[we];exact Y _ k4 k4
  refine aw (λi:Nat=>(i:Int)) (λi h'=>h'=h7/\n+i<=j9 M/\∀j (hj:j<j9 M),n<=j->j<n+i->M[j]=aK M[j].length) (λi=>j9 M-(n+i)) 0 k0 ⟨k0,k4,λj _ _ _=>k4⟩ ?_;rintro i h8 ⟨rfl,R,p⟩;rw[qn];refine ai (λe=>?_) (λe=>?_)
  ·have g:n+i<j9 M:=k4
   have F:=px (a:=r) P (n+i) k4;have ah:j9 (M[n+i]'g)=n+w:=T _ (qh _);have D:=u.seq (n+i+1) F λ_=>rfl;have E:=(u.seq 0 k0 λ_=>rfl).drop n K;have ay:(l.drop n)[i]'(by simp;omega)=l[n+i]'(by omega):=we;refine E.mZ i k0 k8 λa1 L ad=>?_;rw[ay];refine(HW _ _ h8 D).mono ?_;rintro _ h9 ⟨rfl,rfl⟩;refine⟨_,k0,ai (λN=>?_) λN=>?_⟩
   ·right;have y:fl (M[n+i]'g)<j9 (M[n+i]'g):=by
     by_cases hh:fl (M[n+i]'g)<j9 (M[n+i]'g)
     ·exact hh
     ·rw[j3 hh]at N;exact absurd N k6
    refine⟨λY=>?_,k0,.zip u.aj⟩;have:=o.1 Y (n+i) g k4;exact absurd y (Qf.2 this)
   ·have y:¬fl (M[n+i]'g)<j9 (M[n+i]'g):=λhh=>by
     rw[j1 hh]at N;exact N (wj _)
    refine⟨i+1,ld,⟨k0,k4,λj hj Q O=>?_⟩,k4⟩;by_cases am:j=n+i
    ·subst am;exact Qf.1 y
    ·exact p j hj Q k4
  refine⟨⟨wj _,yR.2 (show n<=r.cap by omega)⟩,?_⟩;have z:ly n A B:=o.2 λj hj Q=>p j hj Q k4;have e1:gc n A B=(M.take n).map (xa n):=by rw[gc,<-U]
  have H:∀k (hk:k<n),(gc n A B).take (k+1)=(gc n A B).take k++[(M[k]'(by omega)).drop n]:=λk hk=>by
   rw[e1,aH _ _ k8,List.getElem_map,yc]
  have bb:j9 (gc n A B)=n:=(xz d.symm q hB hr).1;refine aw (λt:Sl×Nat=>(t.1,(t.2:Int))) (λt h'=>t.2<=n/\Sp h8 h' [fP 34 t.1 1 aD ((gc n A B).take t.2)]) (λt=>n-t.2) (⟨eH,0,0⟩,0) k0 ⟨k9,(Sp.refl h8).Lt 34 1 aD⟩ ?_;rintro⟨s,k⟩ h9 ⟨b3,H9⟩;dsimp only at*;have HH:=u.comp H9;refine ai (λe=>?_) (λe=>?_)
  ·have I:k<n:=k4
   have F:=px (a:=r) P k k4;have X:(nU r l M++[fP 34 s 1 aD ((gc n A B).take k)])[k+1]?=dB (al 5 (l[k]'(by omega)) 1 aD (M[k]'(by omega))):=by rw[qp (by simp[bA];omega)];exact F
   have ah:j9 (M[k]'(by omega))=n+w:=T _ (qh _);have Z:=HH.own (k+1) X;have D:=HH.seq (k+1) X λ_=>rfl;have a6:=Z.len;have E:=(HH.seq 0 k0 λ_=>rfl).take n k4;have ap:(l.take n)[k]'(by simp;omega)=l[k]'(by omega):=yc;refine E.mZ k k0 k8 λa1 L ad=>?_;rw[ap];refine⟨⟨wj _,yR.2 k4⟩,?_⟩;refine(fA _ _ h9 (D.drop n Z.cap) k8).mono ?_;rintro v bl ⟨c,rfl,ar⟩;have a4:=(H9.comp ar).freeze 1 k0 λ_=>rfl;refine⟨c,k0,?_⟩;refine a4.xw ac 0 1 k6 k0 k0 fH k8 λs' b1 a3=>?_;refine⟨(s',k+1),lb,⟨k7,?_⟩,k7⟩;dsimp only;rw[H k I];exact a3.del 1
  ·rw[qi k4]at H9;refine .inl ⟨z,s,k0,?_⟩;have:=(Sp.zip u.aj).comp H9;exact this
section
variable {B:aB} {h0 h:hZ} {As:List HP}
theorem Uo:∀{l:au},l.Pairwise (·<·)->fK l=eR
 |[],_=>rfl
 |[_],_=>rfl
 |a::b::r,h=>by
  rw[List.pairwise_cons]at h;rw[fK,Uo h.2,j6 (h.1 b k9)];rfl
theorem YO{l:au}(h:l.Pairwise (·<·)):ON l:=λi a=>List.pairwise_iff_getElem.1 h i (i+1) k4 a k4
theorem YP{n:Nat}{R:List fu}{known:List Bool}(i:n<=64)(b:∀e∈R,(∀c∈e.1,0<=c/\c<(n:Int))/\e.1.Pairwise (·<·)):jT (n:Int) (rowsOf R known n)=eR:=by
 unfold jT;rw[qz];refine⟨k8,qU.2 λr a=>?_⟩;unfold fL;rw[qz];rcases qA.1 a with a|a
 ·obtain⟨e,f,rfl⟩:=qo.1 a;exact⟨qU.2 λc g=>by simpa using(b e f).1 c g,Uo (b e f).2⟩
 ·obtain⟨d,rfl,h,_⟩:=Bw a;exact⟨k8,k0⟩
theorem aa.ahV{e:Nat}{v:Sl}{vs:aM}(H:aa B h0 h As)(i:Nat)(s:As[i]?=dB (ct e v 1 bo (ui 1 aD) vs)):
  ∃f:List Sl,aa B h0 h (As.set i (al e v 1 bo f)++[lA (f.zip vs)])/\f.length=j9 vs/\∀(c:Nat) (n:c<j9 f) (m:c<j9 vs),f[c].ptr.isNone=vs[c].isEmpty:=by
 have g:i<j9 As:=(qm.1 s).1;have w:aa B h0 h (As.set i (HP.ex λf:List Sl=>((al e v 1 bo f).sep (lA (f.zip vs))).and (j9 f=j9 vs/\∀(c:Nat) (n:c<j9 f) (m:c<j9 vs),f[c].ptr.isNone=vs[c].isEmpty))):=
  H.gF i s λq ⟨rs,u,a,b,c,d,e⟩=>⟨rs,⟨λb=>v.on b,u,λx j=>(b x j).2,λx j=>(b x j).1,c,⟨a,λx j=>j⟩,λx j=>by
   obtain⟨k,D,l⟩:=qK j;simp only[List.length_zip]at D;rw[List.getElem_zip]at l;subst l;exact(e k _ _ (qd k4) (qd k4)).1⟩,d,λk n m=>by
   obtain⟨x,y⟩:=e k _ _ (qd n) (qd m);cases hv:vs[k]with
   |nil=>rw[y hv];rfl
   |cons z t=>
    have:=x.isSome (by rw[hv];simp);rw[this];rfl⟩
 obtain⟨f,o⟩:=w.Xp i (zq g);rw[yM]at o;have A:=o.fact i (zq g);have r:=o.aeJ i (zq g);rw[yM]at r;have p:=r.split i (zq g);rw[yM]at p;exact⟨f,p,A⟩
def yv(x:Int×Sl):ba:=[xb xi x.1,x.2]
def aiM:jy (Int×Sl) (Int×Row):=⟨λh q a b=>a.1=b.1/\Seq h q a.2 1 aD b.2,λa d=>⟨a.1,a.2.aj d⟩,λa c=>⟨a.1,a.2.mono c⟩⟩
abbrev No:jy Sl (List (Int×Row)):=bF aiM 2 yv
end
end Go.Qw
