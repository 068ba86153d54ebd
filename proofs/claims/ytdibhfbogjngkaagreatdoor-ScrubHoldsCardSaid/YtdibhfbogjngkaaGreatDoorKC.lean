/- Lemmas for the proof of the law; no condition. -/
import Derived.Test.YtdibhfbogjngkaaGreatDoorKB
set_option linter.unusedVariables false
set_option maxHeartbeats 4000000
set_option linter.unusedSimpArgs false
open Go.Proofs.Tryz renaming prog -> xB
open Go.Value renaming agg -> xw, bool -> xv, int -> xq, pointer -> xt, slice -> xr, string -> xu
open Go.IntKind renaming bits -> qk, i64 -> xx, u32 -> xz, u8 -> xy, wrap -> qc
open List renaming drop -> xp, drop_length -> yI, length_replicate -> yQ, map_set -> vL, range -> qy, range' -> zO, replicate -> qh, replicate_zero -> vu, zipWith -> zi
open Nat renaming le_of_ble_eq_true -> zL
open Prod renaming fst -> qH
open Option renaming some -> zR
open Bool renaming and_eq_false_iff -> vh, eq_iff_iff -> vB
open Go.Instr renaming makeSlice -> qF, storeAt -> qf
open BitVec renaming ofInt -> qD
set_option maxRecDepth 100000
open Option renaming some -> dB, none -> eH
open Bool renaming true -> eL, false -> eR
open Go renaming Addr -> eX
open Go.Vc renaming cellOf -> f7, Heap -> f8
open List renaming length -> ii
namespace Go.Qw
open Go Go.Vc Go.Proofs Wl
section
variable {B:aD} {h0 h:f8} {As:List HP} {a pw b:eX} {mc:bg} {offs:Int} {da:List aO} {w:Pow} {ds:aJ} {d:bt}
theorem lY{p:aD}(s:Sl)(l:aC)(x:Int)(h:f8)(g:Seq h p s 1 av l)(n:ii l<=2^40:=by omega):ac xB 84 #[s,xq xx x] h λv h'=>v=xv (decide (x∈l))/\h'=h:=by
 refine mf s x ?_;unfold jG;refine(nA s x (R:=λv h'=>(∃i:Int,v=xq xx i/\(decide (i>=0)=decide (x∈l)))/\h'=h) ?_).mono ?_
 ·unfold lx;have m:=g.len;refine aA (λi:Nat=>(i:Int)) (λi h'=>i<=ii l/\x∉l.take i/\h'=h) (λi=>ii l-i) 0 i0 ⟨i4,i9,i0⟩ ?_;rintro i j ⟨f,b,rfl⟩;refine ai (λd=>?_) (λd=>?_)
  ·have a:i<ii l:=by have k:(i:Int)<(s.len:Int):=d;omega
   refine g.bH i i0 a l[i] i0 ?_;refine cy (λe=>⟨⟨i,i0,?_⟩,i0⟩) (λe=>?_)
   ·rw[g9 (show(i:Int)>=0 by omega),g9 (by rw[e];exact qg a)]
   ·refine⟨i+1,js,⟨i4,λc=>?_,i0⟩,i4⟩;rw[aK _ _ a]at c;rcases qA.1 c with c|c
    ·exact b c
    ·exact e (qC.1 c)
  ·have k:¬(i:Int)<(s.len:Int):=d;rw[qi i4]at b;exact⟨⟨-1,i0,o6⟩,i0⟩
 ·rintro _ j ⟨⟨i,rfl,f⟩,rfl⟩;exact⟨i,i0,by rw[f],i0⟩
theorem Cm(H:aa B h0 h (bp bz a pw mc offs da w ds::As)):ac xB 83 #[xt (dB a)] h λv h'=>v=xv (eF w offs)/\h'=h:=by refine RK (dB a) ?_;unfold Kq;refine bC (λe=>j0) λ_=>(tf H).mono ?_;rintro _ _ ⟨rfl,rfl⟩;exact⟨_,i0,i0,i0⟩
def gT(slot cells:Int):Bool:=decide ((0<=slot/\slot<64)/\1<=cells/\cells<=512)
theorem KO(slot cells:Int)(h:f8):ac xB 88 #[xq xx slot,xq xx cells] h λv h'=>v=xv (gT slot cells)/\h'=h:=by
 refine Na slot cells ?_;unfold FZ gT;refine ai (λa=>ai (λc=>ai (λb=>⟨?_,i0⟩) λb=>⟨?_,i0⟩) λc=>⟨?_,i0⟩) λa=>⟨?_,i0⟩
 ·congr 1;rw[decide_eq_decide];omega
 all_goals (rw[hU i4])
theorem ajm(slot cells:Int)(x:bU)(m:aG)(l:df h x m)(g:cS m)(H:aa B h0 h (bp bz a pw (aV x) offs da w ds::As))(b:eF w offs=eL∨gT slot cells=eR∨slot∉m.drives∨slot∈aT ds m.drives):
  ac xB 31 #[xt (dB a),xq xx slot,xq xx cells] h λv h'=>v=xq xx (if eF w offs then 14 else if gT slot cells=eR then 1 else if slot∉m.drives then 5 else 4)/\Sp h h' []:=by
 refine JT (dB a) slot cells ?_;unfold BY;have p:=g.dr;refine(Cm H).mono ?_;rintro _ s ⟨rfl,rfl⟩;refine⟨_,i0,bC (λe=>⟨n0,Sp.refl _⟩) λe=>?_⟩;refine(DW x m l g H).mono ?_;rintro _ E ⟨y,rfl,q⟩;refine⟨y,i0,q.alloc af i0 λa3 h3 z=>?_⟩;refine z.storeAll af 1 i0 i0 (aV y) i0 i0 i0 i0 λj c=>?_;have c:Sp s j [cj y m,au a3 44 (aV y)]:=c;refine(KO slot cells j).mono ?_;rintro _ n ⟨rfl,rfl⟩;refine⟨_,i0,bo (λd=>⟨sb,.zip c.aj⟩) λd=>?_⟩;have A:df n y m:=c.at 0 i0;refine⟨y.2.2.2.2.2.2.1,(c.box 1 i0).cell i0,(lY _ m.drives slot n A.drives).mono ?_⟩;rintro _ D ⟨rfl,rfl⟩;refine⟨_,i0,bo (λf=>⟨by rw[e,d,g0 i9,g0 i9,f9 (of_decide_eq_false f)],.zip c.aj⟩) λf=>?_⟩;refine(fE x m (l.up c.aj) g (H.up c.aj)).mono ?_;rintro _ o ⟨r,rfl,k⟩;have t:ii (aT ds m.drives)<=ii m.drives:=qR _ _;refine⟨r,i0,(lY r _ slot o (k.seq 0 i0 λ_=>rfl)).mono ?_⟩;rintro _ h8 ⟨rfl,rfl⟩;refine⟨_,i0,bC (λi=>⟨by rw[e,d,g0 i9,g0 i9,g0 λu=>u (hZ f)],.zip (c.comp k).aj⟩) λi=>?_⟩;rcases b with b|b|b|b
 ·rw[e]at b;cases b
 ·rw[d]at b;cases b
 ·exact absurd (hZ f) b
 ·exact absurd b (of_decide_eq_false i)
theorem acF(n:Nat)(j:n<64)(x:bU)(H:aa B h0 h (ji pw b d::bp bz a pw (aV x) offs da w ds::As)):
  ac xB 89 #[xt (dB a),xq xx n,xt (dB b)] h λv h'=>v=.tuple #[]/\aa B h0 h' (bp bz a pw (aV x) offs (da.set n (dB b)) w (ds.set n (dB d))::As):=by
 refine sD (dB a) n (dB b) ?_;unfold ot;refine bC (λ_=>?_) λe=>j0
 refine ai (λ_=>ai (λ_=>?_) λe=>absurd (show(n:Int)<64 by omega) e) λe=>absurd (show(n:Int)>=0 by omega) e;refine⟨a,i0,⟨i4,i4⟩,?_⟩;rw[ql,z6];have i:aa B h0 h (bp bz a pw (aV x) offs da w ds::ji pw b d::As):=H.aX 2 [1,0];obtain⟨ok,f⟩:=Go.Vc.aa.pq i;have g:(a.add 10).add n=a.add (10+n):=by unfold Addr.add;simp[wX]
 rw[g];refine f.storeAt af 0 i0 i0 i0 i0 i0 (by simp[ok.la];omega) λh' c=>?_;rw[zo,QR ok.l8]at c;exact⟨i0,aa.afk ok j c⟩
theorem Vb(slot:Int)(x:bU)(m:aG)(j:df h x m)(f:cS m)(H:aa B h0 h (bp bz a pw (aV x) offs da w ds::As))(b:eF w offs=eL∨slot∉aT ds m.drives):
  ac xB 28 #[xt (dB a),xq xx slot] h λv h'=>v=xq xx (if eF w offs then 14 else 5)/\Sp h h' []:=by
 refine Dq (dB a) slot ?_;unfold AA;have g:=f.dr;refine(Cm H).mono ?_;rintro _ l ⟨rfl,rfl⟩;refine⟨_,i0,bC (λe=>⟨n0,Sp.refl _⟩) λe=>?_⟩;refine(fE x m j f H).mono ?_;rintro _ i ⟨r,rfl,d⟩;have k:ii (aT ds m.drives)<=ii m.drives:=qR _ _;refine⟨r,i0,(lY r _ slot i (d.seq 0 i0 λ_=>rfl)).mono ?_⟩;rintro _ h3 ⟨rfl,rfl⟩;refine⟨_,i0,bo (λc=>⟨n0,.zip d.aj⟩) λc=>?_⟩;rcases b with b|b
 ·rw[e]at b;cases b
 ·exact absurd (hZ c) b
theorem ZN(H:aa B h0 h (ji pw b d::As)):ac xB 85 #[xt (dB b)] h λv h'=>v=.tuple #[]/\aa B h0 h' (ji pw b d.Et::As):=by
 refine ES (dB b) ?_;unfold ul;obtain⟨ok,s,m,f⟩:=H.rS;refine bC (λ_=>?_) λe=>j0
 refine⟨b,i0,f.store af 0 i0 i0 6 [xv eL] i0 i0 i0 ln λl a=>?_⟩;refine⟨b,i0,a.store af 0 i0 i0 2 [xr eH 0 0] i0 i0 i0 ln λh3 j=>?_⟩;refine⟨b,i0,j.store af 0 i0 i0 3 [xq xx 0] i0 i0 i0 ln λn i=>?_⟩;refine⟨b,i0,i.store af 0 i0 i0 4 [xr eH 0 0] i0 i0 i0 ln λo g=>?_⟩;refine⟨b,i0,g.store af 0 i0 i0 5 [xv eR] i0 i0 i0 ln λk c=>⟨i0,?_⟩⟩;refine aa.AT (s:=⟨eH,0,0⟩) (b:=⟨eH,0,0⟩) ⟨qm _,zt _,ok.room,by simp[bt.Et],zt _,by simp[bt.Et]⟩ ?_;exact((c.Cz 34 5 1 aF).Cz 34 5 1 aF).aX 5 [2,0,1]
theorem WR(n:Nat)(x:bU)(m:aG)(A:df h x m)(j:cS m)(H:aa B h0 h (bp bz a pw (aV x) offs da w ds::As))(o:eF w offs=eR)(u:(n:Int)∈aT ds m.drives)(q:ds[n]?=dB (dB d)):
  ac xB 28 #[xt (dB a),xq xx n] h λv h'=>v=xq xx 0/\aa B h0 h' (bp bz a pw (aV x) offs da w (ds.set n (dB d.Et))::As):=by
 refine Dq (dB a) n ?_;unfold AA;have s:=j.dr;refine(Cm H).mono ?_;rintro _ I ⟨rfl,rfl⟩;refine⟨_,i0,bC (λe=>by rw[o]at e;cases e) λe=>?_⟩;refine(fE x m A j H).mono ?_;rintro _ t ⟨r,rfl,i⟩;have E:ii (aT ds m.drives)<=ii m.drives:=qR _ _;refine⟨r,i0,(lY r _ (n:Int) t (i.seq 0 i0 λ_=>rfl)).mono ?_⟩;rintro _ h3 ⟨rfl,rfl⟩;refine⟨_,i0,bo (λg=>absurd u (of_decide_eq_false g)) λg=>?_⟩;have l:=H.up i.aj;obtain⟨ok,y⟩:=aa.dh l;refine(mS (n:Int) ok y).mono ?_;rintro _ G ⟨rfl,rfl⟩;obtain⟨b,c,z⟩:=Go.Vc.aa.jV l q;have f:n<64:=by have:=(qn.1 c).1;rw[ok.la]at this;exact this
 have D:gr da (n:Int)=dB b:=by unfold gr;rw[f9 i4,ql,c];rfl
 rw[D];refine⟨_,i0,(ZN z).mono ?_⟩;rintro _ F ⟨rfl,p⟩;exact⟨(),i0,i0,Go.Vc.aa.te (k:=bz) (n:=n) c p⟩
end
end Go.Qw
namespace Go.Vc
open Go Wl
section
variable {k:Kit} {B:aD} {h0 h:f8} {As:List HP} {a pw b:eX} {mc:bg} {offs:Int} {da:List aO} {w:Pow} {ds:aJ} {d:bt} {n:Nat}
theorem ZO(h8:ii mc=8):(cT mc pw offs da).set (10+n) (xt eH)=cT mc pw offs (da.set n eH):=by unfold cT;rw[qV _ _ i4,h8,show 10+n-8=n+1+1 by omega,zw,zw,vL]
theorem aa.afl(ok:gh mc da ds)(q:n<64)(H:aa B h0 h (au a k.tS (cT mc pw offs (da.set n eH))::dn k.tP pw w::(gc k pw da ds++As))):aa B h0 h (bp k a pw mc offs (da.set n eH) w (ds.set n eH)::As):=by
 have l:=ok.la;have m:=ok.ls;have o:gh mc (da.set n eH) (ds.set n eH):=⟨ok.l8,by simp[l],by simp[m],λi=>by
  by_cases b:n=i
  ·subst b;rw[qe,qe,zl i4,zl i4];rfl
  ·have:=ok.same i;rw[qe,qe]at this⊢;rw[zD b,zD b];exact this⟩
 have f:=Fg (k:=k) (pw:=pw) ok;have d:gc k pw (da.set n eH) (ds.set n eH)=(gc k pw da ds).set n emp:=by
  apply List.ext_getElem?;intro j;simp only[gc,q7,List.getElem?_zipWith,List.length_zipWith];by_cases e:n=j
  ·subst e;rw[f9 i0,f9 i4,f9 i0,f9 i4,f9 i0,f9 i4];rfl
  ·simp[e]
 refine aa.pT o ?_;rw[d];obtain⟨L,g⟩:∃L,L=gc k pw da ds:=⟨_,rfl⟩
 rw[<-g]at H f⊢;have c:n<ii L:=i4
 have H:=H.fZ (n+2) (A:=L[n]) (D:=emp) (by rw[qw,qw,List.getElem?_append_left c,qd c]) λ_ _=>trivial;have p:(au a k.tS (cT mc pw offs (da.set n eH))::dn k.tP pw w::(L++As)).set (n+2) emp=au a k.tS (cT mc pw offs (da.set n eH))::dn k.tP pw w::(L.set n emp++As):=by rw[zw,zw,List.set_append_left _ _ c]
 rw[p]at H;exact H
end
end Go.Vc
namespace Go.Qw
open Go Go.Vc Go.Proofs Wl
def JM(m:aG)(l:aC):aG:={m with seq:=m.seq+1,drives:=l}
def lZ(m:aG)(offs:Int)(w:Pow)(ds:aJ)(slot cells:Int):Int×aG×Pow×aJ:=
 if eF w offs then(14,m,w,ds)else if gT slot cells=eR then(1,m,w,ds)else if slot∈m.drives then(4,m,w,ds)else if m.seq>=2147483647 then(7,m,w,ds)else
 let r:=db m offs w (ds.set slot.toNat (dB (bt.new cells.toNat))) (JM m (ia (m.drives++[slot])))
 (r.1,r.2.1,r.2.2.1,if r.1=7 then r.2.2.2.set slot.toNat eH else r.2.2.2)
section
variable {B:aD} {h0 h:f8} {As:List HP} {a pw b:eX} {offs:Int} {da:List aO} {w:Pow} {ds:aJ} {d:bt}
theorem Vd(n:Nat)(f:n<64)(x:bU)(H:aa B h0 h (bp bz a pw (aV x) offs da w ds::As)):
  ac xB 89 #[xt (dB a),xq xx n,xt eH] h λv h'=>v=.tuple #[]/\aa B h0 h' (bp bz a pw (aV x) offs (da.set n eH) w (ds.set n eH)::As):=by
 refine sD (dB a) n eH ?_;unfold ot;refine bC (λ_=>?_) λe=>j0
 refine ai (λ_=>ai (λ_=>?_) λe=>absurd (show(n:Int)<64 by omega) e) λe=>absurd (show(n:Int)>=0 by omega) e;refine⟨a,i0,⟨i4,i4⟩,?_⟩;rw[ql,z6];obtain⟨ok,c⟩:=Go.Vc.aa.pq H;have d:(a.add 10).add n=a.add (10+n):=by unfold Addr.add;simp[wX]
 rw[d];refine c.storeAt af 0 i0 i0 i0 i0 i0 (by simp[ok.la];omega) λh' b=>?_;rw[zo,ZO ok.l8]at b;exact⟨i0,aa.afl ok f b⟩
theorem Og(x:bU)(m:aG)(n:df h x m)(l:cS m)(H:aa B h0 h (bp bz a pw (aV x) offs da w ds::As)):
  ac xB 16 #[xt (dB a)] h λv h'=>∃(y:bU) (L:List (dU×Wl.cv)) (pool:List (Sl×aC)),v=fw y/\(y.1=m.seq/\y.2.1=m.next/\(y.2.2.1,y.2.2.2.1,y.2.2.2.2.1)=m.p/\y.2.2.2.2.2.1=m.extra)/\L.map Prod.snd=m.aH/\(∀p∈L,Fc pool p)/\
   Sp h h' [dO 1 av pool,ak 3 y.2.2.2.2.2.2.1 1 av m.drives,ak 94 y.2.2.2.2.2.2.2 4 bI (L.map qH)]:=by
 refine nu (dB a) ?_;unfold lu;obtain⟨ok,d⟩:=aa.dh H;refine(Sp.refl h).alloc af i0 λs o b=>?_;have c:=d.aj b.aj d.lt;refine bC (λe=>j0) λ_=>⟨a,i0,x,c.aU _ i0,(nY x m o (n.up b.aj) l).mono ?_⟩;rintro _ r ⟨y,L,pool,rfl,i,q,j,k⟩;have g:=b.comp k;refine⟨y,i0,?_⟩;refine g.store af 0 i0 i0 0 (aV y) i0 i0 i0 j9 λh3 f=>?_;exact⟨y,(f.box 0 i0).aU _ i0,y,L,pool,i0,i,q,j,f.cG [1,2,3]⟩
theorem acG(slot cells:Int)(x:bU)(m:aG)(hm:bS m=eL)(H:aa B h0 h (bp bz a pw (aV x) offs da w ds::cj x m::As)):
  ac xB 79 #[xt (dB a),xq xx slot,xq xx cells] h λv h'=>v=xq xx (lZ m offs w ds slot cells).1/\
   ∃y O,aa B h0 h' (bp bz a pw (aV y) offs O (lZ m offs w ds slot cells).2.2.1 (lZ m offs w ds slot cells).2.2.2::cj y (lZ m offs w ds slot cells).2.1::As):=by
 refine RJ (dB a) slot cells ?_;unfold Kp;have N:=kb hm;have ab:=jQ hm;obtain⟨g1,g2,g3,g4⟩:=(fF m).1 ((cD m).1 hm).1;refine(Cm H).mono ?_;rintro _ h1 ⟨rfl,rfl⟩;refine⟨_,i0,bC (λe=>?_) λK=>?_⟩
 ·have i:lZ m offs w ds slot cells=(14,m,w,ds):=by unfold lZ;rw[f9 e]
  rw[i];exact⟨i0,x,da,H⟩
 refine(Og x m (H.at 1 i0) N H).mono ?_;rintro _ h2 ⟨y,L,pool,rfl,A,S,hL,R2⟩;have H2:=(H.comp R2).front;refine⟨y,i0,H2.alloc af i0 λa3 h3 X=>?_⟩;have X:=X.bA;refine X.storeAll af 0 i0 i0 (aV y) i0 i0 i0 i0 λh4 j=>?_;have j:aa B h0 h4 (au a3 44 (aV y)::dO 1 av pool::ak 3 y.2.2.2.2.2.2.1 1 av m.drives::ak 94 y.2.2.2.2.2.2.2 4 bI (L.map qH)::bp bz a pw (aV x) offs da w ds::cj x m::As):=j;refine(KO slot cells h4).mono ?_;rintro _ h5 ⟨rfl,rfl⟩;refine⟨_,i0,bo (λz=>?_) λz=>?_⟩
 ·have i:lZ m offs w ds slot cells=(1,m,w,ds):=by unfold lZ;rw[g0 sp,f9 z]
  rw[i];exact⟨i0,x,da,j.aX 6 [4,5]⟩
 refine⟨y.2.2.2.2.2.2.1,(j.box 0 i0).cell i0,(lY _ m.drives slot h5 (j.seq 2 i0 λ_=>rfl)).mono ?_⟩;rintro _ h6 ⟨rfl,rfl⟩;refine⟨_,i0,bC (λW=>?_) λW=>?_⟩
 ·have i:lZ m offs w ds slot cells=(4,m,w,ds):=by unfold lZ;rw[g0 sp,g0 (by rw[z];decide),f9 (hZ W)]
  rw[i];exact⟨i0,x,da,j.aX 6 [4,5]⟩
 have p:slot∉m.drives:=of_decide_eq_false W;refine⟨y.1,(j.box 0 i0).cell0 i0,ai (λF=>?_) λF=>?_⟩
 ·rw[A.1]at F;have i:lZ m offs w ds slot cells=(7,m,w,ds):=by unfold lZ;rw[g0 sp,g0 (by rw[z];decide),g0 p,f9 F]
  rw[i];exact⟨i0,x,da,j.aX 6 [4,5]⟩
 rw[A.1]at F;have I:=hZ z;obtain⟨n,hn⟩:∃n:Nat,slot=n:=⟨slot.toNat,i4⟩
 have s:n<64:=i4
 have H5:aa B h0 h6 (bp bz a pw (aV x) offs da w ds::au a3 44 (aV y)::dO 1 av pool::ak 3 y.2.2.2.2.2.2.1 1 av m.drives::ak 94 y.2.2.2.2.2.2.2 4 bI (L.map qH)::cj x m::As):=j.aX 6 [4,0,1,2,3,5];refine(RY H5).mono ?_;rintro _ h7 ⟨rfl,rfl⟩;refine⟨_,i0,(NF cells pw h7).mono ?_⟩;rintro _ h8 ⟨Q1,_⟩;obtain⟨b,rfl,R8⟩:=Q1 ⟨I.2.1,I.2.2⟩;have H8:=H5.co R8;subst hn;refine⟨_,i0,(acF n s x H8).mono ?_⟩;rintro _ h9 ⟨rfl,E⟩;obtain⟨c,q⟩:∃c,c=ds.set n (dB (bt.new cells.toNat)):=⟨_,rfl⟩
 rw[<-q]at E;have E:aa B h0 h9 (au a3 44 (aV y)::ak 3 y.2.2.2.2.2.2.1 1 av m.drives::dO 1 av pool::ak 94 y.2.2.2.2.2.2.2 4 bI (L.map qH)::bp bz a pw (aV x) offs (da.set n (dB b)) w c::cj x m::As):=E.aX 6 [1,3,2,4,0,5];refine⟨(),i0,y.1,(E.box 0 i0).cell0 i0,?_⟩;dsimp only;rw[A.1,al (m.seq+1)];refine E.kg af 0 i0 i0 [xq xx (m.seq+1)] i0 i0 i0 j9 λU k=>?_;have k:aa B h0 U (au a3 44 (xq xx (m.seq+1)::(aV y).drop 1)::ak 3 y.2.2.2.2.2.2.1 1 av m.drives::dO 1 av pool::ak 94 y.2.2.2.2.2.2.2 4 bI (L.map qH)::bp bz a pw (aV x) offs (da.set n (dB b)) w c::cj x m::As):=k;refine⟨_,(k.box 0 i0).cell i0,?_⟩;refine k.push af 1 i0 gN i0 i5 (λ_=>rfl) fD (n:Int) i0 i5 i4 λo ad T=>?_;refine T.store af 0 i0 i0 6 [o] i0 i0 i0 j9 λD f=>?_;obtain⟨d,l⟩:∃d:bU,d=(m.seq+1,y.2.1,y.2.2.1,y.2.2.2.1,y.2.2.2.2.1,y.2.2.2.2.2.1,o,y.2.2.2.2.2.2.2):=⟨_,rfl⟩
 have ed:d.2.2.2.2.2.2.1=o:=n8
 have eo:d.2.2.2.2.2.2.2=y.2.2.2.2.2.2.2:=n8
 have f:aa B h0 D (au a3 44 (aV d)::ak 3 d.2.2.2.2.2.2.1 1 av (m.drives++[(n:Int)])::dO 1 av pool::ak 94 d.2.2.2.2.2.2.2 4 bI (L.map qH)::bp bz a pw (aV x) offs (da.set n (dB b)) w c::cj x m::As):=by rw[ed,eo,l];exact f
 refine⟨_,(f.box 0 i0).cell i0,(Iu d.2.2.2.2.2.2.1 (m.drives++[(n:Int)]) D (f.own 1 i0) i7).mono ?_⟩;rintro _ G ⟨rfl,R,P⟩;have g:=f.nP 1 i0 P R;obtain⟨dr,t⟩:∃dr,dr=ia (m.drives++[(n:Int)]):=⟨_,rfl⟩
 rw[<-t]at g;have g:aa B h0 G (au a3 44 (aV d)::ak 3 d.2.2.2.2.2.2.1 1 av dr::dO 1 av pool::ak 94 d.2.2.2.2.2.2.2 4 bI (L.map qH)::bp bz a pw (aV x) offs (da.set n (dB b)) w c::cj x m::As):=g;refine⟨(),i0,d,(g.box 0 i0).aU _ i0,?_⟩;obtain⟨M,J⟩:∃M,M=JM m dr:=⟨_,rfl⟩
 have Z:aa B h0 G (cj d M::bp bz a pw (aV x) offs (da.set n (dB b)) w c::cj x m::As):=aa.Fe (m:=M) (L:=L) (pool:=pool) (by rw[J,l];exact⟨i0,A.2.1,A.2.2.1,A.2.2.2⟩) (by rw[J];exact S) hL (by rw[J];exact g.aX 6 [2,1,3,4,5]);have Y:cS M:=by rw[J];exact⟨by show dr.length<=_;rw[t,Hg];simp;omega,N.ob,N.nm⟩
 refine(KN x m d M (As:=cj d M::As) (St.dS 0 i0 λ_ hq=>hq) N Y i4 (Z.aX 3 [1,2,0])).mono ?_;rintro _ ah ⟨rfl,Q,u⟩;have i:lZ m offs w ds n cells=((db m offs w c M).1,(db m offs w c M).2.1,(db m offs w c M).2.2.1,if(db m offs w c M).1=7 then(db m offs w c M).2.2.2.set n eH else(db m offs w c M).2.2.2):=by unfold lZ;rw[g0 sp,g0 (by rw[z];decide),g0 p,g0 F,J,t,q];rfl
 rw[i];obtain⟨r,hr⟩:∃r,r=db m offs w c M:=⟨_,rfl⟩
 rw[<-hr]at u⊢;refine⟨_,i0,bj (cy (λe7=>?_) λe7=>?_)⟩
 ·refine(Vd n s Q (u.aX 3 [0,1])).mono ?_;rintro _ am ⟨rfl,V⟩;exact⟨(),i0,i0,Q,_,by rw[f9 e7];exact V⟩
 ·exact⟨i0,Q,_,by rw[g0 e7];exact u.aX 3 [0,1]⟩
end
section
variable {B:aD} {h0 h:f8} {As:List HP} {a pw:eX} {offs:Int} {da:List aO} {w:Pow} {ds:aJ} {mc:bg}
theorem IR{k:Int}{d:bt}(e:bh ds k=dB d)(H:aa B h0 h (bp bz a pw mc offs da w ds::As)):∃(b:eX) (s f:Sl),gr da k=dB b/\cx h b 156 (fo pw d s f)/\fR h s 1 aF d.l/\gE d:=by
 obtain⟨ok,_⟩:=aa.dh H;rcases nD ok k with⟨h1,_⟩|⟨n,d',b,rfl,hn,h1,h2,h3,h4⟩
 ·rw[h1]at e;cases e
 ·rw[h2]at e;injection e with e
  subst e;obtain⟨m,c,j⟩:=Go.Vc.aa.jV H h1;rw[h3]at c;injection c with c
  injection c with c
  subst c;obtain⟨g,s,f,i⟩:=aa.rS j;exact⟨b,s,f,h4,i.box 0 i0,(i.aX 2 [1,0]).FH λ_=>rfl,g⟩
theorem ajn{k:Int}(c:bh ds k=eH)(H:aa B h0 h (bp bz a pw mc offs da w ds::As)):gr da k=eH:=by
 obtain⟨ok,_⟩:=aa.dh H;rcases nD ok k with⟨_,h2⟩|⟨n,d',b,rfl,hn,h1,h2,h3,h4⟩
 ·exact h2
 ·rw[h2]at c;cases c
theorem Ve{k:Int}(H:aa B h0 h (bp bz a pw mc offs da w ds::As)):ac xB 35 #[xt (dB a),xq xx k] h λv h'=>v=.pointer (gr da k)/\h'=h:=by obtain⟨ok,b⟩:=aa.dh H;exact mS k ok b
theorem Vf{k:Int}{d:bt}{b:eX}(x:bU)(m:aG)(e:bh ds k=dB d)(i:gr da k=dB b)(n:df h x m)(j:cS m)(H:aa B h0 h (bp bz a pw mc offs da w ds::As)):
  ac xB 34 #[xt (dB b),fw x] h λv h'=>v=xv (kY m d.l)/\Sp h h' []:=by
 obtain⟨q,s,f,c,g,o,p⟩:=IR e H;rw[i]at c;injection c with c
 subst c;exact ZH b pw d s f x m h g o p n j
theorem WS{k:Int}{d:bt}{b:eX}(e:bh ds k=dB d)(i:gr da k=dB b)(H:aa B h0 h (bp bz a pw mc offs da w ds::As)):
  ac xB 36 #[xt (dB b)] h λv h'=>v=xq xx d.wait/\h'=h:=by
 obtain⟨j,s,f,c,g,l,m⟩:=IR e H;rw[i]at c;injection c with c
 subst c;exact abJ s f g
end
def Ee(a b c:Int):Int×Int×Int:=(1+a%6,1+b%3,1+c%9)
theorem ZP(a b c:Int)(h:f8):ac xB 37 #[xq xx a,xq xx b,xq xx c] h λv h'=>v=kS (Ee a b c)/\Sp h h' []:=by refine AB a b c ?_;unfold oF;refine(Sp.refl h).alloc af i0 λx f g=>?_;refine(cm a 6 f i5 i5).mono ?_;rintro v e ⟨rfl,rfl⟩;refine⟨_,i0,(cm b 3 e i5 i5).mono ?_⟩;rintro v h3 ⟨rfl,rfl⟩;refine⟨_,i0,(cm c 9 h3 i5 i5).mono ?_⟩;rintro v j ⟨rfl,rfl⟩;refine⟨_,i0,?_⟩;dsimp only;rw[al _,al _,al _];refine g.storeAll af 0 i0 i0 [xq xx (1+a%6),xq xx (1+b%3),xq xx (1+c%9)] i0 i0 i0 i0 λi d=>?_;exact⟨Ee a b c,(d.box 0 i0).aU _ i0,i0,.zip d.aj⟩
theorem acH(a b c:Int):bP (Ee a b c)=eL:=by rw[cu];unfold Ee;dsimp only;omega
theorem WT(m n:aG):eZ m (bu n)=[]:=by unfold eZ;rw[Za];simp[rk]
def bB(a pw:eX)(b:List aO)(offs:Int)(w:Pow)(ds:aJ)(m:aG):HP:=HP.ex λx:bU=>(bp bz a pw (aV x) offs b w ds).sep (cj x m)
section
variable {B:aD} {h0 h:f8} {As:List HP} {a pw:eX} {offs:Int} {da:List aO} {w:Pow} {ds:aJ} {m:aG}
theorem gf(H:aa B h0 h (bB a pw da offs w ds m::As)):∃x,aa B h0 h (bp bz a pw (aV x) offs da w ds::cj x m::As):=by obtain⟨x,H⟩:=H.tG;exact⟨x,H.uc.oB⟩
theorem lB{x:bU}(H:aa B h0 h (bp bz a pw (aV x) offs da w ds::cj x m::As)):aa B h0 h (bB a pw da offs w ds m::As):=
 aa.Ah (F:=λx:bU=>(bp bz a pw (aV x) offs da w ds).sep (cj x m)) x H.oB.mj
end
section
variable {B:aD} {h0 h:f8} {As:List HP} {a pw:eX} {offs:Int} {da:List aO} {w:Pow} {ds:aJ} {m:aG}
theorem nJ(H:aa B h0 h (bB a pw da offs w ds m::As)):ii ds=64/\∀k d,bh ds k=dB d->ii d.l<=d.room/\d.room<=512/\gE d:=by obtain⟨x,H⟩:=gf H;obtain⟨ok,_⟩:=aa.dh H;refine⟨ok.ls,λk d e=>?_⟩;obtain⟨b,s,f,_,_,_,c⟩:=IR e H;exact⟨c.len,c.room,c⟩
theorem Oh(p:Pm)(extra:Int)(s:Sl)(l:aC)(g:St B h0 As λh=>Rd h s 1 av l)(d:ii l<=64)(k:tl p extra l=0)(e:w=Pow.new)(H:aa B h0 h (dn 92 pw w::As)):
  ac xB 8 #[kS p,xq xx extra,xt (dB pw),s] h λv h'=>∃(a:eX) (da:List aO) (D:aJ),v=.tuple #[xt (dB a),xq xx 0]/\D.length=64/\
   (∀s,bh D s=if s∈bv l l.length then dB ⟨(l.getD s.toNat 0).toNat,bu (cH p extra l),0,[],eR,eR⟩else eH)/\aa B h0 h' (bB a pw da 0 Pow.new D (cH p extra l)::As):=by
 subst e;obtain⟨D,f,i,j⟩:=acD (p:=p) (extra:=extra) (l:=l) d k;refine(WL p extra s l g i4 H).mono ?_;rintro _ h' ⟨_,b⟩;rw[f]at b;obtain⟨a,y,da,rfl,c⟩:=b rfl;exact⟨a,da,D,i0,i,j,lB c⟩
theorem ahG(name:ByteArray)(s:Sl)(b:bf)(k:St B h0 As λh=>Rd h s 1 aF b)(e:s.len<=s.cap)(g:name.size<=2^40)(c:bS m=eL)(d:ii b<=2^20)(H:aa B h0 h (bB a pw da offs w ds m::As)):
  ac xB 10 #[xt (dB a),xu name,s] h λv h'=>v=xq xx (iH m offs w ds name b).1/\
   aa B h0 h' (bB a pw da offs (iH m offs w ds name b).2.2.1 (iH m offs w ds name b).2.2.2 (iH m offs w ds name b).2.1::As):=by
 obtain⟨x,H⟩:=gf H;obtain⟨n,l,i,f⟩:=(fF m).1 ((cD m).1 c).1;refine(afa x m name s b k e g (kb c) i f (lq c) (jQ c) i4 i4 d H).mono ?_;rintro _ h' ⟨rfl,y,j⟩;exact⟨i0,lB j⟩
theorem ahH(slot cells:Int)(d:bS m=eL)(H:aa B h0 h (bB a pw da offs w ds m::As)):
  ac xB 79 #[xt (dB a),xq xx slot,xq xx cells] h λv h'=>v=xq xx (lZ m offs w ds slot cells).1/\
   ∃b,aa B h0 h' (bB a pw b offs (lZ m offs w ds slot cells).2.2.1 (lZ m offs w ds slot cells).2.2.2 (lZ m offs w ds slot cells).2.1::As):=by
 obtain⟨x,H⟩:=gf H;refine(acG slot cells x m d H).mono ?_;rintro _ h' ⟨rfl,y,b,c⟩;exact⟨i0,b,lB c⟩
theorem Fs(b:bS m=eL)(H:aa B h0 h (bB a pw da offs w ds m::As)):
  ac xB 25 #[xt (dB a)] h λv h'=>∃r:Sl,v=r/\Sp h h' [ak 3 r 1 av (aT ds m.drives)]:=by
 obtain⟨x,H⟩:=gf H;exact fE x m (H.at 1 i0) (kb b) H
theorem LV(b:bS m=eL)(H:aa B h0 h (bB a pw da offs w ds m::As)):
  ac xB 16 #[xt (dB a)] h λv h'=>∃y:bU,v=fw y/\Sp h h' [cj y m]:=by
 obtain⟨x,H⟩:=gf H;exact DW x m (H.at 1 i0) (kb b) H
theorem uy(k:Int)(H:aa B h0 h (bB a pw da offs w ds m::As)):ac xB 35 #[xt (dB a),xq xx k] h λv h'=>v=.pointer (gr da k)/\h'=h:=by obtain⟨x,H⟩:=gf H;exact Ve H
theorem JN{k:Int}{d:bt}(c:bh ds k=dB d)(H:aa B h0 h (bB a pw da offs w ds m::As)):∃b,gr da k=dB b:=by obtain⟨x,H⟩:=gf H;obtain⟨b,_,_,e,_⟩:=IR c H;exact⟨b,e⟩
theorem acI{k:Int}(b:bh ds k=eH)(H:aa B h0 h (bB a pw da offs w ds m::As)):gr da k=eH:=by obtain⟨x,H⟩:=gf H;exact ajn b H
theorem acJ{k:Int}{d:bt}{b:eX}(z:bU)(n:aG)(c:bh ds k=dB d)(e:gr da k=dB b)(g:df h z n)(f:cS n)(H:aa B h0 h (bB a pw da offs w ds m::As)):
  ac xB 34 #[xt (dB b),fw z] h λv h'=>v=xv (kY n d.l)/\Sp h h' []:=by
 obtain⟨x,H⟩:=gf H;exact Vf z n c e g f H
theorem afm{k:Int}{d:bt}{b:eX}(c:bh ds k=dB d)(e:gr da k=dB b)(H:aa B h0 h (bB a pw da offs w ds m::As)):
  ac xB 36 #[xt (dB b)] h λv h'=>v=xq xx d.wait/\h'=h:=by
 obtain⟨x,H⟩:=gf H;exact WS c e H
theorem LW{k:Int}{d:bt}{b:eX}(f:bh ds k=dB d)(i:gr da k=dB b)(H:aa B h0 h (bB a pw da offs w ds m::As)):∃s e:Sl,cx h b 156 (fo pw d s e)/\fR h s 1 aF d.l/\gE d:=by
 obtain⟨x,H⟩:=gf H;obtain⟨o,s,e,c,g,j,n⟩:=IR f H;rw[i]at c;injection c with c
 subst c;exact⟨s,e,g,j,n⟩
theorem Rf(o b:Int)(e:bS m=eL)(H:aa B h0 h (bB a pw da offs w ds m::As)):
  ac xB 18 #[xt (dB a),xq xx o,xq xx b] h λv h'=>∃r:Sl,v=r/\Sp h h' [dK 22 r 3 1 av (de m ds o b (aT ds m.drives))]:=by
 have c:=(nJ H).2;obtain⟨x,H⟩:=gf H;exact ZF x m o b (H.at 1 i0) (kb e) (jQ e) (λk d f=>by have:=c k d f;omega) H
theorem Vg(H:aa B h0 h (bB a pw da offs w ds m::As)):ac xB 57 #[xt (dB a)] h λv h'=>v=xv (eF w offs)/\h'=h:=by obtain⟨x,H⟩:=gf H;exact tf H
end
end Go.Qw
namespace Wl
open Go Go.Qw Go.Vc
def dq(m:aG):aC->Pow->aJ->Int×Pow×aJ
 |[],w,ds=>(0,w,ds)
 |k::l,w,ds=>match bh ds k with
  |none=>dq m l w ds
  |some d=>if d.l=ck m d.l then dq m l w ds else
   if(d.rewrite w (ck m d.l)).1=0 then dq m l (d.rewrite w (ck m d.l)).2.1 (bQ ds k (d.rewrite w (ck m d.l)).2.2)
   else((d.rewrite w (ck m d.l)).1,(d.rewrite w (ck m d.l)).2.1,bQ ds k (d.rewrite w (ck m d.l)).2.2)
theorem LX{m:aG}{w:Pow}{ds:aJ}:∀{l:aC},(∀k∈l,∀d,bh ds k=dB d->d.l=ck m d.l)->dq m l w ds=(0,w,ds)
 |[],_=>rfl
 |k::l,h=>by
  unfold dq;cases hd:bh ds k with
  |none=>exact LX λj a=>h j (qG _ a)
  |some d=>
   dsimp only;rw[f9 (h k List.mem_cons_self d hd)];exact LX λj a=>h j (qG _ a)
end Wl
namespace Go.Qw
open Go Go.Vc Go.Proofs Wl
theorem WU(a b:Sl)(c f:cL)(h:f8)(o:fR h a 1 aF c)(p:fR h b 1 aF f)(x:ii c<=2^30):
  ac xB 124 #[a,b,.func (.func 99) #[] #[]] h λv h'=>v=xv (decide (c=f))/\h'=h:=by
 refine lF a b (99,#[],#[]) ?_;unfold gZ;have n:=o.len;have l:=p.len;refine cb (λe=>⟨?_,i0⟩) λe=>?_
 ·rw[hU λh=>e (by rw[n,l,h])]
 have u:ii c=ii f:=i4
 refine aA (λi:Nat=>(i:Int)) (λi h'=>i<=ii c/\c.take i=f.take i/\h'=h) (λi=>ii c-i) 0 i0 ⟨i4,i9,i0⟩ ?_;rintro i t ⟨y,m,rfl⟩;refine ai (λg=>?_) (λg=>?_)
 ·have d:i<ii c:=by have w:(i:Int)<(a.len:Int):=g;omega
  refine o.get i i0 d λr q=>p.get i i0 i4 λs j=>ff ld ?_;refine(rU r s _ _ t q j).mono ?_;rintro _ _ ⟨rfl,rfl⟩;refine⟨_,i0,bo (λk=>⟨?_,i0⟩) λk=>?_⟩
  ·rw[hU λh=>of_decide_eq_false k (by simp only[h])]
  ·refine⟨i+1,js,⟨i4,?_,i0⟩,i4⟩;rw[aK _ _ d,aK _ _ (show i<ii f by omega),m,hZ k]
 ·have w:¬(i:Int)<(a.len:Int):=g;rw[qi i4,qi i4]at m;exact⟨by rw[g9 m],i0⟩
abbrev cU(a:eX)(y:bU)(b:Sl)(t most k:Int):bg:=xt (dB a)::(aV y++[xr b.ptr b.len b.cap,xq xx t,xq xx most,xq xx k])
section
variable {B:aD} {h0 h:f8} {As:List HP} {a pw:eX} {offs:Int} {da:List aO} {w:Pow} {ds:aJ} {m:aG}
theorem WV{k:Int}{d:bt}{b:eX}(x:Sl)(l:cL)(A:St B h0 As λh=>fR h x 1 aF l)(t:ii l<=2^20)(i:∀c∈l,ii c<=2^20)(f:bh ds k=dB d)(j:gr da k=dB b)(H:aa B h0 h (bB a pw da offs w ds m::As)):
  ac xB 125 #[xt (dB b),x] h λv h'=>v=xq xx (d.rewrite w l).1/\aa B h0 h' (bB a pw da offs (d.rewrite w l).2.1 (bQ ds k (d.rewrite w l).2.2) m::As):=by
 obtain⟨y,H⟩:=gf H;obtain⟨ok,_⟩:=aa.dh H;obtain⟨n,rfl,E⟩:=kW f;have u:ds[n]?=dB (dB d):=by
  unfold bh at f;rw[f9 i4,ql]at f;cases hX:ds[n]? with
  |none=>rw[hX]at f;cases f
  |some o=>rw[hX]at f;exact congrArg dB f
 obtain⟨r,g,s⟩:=Go.Vc.aa.jV H u;have p:r=b:=by unfold gr at j;rw[f9 i4,ql,g]at j;injection j
 subst p;refine(IE x l s (λBs h' z=>(A.cons.cons) Bs h' z) t i).mono ?_;rintro _ h' ⟨rfl,q⟩;have D:=Go.Vc.aa.te (k:=bz) (n:=n) g q;refine⟨i0,?_⟩;have e:bQ ds (n:Int) (d.rewrite w l).2.2=ds.set n (dB (d.rewrite w l).2.2):=by simp only[bQ,ql]
 rw[e];exact lB D
theorem Sh{m:aG}{l:cL}(b:cS m)(d:ii l<=512):ii (ck m l)<=4000/\∀c∈ck m l,ii c<=64:=by
 refine⟨?_,λc a=>?_⟩
 ·have:=jW m b;have:=xO m l;unfold ck;rw[qx];omega
 ·unfold ck at a;rcases qA.1 a with a|a
  ·exact Nat.le_of_eq (ww a)
  ·exact KJ a
theorem Oi{c:eX}(y:bU)(R:Sl)(live:aC)(t most k:Int)(hm:bS m=eL)(hl:ii live<=64)(u:∀k∈live,∃d,bh ds k=dB d)
  (hS:St B h0 As λh=>cx h c 109 (cU a y R t most k)/\df h y m/\Rd h R 1 av live) (H:aa B h0 h (bB a pw da offs w ds m::As)):
  ac xB 59 #[xt (dB c)] h λv h'=>v=xq xx (dq m live w ds).1/\aa B h0 h' (bB a pw da offs (dq m live w ds).2.1 (dq m live w ds).2.2 m::As):=by
 refine AC (dB c) ?_;unfold oG;have W:=kb hm;have D:=hS.at [_] H;have Y:=D.2.2.len;refine⟨c,i0,R,D.1.cell i0,?_⟩;refine aA (λt:Nat×Pow×aJ=>(t.1:Int)) (λt h'=>t.1<=ii live/\(∀k∈live,∃d,bh t.2.2 k=dB d)/\dq m live w ds=dq m (live.drop t.1) t.2.1 t.2.2/\aa B h0 h' (bB a pw da offs t.2.1 t.2.2 m::As)) (λt=>ii live-t.1) (0,w,ds) i0 ⟨i4,u,i0,H⟩ ?_;rintro⟨i,o,n⟩ h1 ⟨hi,f,g,p⟩;dsimp only at hi f g p⊢;obtain⟨z,hy,T⟩:=hS.at [_] p;refine ai (λe=>?_) λe=>?_
 ·have r:i<ii live:=i4
  obtain⟨d,q⟩:=f live[i] (qg r);obtain⟨b,L⟩:=JN q p;refine T.bH i i0 r live[i] i0 ⟨c,i0,dB a,z.cell0 i0,(uy _ p).mono ?_⟩;rintro _ h2 ⟨rfl,rfl⟩;rw[L];obtain⟨s,Z,J,q2,I⟩:=LW q L p;have U:=I.len;have K:=I.room;obtain⟨k1,k2⟩:=Sh W (show d.l.length<=512 by omega);refine⟨_,i0,c,i0,y,z.cells 1 _ i0,(IF s Z y m J q2 I hy W).mono ?_⟩;rintro _ h3 ⟨j,rfl,G⟩;refine⟨j,i0,(LL s Z (J.aj G.aj J.lt) (q2.up G.aj) I).mono ?_⟩;rintro _ V ⟨x,rfl,M⟩;have O:fR V j 1 aF (ck m d.l):=(G.FH λ_=>rfl).up M.aj;refine⟨x,i0,(WU x j _ _ V (M.FH λ_=>rfl) O i4).mono ?_⟩;rintro _ h5 ⟨rfl,rfl⟩;have P:live.drop i=live[i]::live.drop (i+1):=qP r;have X:=(p.co G).up M.aj;refine⟨_,i0,ai (λF=>?_) λF=>?_⟩
  ·refine⟨(i+1,o,n),jj,⟨i6,f,?_,X.aX 1 []⟩,i6⟩;rw[g,P];show dq m (live[i]::live.drop (i+1)) o n=dq m (live.drop (i+1)) o n;rw[dq,q];dsimp only;rw[f9 F]
  ·obtain⟨rs,N⟩:=X.Zq λ_=>rfl;have N:aa B h0 h5 (bB a pw da offs o n m::cO (cF 1 aF) 1 bw j rs (ck m d.l)::As):=N.aX 2 [1,0];refine(WV j (ck m d.l) (St.dS (A:=cO (cF 1 aF) 1 bw j rs (ck m d.l)) 0 i0 λh' S=>⟨rs,S.1,S.2.1,S.2.2⟩) i4 (λc hc=>by have:=k2 c hc;omega) q L N).mono ?_;rintro _ h6 ⟨rfl,E⟩;have E:=E.aX 2 [0];refine⟨_,i0,cb (λQ=>?_) λQ=>?_⟩
   ·have ec:dq m live w ds=((d.rewrite o (ck m d.l)).1,(d.rewrite o (ck m d.l)).2.1,bQ n live[i] (d.rewrite o (ck m d.l)).2.2):=by rw[g,P,dq,q];dsimp only;rw[g0 F,g0 Q]
    rw[ec];exact⟨i0,E⟩
   ·refine⟨(i+1,(d.rewrite o (ck m d.l)).2.1,bQ n live[i] (d.rewrite o (ck m d.l)).2.2),jj,⟨i6,λk hk=>?_,?_,E⟩,i6⟩
    ·dsimp only;rw[iv (nJ p).1 q];split
     ·exact⟨_,i0⟩
     ·exact f k hk
    ·dsimp only;rw[g,P,dq,q];dsimp only;rw[g0 F,f9 (by simpa using Q)]
 ·have:i=ii live:=i4
  subst this;rw[yI]at g;rw[g];exact⟨i0,p⟩
end
def ints(l:List Nat):aC:=l.map λx:Nat=>(x:Int)
theorem lC(l:List Nat):ii (ints l)=ii l:=by simp[ints]
theorem LY{l:List Nat}{k:Nat}(h:k<ii l):(ints l)[k]'(by rw[lC];exact h)=(l[k]:Int):=by simp[ints]
theorem Yh{n:Nat}:∀{j i:Nat},i<=j->2*j<=n->ch n i<=ch n j
 |0,i,h,_=>by
   have:i=0:=i4
   subst this;exact qm _
 |j+1,i,h,hj=>by
  by_cases a:i=j+1
  ·subst a;exact qm _
  ·exact zf (Yh i4 i4) (ajN i4)
theorem Ef(n t:Int)(h:f8):ac xB 122 #[xq xx n,xq xx t] h λv h'=>v=xv (decide (0<=n/\n<=64/\0<=t/\t<=n))/\h'=h:=by
 refine Pr n t ?_;unfold HT;refine ai (λb=>ai (λa=>ai (λh3=>⟨?_,i0⟩) λh3=>⟨?_,i0⟩) λa=>⟨?_,i0⟩) (λb=>⟨?_,i0⟩)
 ·congr 1;exact decide_eq_decide.2 i4
 ·rw[hU i4]
 ·rw[hU i4]
 ·rw[hU i4]
theorem tm(n t:Int)(h:f8)(A:-(2^62)<=n/\n<=2^62)(E:-(2^62)<=t/\t<=2^62):ac xB 58 #[xq xx n,xq xx t] h λv h'=>v=xq xx (iN n t)/\h'=h:=by
 refine Po n t ?_;unfold HO;refine(Ef n t h).mono ?_;rintro v x ⟨rfl,rfl⟩;refine⟨_,i0,bo (λe=>?_) λe=>?_⟩
 ·have e:=of_decide_eq_false e;unfold iN;rw[g0 e];exact⟨i0,i0⟩
 ·have e:=hZ e;obtain⟨N,rfl⟩:∃N:Nat,n=N:=⟨n.toNat,i4⟩
  obtain⟨T,rfl⟩:∃T:Nat,t=T:=⟨t.toNat,i4⟩
  have w:iN N T=((min (ch N T) 4097:Nat):Int):=by unfold iN;rw[f9 e];rfl
  rw[w];obtain⟨m,z⟩:∃m,m=min T (N-T):=⟨_,rfl⟩
  have g:ch N m=ch N T:=by
   rw[z];rcases Nat.le_total T (N-T)with b|b
   ·rw[Nat.min_eq_left b]
   ·rw[Nat.min_eq_right b,<-TC N T i4]
  have a:(if qc xx ((N:Int)-T)<(T:Int)then qc xx ((N:Int)-T)else(T:Int))=(m:Int):=by rw[al _];split<;>omega
  rw[a];refine aA (λi:Nat=>(((ch N i:Nat):Int),(i:Int))) (λi h'=>h'=x/\i<=m/\ch N i<=4096) (λi=>m-i) 0 (by rw[nR];rfl) ⟨i0,i4,by rw[nR];omega⟩ ?_;rintro i b ⟨rfl,D,c⟩;dsimp only;refine ai (λs=>?_) (λs=>?_)
  ·have p:i<m:=i4
   have B:N<=64:=i4
   have d:=XQ (n:=N) (k:=i) i4;have f:ch N i*(N-i)<=4096*64:=Nat.mul_le_mul c i4;have q:qc xx ((N:Int)-i)=((N-i:Nat):Int):=j3
   have o:qc xx (((ch N i:Nat):Int)*((N-i:Nat):Int))=((ch N i*(N-i):Nat):Int):=by rw[<-Int.natCast_mul,al _]
   have u:qc xx ((i:Int)+1)=((i+1:Nat):Int):=js
   have r:Int.tdiv ((ch N i*(N-i):Nat):Int) ((i+1:Nat):Int)=((ch N (i+1):Nat):Int):=by rw[<-d,<-Int.ofNat_tdiv,Nat.mul_div_cancel _ i4]
   have l:ch N (i+1)<=4096*64:=by have:ch N (i+1)*1<=ch N (i+1)*(i+1):=Nat.mul_le_mul_left _ i4;omega
   rw[q,o,u,r,al _];refine⟨i4,ai (λy=>?_) λy=>?_⟩
   ·have:=Yh (n:=N) (j:=m) (i:=i+1) i4 i4;refine⟨?_,i0⟩;rw[show min (ch N T) 4097=4097 by omega];rfl
   ·exact⟨i+1,i0,⟨i0,i4,i4⟩,i4⟩
  ·have:i=m:=i4
   subst this;refine⟨?_,i0⟩;rw[show min (ch N T) 4097=ch N i by omega]
theorem index_spec(s:Sl)(l:aC)(x:Int)(h:f8)(g:Rd h s 1 av l)(m:ii l<=2^30):ac xB 150 #[s,xq xx x] h λv h'=>(∃i:Int,v=xq xx i/\(0<=i↔x∈l)/\(0<=i->l[i.toNat]?=dB x/\∀j,j<i.toNat->l[j]?≠dB x)/\i<ii l/\-1<=i)/\h'=h:=by
 refine nA s x ?_;unfold lx;have k:=g.len;refine aA (λi:Nat=>(i:Int)) (λi h'=>h'=h/\i<=ii l/\∀j,j<i->l[j]?≠dB x) (λi=>ii l-i) 0 i0 ⟨i0,i4,λj b=>i4⟩ ?_;rintro i o ⟨rfl,n,c⟩;refine ai (λe=>?_) (λe=>?_)
 ·have a:i<ii l:=i4
  refine g.bH i i0 a _ i0 ?_;refine cy (λf=>?_) (λf=>?_)
  ·refine⟨⟨i,i0,⟨λ_=>f▸qg a,λ_=>i4⟩,λ_=>⟨by rw[ql,qd a,f],λj b=>c j i4⟩,i4,i4⟩,i0⟩
  ·refine⟨i+1,js,⟨i0,i4,λj b=>?_⟩,i4⟩;rcases zr.1 b with b|rfl
   ·exact c j b
   ·rw[qd a];intro d;exact f (zR.inj d).symm
 ·refine⟨⟨-1,i0,⟨λd=>i4,λd=>?_⟩,λd=>i4,i4,i4⟩,i0⟩;obtain⟨j,b,rfl⟩:=qK d;exact absurd (qd b) (c j i4)
theorem uQ(s:Sl)(l:aC)(x:Int)(h:f8)(a:Rd h s 1 av l)(c:ii l<=2^30):ac xB 84 #[s,xq xx x] h λv h'=>v=xv (decide (x∈l))/\h'=h:=by refine mf s x ?_;unfold jG;refine(index_spec s l x h a c).mono ?_;rintro v d ⟨⟨i,rfl,b,_⟩,rfl⟩;refine⟨i,i0,?_,i0⟩;congr 1;exact decide_eq_decide.2 b
theorem acK(n:Nat)(s:Sl)(l:List Nat){B:aD}{w h:f8}{As:List HP}(H:aa B w h As)(i:Nat)(o:As[i]?=dB (ak 3 s 1 av (ints l)))(P:n<=64)(F:ii l<=n)(L:∀x∈l,x<n):
  ac xB 135 #[s,xq xx n] h λv h'=>match kv n l with
   |some l'=>v=xv eL/\aa B w h' (As.set i (ak 3 s 1 av (ints l')))
   |none=>v=xv eR/\h'=h:=by
 refine RQ s n ?_;unfold Kw;have g:=(H.own i o).len;rw[lC]at g;refine aA (λk:Nat=>(k:Int)-1) (λk h'=>h'=h/\k<=ii l/\kv n (l.drop k)=eH) (λk=>k) l.length (by rw[g,al _]) ⟨i0,qm _,by rw[yI];rfl⟩ ?_;rintro k S ⟨rfl,O,c⟩;refine ai (λe=>?_) (λe=>?_)
 ·obtain⟨k,rfl⟩:∃j,k=j+1:=⟨k-1,i4⟩
  have a:k<ii l:=i4
  have A:=H.seq i o λ_=>rfl;have f:(((k+1:Nat):Int)-1)=(k:Int):=i4
  have G:=L _ (qg a);have m:kv n (l.drop k)=if l[k]+(ii l-k-1)+1<n then dB (zO (l[k]+1) (ii l-k-1+1))else eH:=by rw[qP a];unfold kv;rw[c];simp[Nat.sub_sub]
  refine A.bH k f (by rw[lC];exact a) _ i0 ?_;rw[LY a,f,al ((n:Int)-((s.len:Nat):Int)),al _];refine ai (λK=>?_) (λK=>?_)
  ·refine A.bH k i0 (by rw[lC];exact a) _ i0 ?_;rw[LY a,al _];rw[f9 i4]at m;have J:=TA k l _ i4 m;rw[J];dsimp only;refine H.set af i o (λ_=>rfl) i0 k i0 (by rw[lC];exact a) ((l[k]:Int)+1) i0 i0 i0 λQ z=>?_;let b:Nat->List Nat:=λj=>l.take k++zO (l[k]+1) (j+1)++l.drop (k+1+j);have d:(ints l).set k ((l[k]:Int)+1)=ints (b 0):=by
    have:b 0=l.set k (l[k]+1):=by simp only[b];rw[List.set_eq_take_append_cons_drop,f9 a];simp[List.range'_succ]
    rw[this];simp[ints,vL]
   rw[d]at z;refine aA (λj:Nat=>((k+1+j:Nat):Int)) (λj h'=>k+1+j<=ii l/\aa B w h' (As.set i (ak 3 s 1 av (ints (b j))))) (λj=>ii l-j) 0 js ⟨i4,z⟩ ?_;rintro j h3 ⟨N,y⟩;have D:ii (b j)=ii l:=by simp[b];omega
   have r:i<ii As:=(qn.1 o).1;have E:(As.set i (ak 3 s 1 av (ints (b j))))[i]?=dB (ak 3 s 1 av (ints (b j))):=zl r;refine ai (λI=>?_) (λI=>?_)
   ·have p:k+1+j<ii l:=i4
    have t:(b j)[k+j]'(by omega)=l[k]+1+j:=by simp only[b,qp];rw[zY i7,List.getElem_append_left i7];simp[List.getElem_range'];omega
    refine(y.seq i E λ_=>rfl).bH (k+j) j3 (by rw[lC];omega) _ i0 ?_;rw[LY i4,t,al _];refine y.set af i E (λ_=>rfl) i0 (k+1+j) i0 (by rw[lC];omega) (((l[k]+1+j:Nat):Int)+1) i0 i0 i0 λR u=>?_;refine⟨j+1,j3,⟨i4,?_⟩,i4⟩;rw[List.set_set]at u;have:(ints (b j)).set (k+1+j) (((l[k]+1+j:Nat):Int)+1)=ints (b (j+1)):=by
     have M:(b j).set (k+1+j) (l[k]+1+j+1)=b (j+1):=by
      simp only[b];rw[qV _ _ i7];have:k+1+j-ii (List.take k l++zO (l[k]+1) (j+1))=0:=i7
      rw[this,qP p,zo,List.range'_concat (n:=j+1)];simp[wX]
     rw[<-M];simp[ints,vL]
    rw[this]at u;exact u
   ·have q:k+1+j=ii l:=i4
    refine⟨i0,?_⟩;have:l.take k++zO (l[k]+1) (ii l-k-1+1)=b j:=by simp only[b];rw[q,yI,qO,show l.length-k-1+1=j+1 by omega]
    rw[this];exact y
  ·rw[g0 i4]at m;exact⟨k,by rw[al _],⟨i0,i4,m⟩,i4⟩
 ·have:k=0:=i4
  subst this;rw[List.drop_zero]at c;rw[c];exact⟨i0,i0⟩
end Go.Qw
namespace Wl
open Go Go.Qw Go.Vc
def od(m:aG)(offs:Int)(w:Pow)(ds:aJ)(t most:Int):Int:=
 if eF w offs then 14 else if t<0∨t>=(ii (aT ds m.drives):Int)∨most<0∨most>64 then 1 else if iN (ii (aT ds m.drives):Int) t>4096 then 13 else 0
end Wl
namespace Go.Qw
open Go Go.Vc Go.Proofs Wl
section
variable {B:aD} {h0 h:f8} {As:List HP} {a pw:eX} {offs:Int} {da:List aO} {w:Pow} {ds:aJ} {m:aG}
theorem KP(t most:Int)(s:bS m=eL)(M:m.aH=[])(T:∀k∈aT ds m.drives,∀d,bh ds k=dB d->d.l=ck m d.l)(V:-(2^62)<=t/\t<=2^62)(H:aa B h0 h (bB a pw da offs w ds m::As)):
  ac xB 15 #[xt (dB a),xq xx t,xq xx most] h λv h'=>v=.tuple #[xq xx 0,xq xx (od m offs w ds t most)]/\aa B h0 h' (bB a pw da offs w ds m::As):=by
 refine BX (dB a) t most ?_;unfold uH;have z:=jQ s;obtain⟨live,c⟩:∃live,live=aT ds m.drives:=⟨_,rfl⟩
 have E:ii live<=64:=by rw[c];exact zf (qR _ _) z
 refine bj (bC (λe=>j0) λ_=>(Vg H).mono ?_);rintro _ h1 ⟨rfl,rfl⟩;refine⟨_,i0,bC (λe=>?_) λL=>?_⟩
 ·have:od m offs w ds t most=14:=by unfold od;rw[f9 e]
  rw[this];exact⟨i0,H⟩
 have S:od m offs w ds t most=(if t<0∨t>=(ii live:Int)∨most<0∨most>64 then 1 else if iN (ii live:Int) t>4096 then 13 else 0):=by unfold od;rw[g0 (by rw[L];decide),<-c]
 rw[S];refine(LV s H).mono ?_;rintro _ h2 ⟨y,rfl,R⟩;have I:=H.co R;refine⟨y,i0,(Fs s (I.aX 2 [1,0])).mono ?_⟩;rintro _ h3 ⟨f,rfl,J⟩;rw[<-c]at J;have W:=I.co J;refine⟨f,i0,W.boxed λa5 K g=>?_⟩;have g:aa B h0 K (bB a pw da offs w ds m::au a5 109 (cU a y f t most 0)::ak 3 f 1 av live::cj y m::As):=(g.bA).aX 4 [3,0,1,2];have j:=(g.own 2 i0).len;have n:=g.box 1 i0;refine bj (bX (λ(b:Bool) h'=>b=decide (t<0∨t>=(ii live:Int)∨most<0∨most>64)/\h'=K) ?_ ?_)
 ·refine ai (λe=>⟨by rw[g9 (.inl e)],i0⟩) λZ=>⟨a5,i0,f,n.cell i0,ai (λe=>⟨by rw[g9 (.inr (.inl i4))],i0⟩) λeb=>ai (λe=>⟨by rw[g9 (.inr (.inr (.inl e)))],i0⟩) λec=>⟨?_,i0⟩⟩
  rw[decide_eq_decide];omega
 rintro b N ⟨rfl,rfl⟩;refine ai (λe=>by rw[f9 e];exact⟨i0,g.aX 4 [0]⟩) λP=>?_;rw[g0 P];refine⟨a5,i0,f,n.cell i0,(tm ((f.len:Nat):Int) t N i4 V).mono ?_⟩;rintro _ X ⟨rfl,rfl⟩;rw[j];refine⟨_,i0,ai (λe=>by rw[f9 e];exact⟨i0,g.aX 4 [0]⟩) λO=>?_⟩;rw[g0 O];have U:St B h0 (au a5 109 (cU a y f t most 0)::ak 3 f 1 av live::cj y m::As) λh=>cx h a5 109 (cU a y f t most 0)/\df h y m/\Rd h f 1 av live:=λBs h' D=>
  ⟨(St.dS (A:=au a5 109 (cU a y f t most 0)) 0 i0 λ_ i=>i.1) Bs h' D,(St.dS (A:=cj y m) 2 i0 λ_ i=>i) Bs h' D,(St.dS (A:=ak 3 f 1 av live) (Q:=λh=>Rd h f 1 av live) 1 i0 λh' i=>i.1.seq (λ_=>rfl) i.2) Bs h' D⟩
 refine(Oi y f live t most 0 s E (λk x=>by obtain⟨_,d,u,_⟩:=kr (show k∈aT ds m.drives by rw[<-c];exact x);exact⟨d,u⟩) U g).mono ?_;rintro _ h8 ⟨rfl,r⟩;have G:dq m live w ds=(0,w,ds):=LX λk x d u=>T k (by rw[<-c];exact x) d u;rw[G]at r⊢;have p:=r.box 1 i0;have F:df h8 y m:=r.at 3 i0;have o:=bO.len F.aH;rw[M]at o;have q:y.2.2.2.2.2.2.2.len=0:=o;refine⟨_,i0,cb (λe=>absurd i0 e) λ_=>⟨a5,i0,y.2.2.2.2.2.2.2,by rw[addr_add];exact p.cell i0,?_⟩⟩;refine aA (λ_:Unit=>(0:Int)) (λ_ h'=>h'=h8) (λ_=>0) () i0 i0 ?_;rintro _ Y rfl;refine ai (λe=>?_) λ_=>⟨a5,i0,0,p.cell i0,i0,r.aX 4 [0]⟩
 exfalso;rw[q]at e;exact absurd e i5
end
theorem Vh{m:aG}{offs:Int}{w:Pow}{ds:aJ}{n:aG}(r:w.calm)(l:ii ds=64)(t:eF w offs=eR)(q:bS n=eL)(E:n.seq=m.seq+1):
  let live:=aT ds n.drives;let N:Int->Int:=λ_=>(ii (bu n):Int)
  (live=[]∨dP m ds live N=eR->db m offs w ds n=(7,m,w,ds))/\(live≠[]->dP m ds live N=eL->∃c,db m offs w ds n=(0,n,w,c)/\c.length=64/\
   ∀k,bh c k=(bh ds k).map λd=>if k∈live then eI (bu n) (dD m d (bu n).length)else d):=by
 intro live N;have a:live.Nodup:=sg (xF q);have e:db m offs w ds n=(if live=[]∨dP m ds live N=eR then(7,m,w,ds)else
   if(makes m N live w ds).1≠0 then((makes m N live w ds).1,m,(makes m N live w ds).2)else
   ((layAll (bM n live) (makes m N live w ds).2.1 (makes m N live w ds).2.2).1,if(layAll (bM n live) (makes m N live w ds).2.1 (makes m N live w ds).2.2).1=0 then n else m,(layAll (bM n live) (makes m N live w ds).2.1 (makes m N live w ds).2.2).2)):=by
  unfold db;rw[g0 (by rw[t];decide),g0 (by rw[q,hU (by simpa using E)];decide)]
 refine⟨λh=>by rw[e,f9 h],λo i=>?_⟩;rw[e,g0 (by rintro(h|h);exact o h;rw[i]at h;cases h)];obtain⟨H,y,F,s⟩:=Fp r (N:=N) a l i;rw[y];dsimp only;rw[g0 i9];obtain⟨B,v,z,u⟩:=Oe r (ds:=H) (P:=bM n live) F λx A=>by
  obtain⟨b,g⟩:=lA A;obtain⟨G,p,j⟩:=Da (q9.1 i x.1 b);obtain⟨I,D,J⟩:=Fq j;refine⟨g,dD m G (N x.1),?_,I,?_⟩
  ·rw[s,p,Option.map_some,f9 b]
  ·rw[pY a,f9 b,D];have:N x.1=(ii (bu n):Int):=rfl;omega
 rw[v];refine⟨B,i0,z,λk=>?_⟩;rw[u,s,Option.map_map];congr 1;funext d;show eI (lX (bM n live) k) (if k∈live then dD m d (N k)else d)=_;rw[pY a];by_cases f:k∈live
 ·rw[f9 f,f9 f,f9 f]
 ·rw[g0 f,g0 f,g0 f];rfl
theorem Ar{l:aC}(h:l.Pairwise (·<·)):ia l=l:=by have g:(ia l).Perm l:=List.mergeSort_perm _ _;have f:(ia l).Pairwise (λa b=>decide (a<=b)=eL):=List.pairwise_mergeSort (λa b c e d=>by simp at*;omega) (λa b=>i7) l;refine g.eq_of_pairwise (le:=λa b:Int=>decide (a<=b)=eL) ?_ f (h.imp λh=>i7);intro a b _ _ e d;simp at e d;omega
theorem Cn(c:Nat)(x:Int)(d:0<x:=by omega):bv (qh c x) (qh c x).length=(qy c).map λi:Nat=>(i:Int):=by rw[yQ];unfold bv;refine zX.2 λy b=>?_;obtain⟨i,a,rfl⟩:=qu.1 b;have a:=qJ.1 a;simp[qe,a];omega
theorem acL{p:Pm}{extra:Int}(j:bP p=eL)(f:0<=extra/\extra<=16)(c:Nat)(x:Int)(m:1<=c/\c<=24)(k:1<=x/\x<=512):tl p extra (qh c x)=0:=by
 have h:(eO (qh c x)).2=eL:=by
  have a:(qh c x).all (fq · 0 512)=eL:=q9.2 λy b=>by
   rw[List.eq_of_mem_replicate b];exact(kG _ _ _).2 ⟨i4,i4⟩
  unfold eO;rw[f9 a,Cn c x,yQ];simp;omega
 have e:fq extra 0 16=eL:=(kG _ _ _).2 f;have h3:((bv (qh c x) (qh c x).length).any λi=>decide ((qh c x).getD i.toNat 0<(ii (bu (cH p extra (qh c x))):Int)))=eR:=by
  refine wF.2 λy b=>?_;rw[Cn c x]at b;obtain⟨i,d,rfl⟩:=qu.1 b;have d:=qJ.1 d;have l:=Gx p extra (qh c x) i7;have g:(qh c x).getD ((i:Int)).toNat 0=x:=by rw[ql];simp[qe,d]
  rw[g];simp;omega
 unfold tl;rw[h,j,e,h3];rfl
structure JO (p:Pm) (extra:Int) (c:Nat) (x:Int) (m:aG) (D:aJ):Prop where
 m_eq:m=cH p extra (qh c x)
 len:ii D=64
 may:bS m=eL
 dr:m.drives=(qy c).map λi:Nat=>(i:Int)
 at_:∀s,bh D s=if s∈m.drives then dB ⟨x.toNat,bu m,0,[],eR,eR⟩else eH
theorem afn{p:Pm}{extra:Int}{c:Nat}{x:Int}(j:bP p=eL)(k:0<=extra/\extra<=16)(f:1<=c/\c<=24)(b:1<=x/\x<=512){D:aJ}(d:ii D=64)
  (g:∀s,bh D s=if s∈bv (qh c x) (qh c x).length then dB ⟨((qh c x).getD s.toNat 0).toNat,bu (cH p extra (qh c x)),0,[],eR,eR⟩else eH):JO p extra c x (cH p extra (qh c x)) D:=by
 have e:=acL j k c x f b;refine⟨i0,d,LS i7 e,Cn c x,λs=>?_⟩;rw[g s];show(if s∈bv _ _ then _ else eH)=(if s∈bv _ _ then _ else eH)
 by_cases h:s∈bv (qh c x) (qh c x).length
 ·rw[f9 h,f9 h];rw[Cn c x]at h;obtain⟨i,a,rfl⟩:=qu.1 h;have a:=qJ.1 a;rw[ql,fu 0 j8,List.getElem_replicate]
 ·rw[g0 h,g0 h]
theorem JO.live{p:Pm}{extra:Int}{c:Nat}{x:Int}{m:aG}{D:aJ}(F:JO p extra c x m D):aT D m.drives=m.drives:=zX.2 λk a=>by
 unfold isLive;rw[F.at_ k,f9 a];rfl
theorem JO.aH{p:Pm}{extra:Int}{c:Nat}{x:Int}{m:aG}{D:aJ}(F:JO p extra c x m D):m.aH=[]/\m.seq=1/\m.next=0/\m.p=p/\m.extra=extra:=by rw[F.m_eq];exact⟨i0,i0,i0,i0,i0⟩
section
variable {B B':aD} {h0 h0' h h':f8} {As As':List HP} {a b pw pw2:eX} {d:bt}
end
section
variable {B:aD} {h0 h:f8} {As:List HP} {a a2 pw pw2:eX} {mc:bg} {offs:Int} {da da2:List aO} {w:Pow} {ds:aJ}
end
section
variable {B:aD} {h0 h:f8} {As:List HP} {a pw b:eX} {x:bU} {offs:Int} {da:List aO} {w:Pow} {ds:aJ} {d:bt}
end
end Go.Qw
namespace Go.Vc
open Go Wl Go.Qw
def tq(l:aC)(k:Nat):Int:=l.getD k 0
def jl(l:aC):Pm:=Ee (tq l 0) (tq l 1) (tq l 2)
def uR(l:aC):Nat:=(2+tq l 4%4).toNat
def Ft(l:aC):aC:=(qy (uR l)).map λi=>8+tq l (5+i)%50
def ZQ(l:aC):Int:=tq l 3%7
theorem Yi(l:aC):2<=uR l/\uR l<=5:=by unfold uR;omega
theorem Vi(l:aC):ii (Ft l)=uR l:=by simp[Ft]
end Go.Vc
namespace Go.Qw
open Go Go.Vc Go.Proofs Wl
section
variable {B:aD} {h0 h:f8} {As:List HP} {a pw:eX} {offs:Int} {da:List aO} {w:Pow} {ds:aJ}
theorem tu(s:Sl)(l:aC)(k:Nat)(h:f8)(a:Rd h s 1 av l):ac xB 38 #[s,xq xx k] h λv h'=>v=xq xx (tq l k)/\h'=h:=by
 refine CG s k ?_;unfold rD tq;have c:=a.len;refine ai (λe=>?_) (λe=>⟨?_,i0⟩)
 ·have b:k<ii l:=i4
  refine a.bH k i0 b (l.getD k 0) (by rw[getD_lt b];rfl) ⟨i0,i0⟩
 ·rw[qe,qQ i4];rfl
theorem WW(s:Sl)(l:aC)(h:f8)(w:Rd h s 1 av l):ac xB 7 #[s] h λv h'=>∃r:Sl,v=.tuple #[kS (jl l),xq xx (ZQ l),r]/\Sp h h' [ak 3 r 1 av (Ft l)]:=by
 refine xJ s ?_;unfold og;refine(Sp.refl h).alloc af i0 λq L p=>?_;have b:=w.up p.aj;refine(tu s l 0 L b).mono ?_;rintro _ _ ⟨rfl,rfl⟩;refine⟨_,i0,(tu s l 1 _ b).mono ?_⟩;rintro _ _ ⟨rfl,rfl⟩;refine⟨_,i0,(tu s l 2 _ b).mono ?_⟩;rintro _ G ⟨rfl,rfl⟩;refine⟨_,i0,(ZP _ _ _ G).mono ?_⟩;rintro _ Q ⟨rfl,B⟩;have H:=p.up B.aj;refine⟨jl l,i0,?_⟩;refine H.alloc af i0 λc N y=>?_;refine y.storeAll af 1 i0 i0 [xq xx (jl l).1,xq xx (jl l).2.1,xq xx (jl l).2.2] i0 i0 i0 i0 λx j=>?_;have j:Sp h x [ak 3 ⟨eH,0,0⟩ 1 av ((Ft l).take 0),au c 24 [xq xx (jl l).1,xq xx (jl l).2.1,xq xx (jl l).2.2],au q 24 [xq xx 0,xq xx 0,xq xx 0]]:=(j.nil 3 1 av).cG [2,1,0];have O:=Yi l;have A:=Vi l;refine aA (λt:Sl×Nat=>(t.1,(t.2:Int))) (λt h'=>t.2<=uR l/\Sp h h' [ak 3 t.1 1 av ((Ft l).take t.2),au c 24 [xq xx (jl l).1,xq xx (jl l).2.1,xq xx (jl l).2.2],au q 24 [xq xx 0,xq xx 0,xq xx 0]]) (λt=>uR l-t.2) (⟨eH,0,0⟩,0) i0 ⟨i9,j⟩ ?_;rintro⟨o,i⟩ h8 ⟨P,f⟩;dsimp only at*;have a:=w.up f.aj;refine(tu s l 4 h8 a).mono ?_;rintro _ _ ⟨rfl,rfl⟩;refine⟨_,i0,(cm _ 4 _ i5 i5).mono ?_⟩;rintro _ h8 ⟨rfl,rfl⟩;refine⟨_,i0,?_⟩;have g:=f.box 1 i0;dsimp only;rw[al (2+tq l 4%4)];have m:2+tq l 4%4=(uR l:Int):=by unfold uR;omega
 rw[m];refine ai (λe=>?_) (λe=>?_)
 ·have D:i<uR l:=i4
  rw[al ((5:Int)+i)];have J:(5:Int)+i=((5+i:Nat):Int):=i4
  rw[J];refine(tu s l (5+i) h8 a).mono ?_;rintro _ _ ⟨rfl,rfl⟩;refine⟨_,i0,(cm _ 50 _ i5 i5).mono ?_⟩;rintro _ I ⟨rfl,rfl⟩;refine⟨_,i0,?_⟩;dsimp only;rw[al (8+tq l (5+i)%50)];refine f.push af 0 i0 gN i0 i5 (λ_=>rfl) fD (8+tq l (5+i)%50) i0 i5 i7 λz K k=>?_;refine⟨(z,i+1),jj,⟨i6,?_⟩,i6⟩;dsimp only;rw[aK _ _ (show i<ii (Ft l) by omega)];have E:(Ft l)[i]'(by omega)=8+tq l (5+i)%50:=by simp[Ft]
  rw[E];exact k
 ·have n:i=uR l:=i4
  subst n;rw[qi i4]at f;have u:az.ok [(c,(xq xx (jl l).1)),(c.add 1,(xq xx (jl l).2.1)),(c.add 2,(xq xx (jl l).2.2))] h8:=⟨g.cell0 i0,g.cell i0,g.cell i0,trivial⟩
  refine⟨jl l,g.aU _ i0,(tu s l 3 h8 a).mono ?_⟩;rintro _ _ ⟨rfl,rfl⟩;refine⟨_,i0,u,(cm _ 7 _ i5 i5).mono ?_⟩;rintro _ M ⟨rfl,rfl⟩;refine⟨_,i0,u,?_⟩;refine f.storeAll af 2 i0 i0 [xq xx (jl l).1,xq xx (jl l).2.1,xq xx (jl l).2.2] i0 i0 i0 i0 λF d=>⟨trivial,?_⟩
  exact⟨jl l,(d.box 2 i0).aU _ i0,o,i0,d.cG [0]⟩
end
section
theorem KQ{p:Pm}{E:Int}{c:Nat}{x:Int}{m:aG}{D:aJ}(F:JO p E c x m D):∀k∈aT D m.drives,∀d,bh D k=dB d->d.l=ck m d.l:=λk b d a=>by
 rw[F.live]at b;rw[F.at_,f9 b]at a;injection a with a
 subst a;show bu m=ck m (bu m);unfold ck oO;rw[WT];simp
theorem Vj(h:f8):ac xB 14 #[] h λv h'=>v=xv eL/\Sp h h' []:=by
 refine xL ?_;unfold ol;refine(QM h).mono ?_;rintro _ w ⟨pw,rfl,s⟩;refine⟨_,i0,s.lit af av gN i0 [5] i0 (show 1*1<=2^20 by decide) i0 λd t k=>?_⟩;have i:bP (1,1,1)=eL:=i5
 refine(Oh (1,1,1) 0 d [5] (As:=[ak 3 d 1 av [5]]) (St.dS 0 i0 λh' g=>g.1.seq (λ_=>rfl) g.2) i5 (acL i i5 1 5 i5 i5) i0 k).mono ?_;rintro _ h3 ⟨a,da,D,rfl,p,q,f⟩;have F:=afn (c:=1) (x:=5) i i5 i5 i5 p q;obtain⟨m,j⟩:∃m,m=cH (1,1,1) 0 (qh 1 5):=⟨_,rfl⟩
 rw[<-j]at F;have f:Sp h h3 [bB a pw da 0 Pow.new D m,ak 3 d 1 av [5]]:=by rw[j];exact f
 have b:ii (aT D m.drives)=1:=by rw[F.live,F.dr];rfl
 have l:od m 0 Pow.new D 0 0=0:=by unfold od;rw[g0 i5,b,g0 i5,g0 i5]
 have o:od m 0 Pow.new D 1 0=1:=by unfold od;rw[g0 i5,b,f9 i5]
 refine⟨(dB a,0),i0,(KP 0 0 F.may F.aH.1 (KQ F) i5 f).mono ?_⟩;rintro _ u ⟨rfl,r⟩;rw[l];refine⟨(0,0),i0,(KP 1 0 F.may F.aH.1 (KQ F) i5 r).mono ?_⟩;rintro _ y ⟨rfl,n⟩;rw[o];exact⟨(0,1),i0,cy (λ_=>cy (λ_=>cy (λ_=>⟨i0,.zip n.aj⟩) λe=>absurd i0 e) λe=>absurd i0 e) λe=>absurd i0 e⟩
end
theorem ahI(h:f8)(x:UInt8):ac xB 209 #[xq xy x.toNat] h λv h'=>v=xv (x !=0)/\h'=h:=by
 refine PB _ ?_;unfold Ii;refine⟨?_,i0⟩;congr 1;by_cases a:x=0
 ·subst a;rfl
 ·have:((x.toNat:Nat):Int)≠0:=λb=>a (CU.1 b);rw[bne_iff_ne.2 a];exact bne_iff_ne.2 this
theorem IS(a:Sl)(l:Row)(h:f8)(o:Rd h a 1 aF l)(t:ii l<=2^30:=by omega):ac xB 139 #[a] h λv h'=>v=xq xx (if fl l<ii l then(fl l:Int)else-1)/\h'=h:=by
 refine Uh a ?_;unfold Nk;refine(rL a (209,#[],#[]) (R:=λv h'=>v=xq xx (if fl l<ii l then(fl l:Int)else-1)/\h'=h) ?_).mono ?_
 ·unfold lT;have q:=o.len;refine aA (λi:Nat=>(i:Int)) (λi h'=>h'=h/\i<=ii l/\∀j (b:j<ii l),j<i->l[j]=0) (λi=>ii l-i) 0 i0 ⟨i0,i4,λj _ b=>i4⟩ ?_;rintro i p ⟨rfl,u,d⟩;refine ai (λe=>?_) (λe=>?_)
  ·have c:i<ii l:=i4
   refine o.bH i i0 c _ i0 ?_;refine ff ld ?_;refine(ahI p l[i]).mono ?_;rintro v s ⟨rfl,rfl⟩;refine⟨_,i0,bC (λn=>?_) λn=>?_⟩
   ·have m:fl l=i:=by rw[fl,List.findIdx_eq c];exact⟨n,λj b=>by simp[d j i4 b]⟩
    rw[m,f9 c];exact⟨i0,i0⟩
   ·refine⟨i+1,js,⟨i0,i4,λj b k=>?_⟩,i4⟩;rcases zr.1 k with h3|rfl
    ·exact d j b h3
    ·simpa using n
  ·have f:¬fl l<ii l:=by rw[fl,wQ];rintro⟨x,r,g⟩;obtain⟨j,b,rfl⟩:=qK r;rw[d j b i4]at g;simp at g
   rw[g0 f];exact⟨i0,i0⟩
 ·rintro v p ⟨rfl,rfl⟩;exact⟨_,i0,i0,i0⟩
theorem afo(a b:Sl)(c d:Row)(h:f8)(j:Rd h a 1 aF c)(l:Rd h b 1 aF d)(u:ii c=ii d)(z:ii c<=2^30):ac xB 253 #[a,b] h λv h'=>∃r:Sl,v=.tuple #[r,xv eL]/\Sp h h' [ak 5 r 1 aF (zi (·^^^·) c d)]:=by
 refine Wu a b ?_;unfold QK;have x:=j.len;have t:=l.len;refine cb (λe=>i4) λ_=>?_;refine(Sp.refl h).make af aF hJ i5 0 i0 i0 c.length c.length i4 i4 (qm _) i4 λs h3 p y o=>?_;refine aA (λk:Nat=>(k:Int)) (λk h'=>k<=ii c/\Sp h h' [ak 5 s 1 aF (zi (·^^^·) (c.take k) (d.take k)++qh (ii c-k) 0)]) (λk=>ii c-k) 0 i0 ⟨i4,m5⟩ ?_;rintro k w ⟨q,g⟩;refine ai (λe=>?_) (λe=>?_)
 ·have f:k<ii c:=i4
  refine(Seq.up j g.aj).bH k i0 f _ i0 ?_;refine(Seq.up l g.aj).bH k i0 i4 _ i0 ?_;rw[nE];refine g.set af 0 i0 (λ_=>rfl) i0 k i0 i7 (c[k]^^^d[k]) i0 i0 i0 λA n=>⟨trivial,?_⟩
  refine⟨k+1,js,⟨i4,?_⟩,i4⟩;have i:ii (zi (·^^^·) (c.take k) (d.take k))=k:=i7
  have m:(zi (·^^^·) (c.take k) (d.take k)++qh (ii c-k) (0:UInt8)).set k (c[k]^^^d[k])=zi (·^^^·) (c.take (k+1)) (d.take (k+1))++qh (ii c-(k+1)) 0:=by rw[qV _ _ i4,i,zc,show c.length-k=ii c-(k+1)+1 by omega,yh,zo,aK _ _ f,aK _ _ (show k<ii d by omega),yE i7,qp];rfl
  rw[<-m];exact n
 ·have:k=ii c:=i4
  subst this;refine⟨s,i0,?_⟩;rw[qi (qm _),qi i4,zc,vu,qO]at g;exact g
theorem ahJ(c:UInt8)(a b:Row):zi (·^^^·) (scaleB c a) b=cX c a b:=by unfold scaleB cX;rw[List.zipWith_map_left];congr 1;funext x y;exact UInt8.xor_comm _ _
theorem acM(f:eX)(c:UInt8)(a b:Sl)(d e:Row)(h:f8)(l:fM h f)(m:Rd h a 1 aF d)(p:Rd h b 1 aF e)(o:ii d=ii e)(k:ii d<=2^30):
  ac xB 207 #[xt (dB f),xq xy c.toNat,a,b] h λv h'=>∃r:Sl,v=.tuple #[r,xv eL]/\Sp h h' [ak 5 r 1 aF (cX c d e)]:=by
 refine Um (dB f) _ a b ?_;unfold Nw;refine(NR f c a d h l m k).mono ?_;rintro v q ⟨r,rfl,g⟩;refine⟨r,i0,(afo r b _ e q (g.seq 0 i0 λ_=>rfl) (Seq.up p g.aj) (by rw[pv];exact o) (by rw[pv];exact k)).mono ?_⟩;rintro v s ⟨w,rfl,n⟩;refine⟨(w,eL),i0,w,i0,?_⟩;rw[<-ahJ];exact(g.comp n).take 1 λi A j=>by cases i with|zero=>exact j|succ i=>simp at j
def gz(f:eX)(n:Nat)(a:Sl):bg:=[xt (dB f),xq xx n,a]
def iw(b f:eX)(n:Nat)(M:aP):HP:=.ex λa:Sl=>(au b 200 (gz f n a)).sep (cg 34 a 1 bw (cF 1 aF) M)
theorem acN(d f:eX)(n:Nat)(c r:Sl)(M:aP)(l:Row)(h:f8)(p:cx h d 200 (gz f n c))(B:fM h f)(E:dW (bO (cF 1 aF) 1 bw) h c M)(G:Rd h r 1 aF l)
  (O:ii l=n) (V:n<=64) (g:bc n M) (z:∀x∈M,fl x<n) (Q:ii M<=2^30):
  ac xB 138 #[xt (dB d),r] h λv h'=>∃w:Sl,v=.tuple #[w,xv eL]/\Sp h h' [ak 5 w 1 aF (eG M l)]:=by
 refine HV (dB d) r ?_;unfold AI;have K:=G.len;have R:=bO.len E;refine bj ?_;refine bC (λe=>j0) λ_=>?_;refine⟨d,i0,n,p.cell i0,cb (λe=>i4) λ_=>?_⟩;refine(fa r l h G i4).mono ?_;rintro v X ⟨w,rfl,J⟩;refine⟨w,i0,d,i0,c,(p.aj J.aj p.lt).cell i0,?_⟩;refine aA (λt:Sl×Nat=>(t.1,(t.2:Int))) (λt h'=>t.2<=ii M/\Sp h h' [ak 5 t.1 1 aF (eG (M.take t.2) l)]) (λt=>ii M-t.2) (w,0) i0 ⟨i9,by simpa[eG]using J⟩ ?_;rintro⟨o,k⟩ L ⟨U,a⟩;dsimp only at*;refine ai (λe=>?_) (λe=>?_)
 ·have b:k<ii M:=i4
  have S:M[k].length=n:=g _ (qg _);have I:=z _ (qg b);have s:bc n (M.take k):=λx y=>g x (zA y);have u:=Ln s O;have N:=(a.own 0 i0).len;refine bO.oq (dW.up E a.aj) k i0 b λx y=>?_;refine(IS x _ L y).mono ?_;rintro v h3 ⟨rfl,rfl⟩;refine⟨_,i0,?_⟩;dsimp only;rw[f9 i4];refine(a.seq 0 i0 λ_=>rfl).bH (fl M[k]) i0 i4 _ i0 ?_;have m:(eG (M.take k) l)[fl M[k]]'(by omega)=aQ (eG (M.take k) l) (fl M[k]):=(Pb i4).symm;have q:eG (M.take (k+1)) l=cX (aQ (eG (M.take k) l) (fl M[k])) M[k] (eG (M.take k) l):=by unfold eG;rw[aK _ _ b,zN];rfl
  rw[m];refine cb (λF=>?_) (λF=>?_)
  ·refine⟨d,i0,dB f,(p.aj a.aj p.lt).cell0 i0,?_⟩;refine(acM f (aQ (eG (M.take k) l) (fl M[k])) x o M[k] _ h3 (B.aj a.aj B.lt) y (a.seq 0 i0 λ_=>rfl) i4 i4).mono ?_;rintro v W ⟨D,rfl,T⟩;refine⟨(D,eL),i0,⟨(D,k+1),jj,⟨i6,?_⟩,i6⟩⟩;dsimp only;rw[q];exact(a.comp T).take 1 λi A H=>by cases i with|zero=>exact H|succ i=>simp at H
  ·refine⟨(o,k+1),jj,⟨i6,?_⟩,i6⟩;have P:aQ (eG (M.take k) l) (fl M[k])=0:=CU.1 F;have:eG (M.take (k+1)) l=eG (M.take k) l:=by rw[q,P];refine eK (n:=n) (by rw[ca];exact u) u λj _=>?_;rw[cP i4,Gf.zero_mul,UInt8.xor_zero]
   dsimp only;rw[this];exact a
 ·refine⟨o,i0,?_⟩;rw[qi i4]at a;exact a
theorem Si(f:eX)(n:Nat)(h:f8)(j:n<=64):ac xB 69 #[xt (dB f),xq xx n] h λv h'=>∃c:eX,v=xt (dB c)/\Sp h h' [iw c f n []]:=by refine TY (dB f) n ?_;unfold MV;refine bj ?_;refine ai (λe=>i4) λ_=>ai (λe=>i4) λ_=>?_;refine bj ?_;refine bC (λe=>j0) λ_=>?_;refine(Sp.refl h).boxed λa i g=>?_;refine⟨a,i0,?_⟩;have d:=(g.GZ 34 1 bw (cF 1 aF)).join 0 1 i5 i0 i0;exact(d.close' (F:=λb:Sl=>(au a 200 (gz f n b)).sep (cg 34 b 1 bw (cF 1 aF) [])) 0 ⟨eH,0,0⟩ i0).del 1
theorem iw.open{B:aD}{b h:f8}{As:List HP}{c f:eX}{n:Nat}{M:aP}(H:aa B b h (iw c f n M::As)):
  ∃a:Sl,aa B b h (cg 34 a 1 bw (cF 1 aF) M::au c 200 (gz f n a)::As):=by
 obtain⟨a,d⟩:=H.tG;exact⟨a,d.uc⟩
theorem iw.close{B:aD}{c h:f8}{As:List HP}{b f:eX}{n:Nat}{M:aP}{a:Sl}(H:aa B c h (cg 34 a 1 bw (cF 1 aF) M::au b 200 (gz f n a)::As)):
  aa B c h (iw b f n M::As):=H.mj.Ah (F:=λa:Sl=>(au b 200 (gz f n a)).sep (cg 34 a 1 bw (cF 1 aF) M)) a
theorem Eg(a f:eX)(n:Nat)(M:aP){B:aD}{d h:f8}{As:List HP}(H:aa B d h (iw a f n M::As)):ac xB 141 #[xt (dB a)] h λv h'=>v=xq xx M.length/\h'=h:=by refine HW (dB a) ?_;unfold AJ;obtain⟨b,c⟩:=iw.open H;refine bC (λe=>j0) λ_=>?_;exact⟨a,i0,b,(c.box 1 i0).cell i0,by rw[(c.YE 0 i0).1],i0⟩
theorem Gz(d f:eX)(n:Nat)(M:aP)(r:Sl)(l:Row){B:aD}{p h:f8}{As:List HP}(H:aa B p h (iw d f n M::As))(F:St B p As λh=>fM h f)(R:Rd h r 1 aF l)
  (J:ii l=n) (I:n<=64) (k:bc n M) (u:∀x∈M,fl x<n) (S:ii M<=64):
  ac xB 71 #[xt (dB d),r] h λv h'=>(∃b,v=xv b)/\aa B p h' (iw d f n (TD M l)::As):=by
 refine JV (dB d) r ?_;unfold Ca;obtain⟨m,s⟩:=iw.open H;have j:=Ln k J;refine(acN d f n m r M l h (s.box 1 i0) (F [_,_] h s) (s.Qi 0 i0 λ_=>rfl) R J I k u i4).mono ?_;rintro v V ⟨w,rfl,K⟩;have E:=s.co K;have U:=K.seq 0 i0 λ_=>rfl;refine⟨(w,eL),i0,bj ?_⟩;refine bo (λe=>j0) λ_=>?_;refine(IS w _ V U).mono ?_;rintro v Z ⟨rfl,rfl⟩;refine⟨_,i0,?_⟩;dsimp only;by_cases a:fl (eG M l)<ii (eG M l)
 ·rw[f9 a];refine Af (hU (Int.not_lt.2 (Int.natCast_nonneg _))) ?_;have D:=E.Mw 0 i0 λ_=>rfl;have c:=D.box 2 i0;refine⟨d,i0,dB f,c.cell0 i0,d,i0,m,c.cell i0,?_⟩;have o:bc n (M++[eG M l]):=np k j;refine D.nQ af bw fL i0 [w] i0 (show 1*1<=2^20 by decide) i0 ⟨c.cell i0,c.cell0 i0,trivial⟩ ?_;refine D.tE af 1 0 i5 i0 i0 fL i0 i5 (λ_=>rfl) kh i0 i5 i4 λy t Y=>?_;have g:aa B p t (cg 34 y 1 bw (cF 1 aF) (M++[eG M l])::au d 200 (gz f n m)::As):=Y.oU;have A:=g.box 1 i0;refine⟨⟨A.cell0 i0,trivial⟩,?_⟩;refine(KI f y _ n t (F [_,_] t g) (bO.tofR (g.Qi 0 i0 λ_=>rfl)) o I i7).mono ?_;rintro v W ⟨q,rs,rfl,Q,z,P,L⟩;have i:=(hO o (eJ (M++[eG M l]))).2;have X:Sp t W [cg 34 ⟨q.ptr,ce (M++[eG M l]),q.cap⟩ 1 bw (cF 1 aF) (nt (M++[eG M l]))]:=by have:=aa.agV (As:=[]) L (by rw[i];exact z) (λ_=>rfl) (ce (M++[eG M l])) (by rw[i];omega);exact this
  have T:=g.co X;refine⟨q,i0,trivial,d,i0,?_⟩;refine T.storeAt af 2 i0 i0 (off:=2) (v:=xr q.ptr q.len q.cap) i0 i0 i0 (by simp[gz]) λN G=>⟨trivial,⟨_,i0⟩,?_⟩
  have O:aa B p N (cg 34 ⟨q.ptr,ce (M++[eG M l]),q.cap⟩ 1 bw (cF 1 aF) (nt (M++[eG M l]))::cg 34 y 1 bw (cF 1 aF) (M++[eG M l])::au d 200 (gz f n ⟨q.ptr,ce (M++[eG M l]),q.cap⟩)::As):=by rw[show q.len=ce (M++[eG M l])from Q]at G;exact G
  rw[TD,f9 a];exact iw.close O.re
 ·rw[g0 a];refine GS (g9 i5) ⟨⟨_,i0⟩,?_⟩;rw[TD,g0 a];exact iw.close E.oU
theorem Sj(i f:eX)(n:Nat)(M:aP)(b:Sl)(h:f8)(p:cx h i 200 (gz f n b))(d:dW (bO (cF 1 aF) 1 bw) h b M)(q:ii M<=64)(j:bc n M)(D:n<=64):
  ac xB 210 #[xt (dB i)] h λv h'=>∃r:Sl,v=r/\Sp h h' [cg 34 r 1 bw (cF 1 aF) M]:=by
 refine Ij (dB i) ?_;unfold AN;refine bC (λe=>j0) λ_=>?_;have l:=bO.len d;refine⟨i,i0,b,p.cell i0,?_⟩;refine aA (λt:Sl×Nat=>(t.1,(t.2:Int))) (λt h'=>t.2<=ii M/\Sp h h' [cg 34 t.1 1 bw (cF 1 aF) (M.take t.2)]) (λt=>ii M-t.2) (⟨eH,0,0⟩,0) i0 ⟨i9,(Sp.refl h).GZ 34 1 bw (cF 1 aF)⟩ ?_;rintro⟨s,k⟩ o ⟨B,g⟩;dsimp only at*;refine ai (λe=>?_) (λe=>?_)
 ·have a:k<ii M:=i4
  have w:=j _ (qg a);refine bO.oq (dW.up d g.aj) k i0 a λx u=>?_;refine(fa x M[k] o u i4).mono ?_;rintro v h3 ⟨c,rfl,y⟩;have A:=(g.co y).Mw 0 i0 λ_=>rfl;refine⟨c,i0,?_⟩;refine A.tE af 1 0 i5 i0 i0 fL i0 i5 (λ_=>rfl) kh i0 i5 i7 λm E z=>?_;refine⟨(m,k+1),jj,⟨i6,?_⟩,i6⟩;dsimp only;rw[aK _ _ a];exact z.oU
 ·rw[qi i4]at g;exact⟨s,i0,g⟩
theorem iw.rd{B:aD}{t h:f8}{As:List HP}{k f:eX}{n:Nat}{M:aP}(H:aa B t h As)(i:Nat)(q:As[i]?=dB (iw k f n M)):∃g:Sl,cx h k 200 (gz f n g)/\dW (bO (cF 1 aF) 1 bw) h g M:=by obtain⟨g,v,w,u,y,m,p,rs,z,a,b,c,d,e⟩:=H.at i q;exact⟨g,p.1,rs,a.seq (λ_=>rfl) λx j=>m x (b x j).1,d,λi r l s o=>(cF 1 aF).mono (e i r l s o) λx j=>m x (c x j)⟩
theorem PQ(b f:eX)(n:Nat)(M:aP)(c:Sl)(h:f8)(g:cx h b 200 (gz f n c))(l:dW (bO (cF 1 aF) 1 bw) h c M)(k:ii M<=64)(i:bc n M)(q:n<=64):
  ac xB 140 #[xt (dB b)] h λv h'=>∃d:eX,v=xt (dB d)/\Sp h h' [iw d f n M]:=by
 refine GD (dB b) ?_;unfold uY;refine bC (λe=>j0) λ_=>?_;refine⟨b,i0,dB f,g.cell0 i0,b,i0,n,g.cell i0,?_⟩;have m:az.ok [(b.add 1,(xq xx (n:Int))),(b,(xt (dB f)))] h:=⟨g.cell i0,g.cell0 i0,trivial⟩
 refine(Sj b f n M c h g l k i q).mono ?_;rintro v u ⟨r,rfl,o⟩;have j:=kL o.aj m;refine⟨r,i0,j,o.boxed λa s p=>?_⟩;have t:Sp h s (au a 200 (gz f n r)::cg 34 r 1 bw (cF 1 aF) M::[]):=p.bA;refine⟨kL p.aj m,a,i0,?_⟩;exact iw.close t.oB
def dl(p:Pm)(seed:Int)(a:aC):aP:=if bP p then(a.filter bZ).map (pf (bK p).toNat seed)else[]
theorem KR{p:Pm}{seed:Int}{a:aC}{k:Nat}(c:k<ii a):dl p seed (a.take (k+1))=dl p seed (a.take k)++(if(bP p&&bZ a[k])=eL then[pf (bK p).toNat seed a[k]]else[]):=by
 unfold dl;by_cases b:bP p=eL
 ·rw[f9 b,f9 b,ph c];by_cases h:bZ a[k]=eL
  ·rw[f9 h,f9 (by rw[b,h];rfl),qU];rfl
  ·rw[g0 h,g0 sz,qO]
 ·rw[g0 b,g0 b,g0 l7];rfl
theorem WX(p:Pm)(seed:Int)(b:aC):bc (bK p).toNat (dl p seed b):=λr a=>by
 unfold dl at a;split at a
 ·obtain⟨i,_,rfl⟩:=qu.1 a;exact Tn _ _ _
 ·cases a
theorem Oj(p:Pm)(seed:Int)(a:aC):ii (dl p seed a)<=ii a:=by
 unfold dl;split
 ·rw[qz];exact qR _ _
 ·simp
abbrev IT:jn Sl aP:=bO (cF 1 aF) 1 bw
theorem acO(p:Pm)(seed:Int)(w:Sl)(W:ct)(h:f8)(K:dW (bO (cF 1 av) 1 bw) h w W)(Y:ii W<=2^20)(M:∀l∈W,ii l<=2^20):
  ac xB 72 #[kS p,xq xz seed,w] h λv h'=>∃r:Sl,v=r/\Sp h h' [cg 85 r 1 bw IT (W.map (dl p seed))]:=by
 refine MX p seed w ?_;unfold FX;obtain⟨H,q,O,A⟩:=bO.kt K;have N:=q.len;refine(Sp.refl h).boxed λa h1 L=>?_;refine aA (λt:Sl×Nat=>(t.1,(t.2:Int))) (λt h'=>t.2<=ii W/\Sp h h' [cg 85 t.1 1 bw IT ((W.take t.2).map (dl p seed)),au a 24 [xq xx p.1,xq xx p.2.1,xq xx p.2.2]]) (λt=>ii W-t.2) (⟨eH,0,0⟩,0) i0 ⟨i9,(L.GZ 85 1 bw IT).bA⟩ ?_;rintro⟨o,k⟩ X ⟨V,z⟩;dsimp only at*;refine ai (λe=>?_) (λe=>?_)
 ·have g:k<ii W:=i4
  have Q:=M _ (qg g);have F:=A k i4 g;refine(Seq.up q z.aj).mq k i0 i4 ?_;generalize H[k]'(by omega)=x at F;have I:=Seq.len F;refine aA (λt:Sl×Nat=>(t.1,(t.2:Int))) (λt h'=>t.2<=W[k].length/\Sp h h' [cg 34 t.1 1 bw (cF 1 aF) (dl p seed (W[k].take t.2)),cg 85 o 1 bw IT ((W.take k).map (dl p seed)),au a 24 [xq xx p.1,xq xx p.2.1,xq xx p.2.2]]) (λt=>W[k].length-t.2) (⟨eH,0,0⟩,0) i0 ⟨i9,by
    have:=(z.GZ 34 1 bw (cF 1 aF)).bA;have T:dl p seed []=[]:=by unfold dl;split<;>rfl
    dsimp only;rw[List.take_zero,T];exact this⟩ ?_
  rintro⟨s,j⟩ h3 ⟨U,y⟩;dsimp only at*;refine ai (λJ=>?_) (λJ=>?_)
  ·have i:j<W[k].length:=i4
   refine(Seq.up F y.aj).bH j i0 i _ i0 ?_;refine⟨p,(y.box 2 i0).aU _ i0,(UA p seed W[k][j] h3).mono ?_⟩;rintro v Z ⟨c,rfl,P,f⟩;refine⟨c,i0,?_⟩;have u:=(y.co P).Mw 0 i0 λ_=>rfl;have m:=Oj p seed (W[k].take j);rw[q8]at m;refine bo (λn=>?_) (λn=>?_)
   ·rw[f]at n;have d:(bP p&&bZ W[k][j])=eL:=l9
    rw[d,f9 rfl]at u;refine u.tE af 1 0 i5 i0 i0 fL i0 i5 (λ_=>rfl) kh i0 i5 i4 λB S D=>?_;have G:=D.oU;refine⟨(B,j+1),jj,⟨i6,?_⟩,i6⟩;dsimp only;rw[KR i,f9 d];exact G
   ·rw[f]at n;have d:¬(bP p&&bZ W[k][j])=eL:=λR=>by rw[R]at n;cases n
    refine⟨(s,j+1),jj,⟨i6,?_⟩,i6⟩;dsimp only;rw[KR i,g0 d,qO];exact u.oU
  ·rw[qi i4]at y;have u:=y.XG 0 i0 λ_=>rfl;refine u.tE af 1 0 i5 (E:=IT) (a:=s) (b:=dl p seed W[k]) i0 i0 (⟨_,_,i0,i0,i0,i0,i0,i0⟩:bY C.toDi 129 85 1 [xr eH 0 0] 24) i0 i5 (λ_=>rfl) kh i0 i5 i7 λB S D=>?_;refine⟨(B,k+1),jj,⟨i6,?_⟩,i6⟩;dsimp only;rw[aK _ _ g,qU];exact D.oU
 ·rw[qi i4]at z;exact⟨o,i0,z.re⟩
def ma(R:List aP)(a:aC):Nat->aP
 |0=>[]
 |k+1=>ma R a k++if(k:Int)∈a then[]else R.getD k []
theorem Rg{n:Nat}{R:List aP}(c:∀m∈R,bc n m)(b:aC):∀k,bc n (ma R b k)
 |0=>λr a=>by cases a
 |k+1=>λr a=>by
  rcases qA.1 a with a|a
  ·exact Rg c b k r a
  ·split at a
   ·cases a
   ·rw[qe]at a;cases hg:R[k]? with
    |none=>rw[hg]at a;cases a
    |some m=>rw[hg]at a;exact c m (List.mem_of_getElem? hg) r a
theorem Vk(R:List aP)(a:aC):∀{j k:Nat},j<=k->∃X,ma R a k=ma R a j++X
 |j,0,h=>⟨[],by
   have:j=0:=i4
   subst this;simp⟩
 |j,k+1,h=>by
  by_cases b:j=k+1
  ·subst b;exact⟨[],i9⟩
  ·obtain⟨X,c⟩:=Vk R a (j:=j) (k:=k) i4;exact⟨X++if(k:Int)∈a then[]else R.getD k [],by rw[ma,c,qp]⟩
theorem afp{n:Nat}{m:aP}(d:bc n m)(h:ce m=n){b:aP}(a:bc n b)(c:∀r∈m,r∈b):ce b=n:=by have f:=lQ a;have e:=Hq d a c;omega
theorem WY(I f:eX)(n:Nat)(M A:aP)(w l g:Sl)(R:List aP)(a:aC)(h:f8)(hb:cx h I 200 (gz f n w))(N:dW IT h w M)(Q:fM h f)(hl:dW (bO IT 1 bw) h l R)(hg:Rd h g 1 av a)
  (W:n<=64) (i:EE n M A) (hR:∀m∈R,bc n m/\m.length<=2^20) (ao:ii R<=2^20) (P:ii a<=2^30):
  ac xB 73 #[xt (dB I),l,g,xq xx n] h λv h'=>v=xv (decide (ce (A++ma R a R.length)=n))/\Sp h h' []:=by
 refine MY (dB I) l g n ?_;unfold FY;obtain⟨ls,G,ad,T⟩:=bO.kt hl;have ap:=G.len;have q:∀{p A':aP},EE n p A'->ii p<=64:=λx=>by have:=x.len;have:=lQ x.evenA;omega
 have O:St (λb=>b<h.size) h [] λh'=>fM h' f:=.base Q λh' hp=>Q.aj hp Q.lt;have S:bc n (A++ma R a R.length):=λr d=>(qA.1 d).elim (i.evenA r) (Rg (λm hm=>(hR m hm).1) a _ r);refine(PQ I f n M w h hb N (q i) i.even W).mono ?_;rintro v h1 ⟨s,rfl,R1⟩;refine⟨dB s,i0,?_⟩;refine aA (λk:Nat=>(k:Int)) (λk h'=>k<=ii R/\∃p,EE n p (A++ma R a k)/\Sp h h' [iw s f n p]) (λk=>ii R-k) 0 i0 ⟨i4,M,by simpa[ma]using i,R1⟩ ?_;rintro k h2 ⟨hk,M2,z,D⟩;refine ai (λe=>?_) (λe=>?_)
 ·have u:k<ii R:=i4
  have hx:=T k i4 u;refine(Seq.up G D.aj).mq k i0 i4 ?_;generalize ls[k]'(by omega)=x at hx;have F:=hR _ (qg u);refine(uQ g a k h2 (Seq.up hg D.aj) P).mono ?_;rintro v h3 ⟨rfl,rfl⟩;refine⟨_,i0,ai (λL=>?_) λo=>?_⟩
  ·refine⟨k+1,js,⟨i4,M2,?_,D⟩,i4⟩;rw[ma,f9 L,qO];exact z
  ·obtain⟨xs,E,ab,K⟩:=bO.kt hx;have ah:=E.len;have H:R.getD k []=R[k]:=by rw[qe,qd u];rfl
   refine aA (λj:Nat=>(j:Int)) (λj h'=>j<=R[k].length/\∃p,EE n p ((A++ma R a k)++R[k].take j)/\Sp h h' [iw s f n p]) (λj=>R[k].length-j) 0 i0 ⟨i4,M2,by simpa using z,D⟩ ?_;rintro j h4 ⟨hj,J,c,B⟩;refine ai (λe2=>?_) (λe2=>?_)
   ·have t:j<R[k].length:=i4
    have Z:=K j i4 t;refine(Seq.up E B.aj).mq j i0 i4 ?_;generalize xs[j]'(by omega)=y at Z;refine(Eg s f n J B).mono ?_;rintro v h5 ⟨rfl,rfl⟩;refine⟨_,i0,cy (λY=>?_) λY=>?_⟩
    ·refine⟨?_,.zip B.aj⟩;have am:((ii J:Nat):Int)=(n:Int):=Y;have U:ce ((A++ma R a k)++R[k].take j)=n:=by have:=c.len;omega
     have h7:ce (A++ma R a R.length)=n:=by
      refine afp c.evenA U S λr d=>?_;obtain⟨X,hX⟩:=Vk R a (j:=k+1) (k:=ii R) i4;rw[hX,ma,g0 o,H];simp only[qA]at d⊢;rcases d with(d|d)|d
      ·exact .inl d
      ·exact .inr (.inl (.inl d))
      ·exact .inr (.inl (.inr (zA d)))
     rw[h7];simp
    ·refine(Gz s f n J y _ B O (Seq.up Z B.aj) (F.1 _ (qg _)) W c.even c.lead (q c)).mono ?_;rintro v U ⟨⟨b,rfl⟩,H6⟩;refine⟨b,i0,⟨j+1,js,⟨i4,_,?_,H6⟩,i4⟩⟩;have:=abu c (F.1 _ (qg t));rw[aK _ _ t,<-qp];exact this
   ·refine⟨k+1,js,⟨i4,J,?_,B⟩,i4⟩;rw[qi i4]at c;rw[ma,g0 o,H,<-qp];exact c
 ·have:k=ii R:=i4
  subst this;refine(Eg s f n M2 D).mono ?_;rintro v h5 ⟨rfl,rfl⟩;refine⟨_,i0,?_,.zip D.aj⟩;have:=z.len;congr 1;by_cases V:ce (A++ma R a R.length)=n
  ·rw[g9 V];exact beq_iff_eq.2 (show((ii M2:Nat):Int)=n by omega)
  ·rw[hU V];exact beq_eq_false_iff_ne.2 (show((ii M2:Nat):Int)≠n by omega)
def Co(n t:Nat):ct:=(kN t 0 n).map ints
def IU(n t:Int)(h:f8)(v:Value)(h':f8):Prop:=
 if 0<=n/\n<=64/\0<=t/\t<=n then
  if iN n t>4096 then v=.tuple #[xr eH 0 0,xq xx 13]/\h'=h
  else∃r:Sl,v=.tuple #[r,xq xx 0]/\Sp h h' [cg 22 r 1 bw (cF 1 av) (Co n.toNat t.toNat)]
 else v=.tuple #[xr eH 0 0,xq xx 1]/\h'=h
theorem Vl(n t:Int)(h:f8)(hn:0<=n/\n<=2^30)(ht:(0:Int)<=0):ac xB 68 #[xq xx n,xq xx t] h (IU n t h):=by
 refine TX n t ?_;unfold MU;refine(Ef n t h).mono ?_;rintro v O ⟨rfl,rfl⟩;refine⟨_,i0,bo (λe=>?_) λe=>?_⟩
 ·show IU n t O _ O;unfold IU;rw[g0 (of_decide_eq_false e)];exact⟨i0,i0⟩
 ·have e:=hZ e;refine(tm n t O i4 i4).mono ?_;rintro v i ⟨rfl,rfl⟩;refine⟨_,i0,ai (λp=>?_) λp=>?_⟩
  ·show IU n t i _ i;unfold IU;rw[f9 e,f9 p];exact⟨i0,i0⟩
  ·refine(λQ=>?_:(∀(v:Value) (h':f8),(∃r:Sl,v=.tuple #[r,xq xx 0]/\Sp i h' [cg 22 r 1 bw (cF 1 av) (Co n.toNat t.toNat)])->IU n t i v h')->_) (λv h' l=>by unfold IU;rw[f9 e,g0 p];exact l);obtain⟨N,rfl⟩:∃N:Nat,n=N:=⟨n.toNat,i4⟩
   obtain⟨T,rfl⟩:∃T:Nat,t=T:=⟨t.toNat,i4⟩
   have S:ii (kN T 0 N)<=4096:=by
    rw[Lm N T 0 i4];have:iN (N:Int) T=((min (ch N T) 4097:Nat):Int):=by unfold iN;rw[f9 e];rfl
    rw[this]at p;have am:¬(((min (ch N T) 4097:Nat):Int)>4096):=p;simp;omega
   refine(Sp.refl i).make af av gN i5 0 i0 i0 T T i0 i0 (qm _) i4 λs h3 ar ao H3=>?_;refine aA (λk:Nat=>(k:Int)) (λk h'=>k<=T/\Sp i h' [ak 3 s 1 av (ints (zO 0 k++qh (T-k) 0))]) (λk=>T-k) 0 i0 ⟨i4,by
    have P:ints (zO 0 0++qh (T-0) 0)=qh T 0:=by simp[ints]
    rw[P];exact H3⟩ ?_
   rintro k h4 ⟨hk,B⟩;refine ai (λe3=>?_) (λe3=>?_)
   ·have ad:k<T:=i4
    refine B.set af 0 i0 (λ_=>rfl) i0 k i0 (by simp[ints];omega) (k:Int) i0 i0 i0 λh5 A=>?_;refine⟨k+1,js,⟨i4,?_⟩,i4⟩;have P:(ints (zO 0 k++qh (T-k) 0)).set k (k:Int)=ints (zO 0 (k+1)++qh (T-(k+1)) 0):=by
     have:(zO 0 k++qh (T-k) 0).set k k=zO 0 (k+1)++qh (T-(k+1)) 0:=by rw[qV _ _ i9,List.length_range',zc,show T-k=T-(k+1)+1 by omega,yh,zo,List.range'_concat];simp
     rw[<-this];simp[ints,vL]
    rw[P]at A;exact A
   ·have:k=T:=i4
    subst this;rw[zc,vu,qO]at B;refine(ka s _ h4 (B.seq 0 i0 λ_=>rfl) (by simp[ints];omega)).mono ?_;rintro v h5 ⟨c,rfl,Z⟩;have A:=(B.co Z).Mw 0 i0 λ_=>rfl;refine⟨c,i0,?_⟩;refine A.lit af bw (⟨_,_,i0,i0,i0,i0,i0,i0⟩:bY C.toDi 51 22 1 [xr eH 0 0] 24) i0 [c] i0 (show 1*1<=2^20 by decide) i0 λo h6 W=>?_;have H7:Sp i h6 (cg 22 o 1 bw (cF 1 av) [ints (zO 0 k)]::ak 3 s 1 av (ints (zO 0 k))::[]):=(W.aii (E:=cF 1 av) (a:=c) (b:=ints (zO 0 k)) 2 0 i5 i0 i0).bA.re;have I:=Hw N k 0 i4;refine aA (λx:Sl×List (List Nat)×List Nat×List (List Nat)=>x.1) (λx h'=>x.2.1++x.2.2.2=kN k 0 N/\rx N x.2.2.1 x.2.2.2/\x.2.2.1.length=k/\(∀y∈x.2.2.1,y<N)/\Sp i h' [cg 22 x.1 1 bw (cF 1 av) ((x.2.1++[x.2.2.1]).map ints),ak 3 s 1 av (ints x.2.2.1)]) (λx=>ii x.2.2.2) (o,[],zO 0 k,kN k 0 N) i0 ⟨i0,I,i9,λy R=>by rw[List.mem_range'_1]at R;omega,by simpa using H7⟩ ?_;rintro⟨o,g,f,rest⟩ h8 ⟨m,w,ap,M,U⟩;dsimp only at*;refine(acK N s f U 1 i0 i4 i4 M).mono ?_;intro v u l;cases hs:kv N f with
    |none=>
     rw[hs]at l;obtain⟨rfl,rfl⟩:=l;refine⟨eR,i0,?_⟩;refine Af i0 (Q _ _ ⟨o,i0,?_⟩);rw[ql,ql];have:rest=[f]:=by
      cases w with
      |last _=>rfl
      |more h _=>rw[hs]at h;cases h
     rw[this]at m;unfold Co;rw[<-m];exact U.re
    |some cur'=>
     rw[hs]at l;obtain⟨rfl,G⟩:=l;refine⟨eL,i0,GS i0 ?_⟩;obtain⟨L,H,d⟩:∃L,rx N cur' L/\rest=f::L:=by
      cases w with
      |last h=>rw[hs]at h;cases h
      |more h h'=>rw[hs]at h;injection h with h;subst h;exact⟨_,h',i0⟩
     have j:Sp i u [cg 22 o 1 bw (cF 1 av) ((g++[f]).map ints),ak 3 s 1 av (ints cur')]:=G;have q:cur'∈kN k 0 N:=by
      rw[<-m,d];have:cur'∈L:=by cases H<;>simp
      simp[this]
     have z:=ED q;have ah:ii g+2<=ii (kN k 0 N):=by
      rw[<-m,d];have:1<=ii L:=by cases H<;>simp
      simp;omega
     refine(ka s _ u (j.seq 1 i0 λ_=>rfl) (by rw[lC];omega)).mono ?_;rintro v Y ⟨V,rfl,F⟩;have K:=(j.co F).Mw 0 i0 λ_=>rfl;refine⟨V,i0,?_⟩;refine K.tE af 1 0 i5 (E:=cF 1 av) (a:=V) (b:=ints cur') i0 i0 (⟨_,_,i0,i0,i0,i0,i0,i0⟩:bY C.toDi 51 22 1 [xr eH 0 0] 24) i0 i5 (λ_=>rfl) kh i0 i5 i7 λX ab J=>?_;refine⟨(X,g++[f],cur',L),i0,⟨by dsimp only;rw[<-m,d];simp,H,z.1,λy R=>(z.2.1 y R).2,?_⟩,by dsimp only;rw[d];simp⟩;have D:=J.oU;dsimp only;rw[qU (l₁:=g++[f])];exact D
def sh(W:ct)(a:aC):Nat->aC
 |0=>[]
 |k+1=>sh W a k++if(k:Int)∈a then[]else W.getD k []
def nK(p:Pm)(seed:Int)(W:ct)(a:aC):Nat:=oW p seed (sh W a W.length)
theorem ZR(p:Pm)(seed:Int)(a b:aC):dl p seed (a++b)=dl p seed a++dl p seed b:=by unfold dl;split<;>simp
theorem Rh(p:Pm)(seed:Int)(W:ct)(a:aC):∀k,ma (W.map (dl p seed)) a k=dl p seed (sh W a k)
 |0=>by simp[ma,sh,dl]
 |k+1=>by
  rw[ma,sh,ZR,Rh p seed W a k];congr 1;by_cases h:(k:Int)∈a
  ·rw[f9 h,f9 h];simp[dl]
  ·rw[g0 h,g0 h,qe,qT,qe];cases W[k]? with
   |none=>simp[dl]
   |some l=>rfl
theorem acP{p:Pm}(b:bP p=eL)(seed:Int)(a:aC):dR p seed a=bG p.1.toNat p.2.1.toNat++dl p seed a:=by unfold dR dl;rw[f9 b,f9 b]
def oZ(p:Pm)(seed:Int)(W:ct)(t:Nat):Option (aC):=(Co W.length t).find? λg=>decide ((nK p seed W g:Int)≠bK p)
def gF(p:Pm)(seed:Int)(W:ct)(t:Int):aC×Bool×Int:=
 if bP p then
  if 0<=t/\t<=ii W/\W.length<=64 then
   if iN W.length t>4096 then([],eR,13)
   else match oZ p seed W t.toNat with
    |some g=>(g,eL,0)
    |none=>([],eR,0)
  else([],eR,1)
 else([],eR,1)
theorem PR(K H:Nat):bc (K+H) (bG K H):=λr a=>by
 obtain⟨i,_,rfl⟩:=qu.1 a;exact Ao _ _ _
theorem Ri{α:Type}(f:α->Bool)(l:List α){k:Nat}(b:k<ii l)(a:(l.take k).find? f=eH):(l.take (k+1)).find? f=if f l[k]then dB l[k]else eH:=by rw[aK _ _ b,List.find?_append,a,Option.none_or,List.find?_cons];cases f l[k]<;>rfl
theorem acQ{α:Type}(f:α->Bool)(l:List α){k:Nat}{x:α}(h:(l.take k).find? f=dB x):l.find? f=dB x:=by have:l=l.take k++l.drop k:=(qE k l).symm;rw[this,List.find?_append,h];rfl
theorem Cp(p:Pm)(seed:Int)(w:Sl)(W:ct)(t:Int)(h:f8)(hW:dW (bO (cF 1 av) 1 bw) h w W)(hl:ii W<=2^20)(hr:∀l∈W,ii l<=2^20)(ht:(0:Int)<=0):
  ac xB 23 #[kS p,xq xz seed,w,xq xx t] h λv h'=>∃r:Sl,v=.tuple #[r,xv (gF p seed W t).2.1,xq xx (gF p seed W t).2.2]/\Sp h h' [EA (cF 1 av) r (gF p seed W t).1]:=by
 refine MO p seed w t ?_;unfold FT;have ah:=bO.len hW;have j:∀{h1:f8},be (λb=>b<h.size) h h1->Sp h h1 [EA (cF 1 av) ⟨eH,0,0⟩ []]:=λF=>.one F (Seq.nil _ _ _ _ _ _);refine(Sp.refl h).boxed λa h1 H1=>?_;refine⟨p,(H1.box 0 i0).aU _ i0,(eN p h1).mono ?_⟩;rintro v h2 ⟨rfl,R2⟩;have H2:=H1.comp R2;refine⟨_,i0,bo (λe=>?_) λe=>?_⟩
 ·refine⟨⟨eH,0,0⟩,?_,?_⟩<;>(unfold gF;rw[g0 mn])
  exact j H2.aj
 ·have F:bP p=eL:=e;refine(Vl (w.len:Int) t h2 i4 ht).mono ?_;intro v h3 G;unfold IU at G;rw[ah]at G;have P:(0<=((ii W:Nat):Int)/\((ii W:Nat):Int)<=64/\0<=t/\t<=((ii W:Nat):Int))↔(0<=t/\t<=ii W/\W.length<=64):=i4
  by_cases I:0<=t/\t<=ii W/\W.length<=64
  ·rw[f9 (P.2 I)]at G;by_cases Q:iN W.length t>4096
   ·rw[f9 Q]at G;obtain⟨rfl,rfl⟩:=G;refine⟨(⟨eH,0,0⟩,13),i0,cb (λ_=>?_) λe=>j0⟩;refine⟨⟨eH,0,0⟩,?_,?_⟩<;>(unfold gF;rw[f9 F,f9 I,f9 Q])
    exact j H2.aj
   ·rw[g0 Q]at G;obtain⟨r,rfl,R3⟩:=G;refine⟨(r,0),i0,cb (λe=>absurd i0 e) λ_=>?_⟩;dsimp only;rw[ql]at R3;have wR:gF p seed W t=match oZ p seed W t.toNat with|some g=>(g,eL,0)|none=>([],eR,0):=by unfold gF;rw[f9 F,f9 I,g0 Q]
    obtain⟨L,hL⟩:∃L,L=Co W.length t.toNat:=⟨_,rfl⟩
    rw[<-hL]at R3;have a9:ii L<=4096:=by
     have Y:iN (ii W:Int) t=((min (ch W.length t.toNat) 4097:Nat):Int):=by unfold iN;rw[f9 (P.2 I)];rfl
     rw[Y]at Q;rw[hL,Co,qz,Lm _ _ 0 i4,Nat.sub_zero];omega
    have H3:Sp h h3 [au a 24 [xq xx p.1,xq xx p.2.1,xq xx p.2.2],cg 22 r 1 bw (cF 1 av) L]:=H2.comp R3;have pp:=(cu p).1 F;have a3:bK p=p.1+p.2.1:=pm F;obtain⟨n,hn⟩:∃n:Nat,bK p=n:=⟨(bK p).toNat,i4⟩
    have z:n<=64:=i4
    refine⟨p,(H3.box 0 i0).aU _ i0,(kI p h3).mono ?_⟩;rintro v h4 ⟨rfl,R4⟩;have H4:=H3.up R4.aj;refine⟨_,i0,(sa h4).mono ?_⟩;rintro v h5 ⟨f,rfl,R5⟩;have H5:=H4.co R5;rw[hn];refine⟨dB f,i0,(Si f n h5 z).mono ?_⟩;rintro v Y ⟨N,rfl,R6⟩;have H6:Sp h Y [iw N f n [],au f 197 dc,au a 24 [xq xx p.1,xq xx p.2.1,xq xx p.2.2],cg 22 r 1 bw (cF 1 av) L]:=H5.co R6;refine⟨dB N,i0,p,(H6.box 2 i0).aU _ i0,(uM p Y).mono ?_⟩;rintro v h7 ⟨ar,rfl,R7⟩;rw[f9 F]at R7;obtain⟨A,H⟩:∃A,A=bG p.1.toNat p.2.1.toNat:=⟨_,rfl⟩
    rw[<-H]at R7;have S:bc n A:=by have:=PR p.1.toNat p.2.1.toNat;rw[H,show n=p.1.toNat+p.2.1.toNat by omega];exact this
    have a8:ii A<=4:=by rw[H];simp[bG];omega
    have H7:Sp h h7 [iw N f n [],au f 197 dc,au a 24 [xq xx p.1,xq xx p.2.1,xq xx p.2.2],cg 22 r 1 bw (cF 1 av) L,cg 34 ar 1 bw (cF 1 aF) A]:=(H6.comp R7).Sy 4 i0;have T:∀{M' A':aP},EE n M' A'->ii M'<=64:=λx=>by have:=x.len;have:=lQ x.evenA;omega
    refine⟨ar,i0,?_⟩;refine aA (λk:Nat=>(k:Int)) (λk h'=>k<=ii A/\∃M,EE n M (A.take k)/\Sp h h' [iw N f n M,au f 197 dc,au a 24 [xq xx p.1,xq xx p.2.1,xq xx p.2.2],cg 22 r 1 bw (cF 1 av) L,cg 34 ar 1 bw (cF 1 aF) A]) (λk=>ii A-k) 0 i0 ⟨i4,[],by simpa using aiv n,H7⟩ ?_;rintro k h8 ⟨hk,M,o,R⟩;have bd:=(R.YE 4 i0).1;refine ai (λe2=>?_) (λe2=>?_)
    ·have c:k<ii A:=i4
     refine bO.oq (R.Qi 4 i0 λ_=>rfl) k i0 c λx hx=>?_;refine(Gz N f n M x _ R (St.dS 0 i0 λh' y=>y.1) hx (S _ (qg _)) z o.even o.lead (T o)).mono ?_;rintro v h9 ⟨⟨b,rfl⟩,H9⟩;refine⟨b,i0,⟨k+1,js,⟨i4,_,?_,H9⟩,i4⟩⟩;rw[aK _ _ c];exact abu o (S _ (qg c))
    ·rw[qi i4]at o;refine⟨p,(R.box 2 i0).aU _ i0,(acO p seed w W h8 (dW.up hW R.aj) hl hr).mono ?_⟩;rintro v h9 ⟨O,rfl,R9⟩;have H9:=R.comp R9;refine⟨O,i0,?_⟩;have ay:∀m∈W.map (dl p seed),bc n m/\m.length<=2^20:=λm Q=>by
      obtain⟨l,ap,rfl⟩:=qu.1 Q;refine⟨?_,zf (Oj p seed l) (hr l ap)⟩;have:=WX p seed l;rw[hn]at this;exact this
     let d:aC->Bool:=λg=>decide ((nK p seed W g:Int)≠bK p);have wI:oZ p seed W t.toNat=L.find? d:=by unfold oZ;rw[<-hL]
     have bk:=(H9.YE 3 i0).1;refine aA (λk:Nat=>(k:Int)) (λk h'=>k<=ii L/\(L.take k).find? d=eH/\Sp h h' [iw N f n M,au f 197 dc,au a 24 [xq xx p.1,xq xx p.2.1,xq xx p.2.2],cg 22 r 1 bw (cF 1 av) L,cg 34 ar 1 bw (cF 1 aF) A,cg 85 O 1 bw IT (W.map (dl p seed))]) (λk=>ii L-k) 0 i0 ⟨i4,i9,H9⟩ ?_;rintro k a2 ⟨a7,E,s⟩;refine ai (λe3=>?_) (λe3=>?_)
     ·have c:k<ii L:=i4
      refine bO.ake (s.Qi 3 i0 λ_=>rfl) k i0 c λad x a4 J hx=>?_;obtain⟨ax,hb,ao⟩:=iw.rd s 0 rfl;have a5:L[k].length<=2^30:=by
       have a6:L[k]∈Co W.length t.toNat:=by have h0:L[k]∈L:=qg c;generalize L[k]=y at h0;rw[hL]at h0;exact h0
       obtain⟨g,hg,ab⟩:=qu.1 a6;have:=(ED hg).1;rw[<-ab,lC,this];have:=I.2.1;have:=I.2.2;omega
      refine(WY N f n M A ax O x (W.map (dl p seed)) L[k] a2 hb ao (s.box 1 i0) (s.Qi 5 i0 λ_=>rfl) hx z o ay i7 a5).mono ?_;rintro v bb ⟨rfl,X⟩;have a1:(decide (ce (A++ma (W.map (dl p seed)) L[k] (W.map (dl p seed)).length)=n))=!d L[k]:=by
       rw[Rh,qz,H,<-acP F];show _=!decide ((nK p seed W L[k]:Int)≠bK p);rw[hn];unfold nK oW;by_cases Z:ce (dR p seed (sh W L[k] W.length))=n
       ·simp[Z]
       ·rw[hU Z,g9 i4];rfl
      rw[a1];have U:=s.up X.aj;refine⟨_,i0,bo (λe4=>?_) λe4=>?_⟩
      ·have K:d L[k]=eL:=by simpa using e4
       have V:=Ri d L c E;rw[f9 K]at V;have u:gF p seed W t=(L[k],eL,0):=by rw[wR,wI,acQ d L V]
       refine⟨x,by rw[u],?_⟩;rw[u];have a0:=U.XG 3 i0 λ_=>rfl;have B:=pV J X.aj;have am:=a0.fZ (D:=EA (cF 1 av) x L[k]) 3 i0 λq hq=>bO.pick hq k c a4 B;exact am.take 3 λi A' hi=>by cases i with|zero=>exact hi|succ i=>simp at hi
      ·have K:d L[k]=eR:=by simpa using e4
       have V:=Ri d L c E;rw[K]at V;exact⟨k+1,js,⟨i4,V,U⟩,i4⟩
     ·rw[qi i4]at E;have u:gF p seed W t=([],eR,0):=by rw[wR,wI,E]
      refine⟨⟨eH,0,0⟩,by rw[u],?_⟩;rw[u];exact j s.aj
  ·rw[g0 λZ=>I (P.1 Z)]at G;obtain⟨rfl,rfl⟩:=G;refine⟨(⟨eH,0,0⟩,1),i0,cb (λ_=>?_) λe=>j0⟩;refine⟨⟨eH,0,0⟩,?_,?_⟩<;>(unfold gF;rw[f9 F,g0 I])
   exact j H2.aj
end Go.Qw
namespace Wl
open Go Go.Qw Go.Vc
def mB(W:ct)(id:Int):Bool:=W.any λl=>decide (id∈l)
def Dc(W:ct):Nat:=W.flatten.foldr (λx a=>max a x.toNat) 0
theorem Vm{x:Int}:∀{l:aC},x∈l->x.toNat<=l.foldr (λx a=>max a x.toNat) 0
 |[],h=>j6
 |y::l,h=>by
  rw[List.foldr_cons];rcases zb.1 h with rfl|h
  ·omega
  ·have:=Vm h;omega
theorem PS{W:ct}{x:Int}(h:x∈W.flatten):x.toNat<=Dc W:=Vm h
theorem PT{W:ct}{i:Nat}(h:mB W (i:Int)=eL):i<=Dc W:=by unfold mB at h;rw[List.any_eq_true]at h;obtain⟨l,b,a⟩:=h;have:=PS (List.mem_flatten.2 ⟨l,b,hZ a⟩);omega
def si(W:ct):Nat->Nat->Nat
 |0,i=>i
 |f+1,i=>if mB W (i:Int)then si W f (i+1)else i
def eU(W:ct):Nat:=si W (Dc W+1) 0
theorem Dd(W:ct):∀f i,Dc W<f+i->mB W (si W f i:Int)=eR/\i<=si W f i/\∀j,i<=j->j<si W f i->mB W (j:Int)=eL
 |0,i,h=>by
  refine⟨?_,qm _,λj g d=>absurd d (by unfold si;omega)⟩;cases e:mB W ((si W 0 i:Nat):Int)with
  |false=>rfl
  |true=>have:=PT e;unfold si at this;omega
 |f+1,i,h=>by
  unfold si;cases e:mB W (i:Int)with
  |false=>rw[g0 i5];exact⟨e,qm _,λj g d=>i4⟩
  |true=>
   rw[f9 rfl];obtain⟨a,b,c⟩:=Dd W f (i+1) i4;refine⟨a,i4,λj g d=>?_⟩;by_cases k:j=i
   ·rw[k];exact e
   ·exact c j i4 d
theorem acR(W:ct):mB W (eU W:Int)=eR:=(Dd W _ 0 i4).1
theorem IV{W:ct}{j:Nat}(h:j<eU W):mB W (j:Int)=eL:=(Dd W _ 0 i4).2.2 j (zt _) h
theorem ZS{W:ct}{i:Nat}(b:mB W (i:Int)=eR)(a:∀j,j<i->mB W (j:Int)=eL):eU W=i:=by
 rcases Nat.lt_trichotomy (eU W) i with h|h|h
 ·have:=a _ h;rw[acR W]at this;cases this
 ·exact h
 ·have:=IV h;rw[b]at this;cases this
theorem Vn(W:ct):eU W<=Dc W+1:=by
 cases e:eU W with
 |zero=>omega
 |succ n=>have:=PT (IV (W:=W) (j:=n) i4);omega
def gm(live:aC)(s:Int):Int:=match live.idxOf? s with|some k=>(k:Int)|none=>-1
def jB(m:aG)(c:bf)(w:Pow)(ds:aJ)(s:Int)(d:bt):Int×Pow×aJ:=
 let r:=ge m w d 1
 if r.1≠0 then(r.1,r.2.1,bQ ds s r.2.2)else
  let q:=r.2.2.append r.2.1 c
  (q.1,q.2.1,bQ (bQ ds s r.2.2) s q.2.2)
def gG(m:aG)(live set:aC)(order:aC)(c:bf)(id:Nat)(w:Pow)(ds:aJ):List Nat->(Int×Pow×aJ)×Int×Int
 |[]=>((7,w,ds),0,0)
 |i::l=>
  let s:=gj order ((id:Int)+i)
  match bh ds s with
  |none=>gG m live set order c id w ds l
  |some d=>if gm live s∈set∨iu m d 1=eR then gG m live set order c id w ds l
   else(jB m c w ds s d,gm live s,s)
structure jC where
 o:Int
 b:Int
 seed:Int
 M:aP
 W:ct
 got:aC
 deriving Inhabited
def jC.Ol(x:jC)(m:aG)(id:Nat):dm:=⟨x.o,x.b,id,m.p,x.seed,if bZ id then fW m.p.2.2.toNat x.M (dz (bK m.p).toNat x.seed id)else[]⟩
def jC.De(x:jC)(id:Nat)(k s:Int):jC:={x with W:=x.W.set k.toNat (x.W.getD k.toNat []++[(id:Int)]),got:=x.got++[s]}
def fb(m:aG)(live set:aC)(w:Pow)(ds:aJ)(x:jC):Int×Pow×aJ×jC:=
 let id:=eU x.W;let o:=fy x.o x.b live;let r:=gG m live set o (dG (x.Ol m id)) id w ds (qy o.length)
 (r.1.1,r.1.2.1,r.1.2.2,if r.1.1=0 then x.De id r.2.1 r.2.2 else x)
def dF(m:aG)(live:aC)(t most:Int):Nat->Pow->aJ->jC->Int×Pow×aJ×jC
 |0,w,ds,x=>(12,w,ds,x)
 |f+1,w,ds,x=>
  let r:=gF m.p x.seed x.W t
  if r.2.2≠0 then(r.2.2,w,ds,x)else if r.2.1=eR then(0,w,ds,x)else if(ii x.got:Int)>=most then(12,w,ds,x)else
   let q:=fb m live r.1 w ds x
   if q.1≠0 then q else dF m live t most f q.2.1 q.2.2.1 q.2.2.2
end Wl
namespace Go.Qw
open Go Go.Vc Go.Proofs Wl
theorem PU(s:Sl)(l:Row)(c:UInt8)(h:f8)(p:Rd h s 1 aF l)(y:s.len<=s.cap)(u:ii l<=2^30):
  ac xB 274 #[s,xq xy c.toNat] h λv h'=>∃k:Nat,v=xr s.ptr k s.cap/\k<=ii l/\(∀j (f:j<ii l),k<=j->l[j]=c)/\(∀(d:k-1<ii l),0<k->l[k-1]≠c)/\h'=h:=by
 refine BA s _ ?_;unfold pR;have o:=p.len;refine bj ?_;refine aA (λk:Nat=>(⟨s.ptr,k,s.cap⟩:Sl)) (λk h'=>h'=h/\k<=ii l/\∀j (f:j<ii l),k<=j->l[j]=c) (λk=>k) l.length (by rw[<-o]) ⟨i0,qm _,λj f d=>i4⟩ ?_;rintro k w ⟨rfl,d,b⟩;dsimp only;refine bj (ai (λe=>?_) λe=>?_)
 ·have q:0<k:=i4
  rw[al _];refine(p.take k d).bH (g:=λx:UInt8=>Value.int .u8 x.toNat) (k-1) i4 i7 (l[k-1]'(by omega)) (by simp[aF]) ?_|>λ⟨a,ha,x,hx,hK⟩=>⟨a,ha,x.toNat,hx,hK⟩
  refine cy (λm=>?_) (λm=>?_)
  ·have i:l[k-1]'(by omega)=c:=by
    have:(l[k-1]'(by omega)).toNat=c.toNat:=by exact_mod_cast m
    exact wL.1 this
   refine⟨⟨i4,i4⟩,k-1,by congr 1;omega,⟨i0,i4,λj f r=>?_⟩,i4⟩;by_cases n:j=k-1
   ·subst n;exact i
   ·exact b j f i4
  ·refine⟨k,i0,d,b,λ_ _ t=>m (by rw[t]),i0⟩
 ·exact⟨k,i0,d,b,λ_ h0=>i4,i0⟩
theorem Sk(s:Sl)(l:Row)(c:UInt8)(h:f8)(p:Rd h s 1 aF l)(A:s.len<=s.cap)(E:ii l<=2^30):
  ac xB 273 #[s,xq xy c.toNat] h λv h'=>(∃r:Sl,v=r/\(r.len=0↔∀x∈l,x=c))/\h'=h:=by
 refine CQ s _ ?_;unfold rP;have w:=p.len;refine bX (λr h'=>h'=h/\(r.len=0↔∀x∈l,x=c)) ?_ ?_
 ·refine aA (λt:Sl×Nat=>t.1) (λt h'=>h'=h/\t.2<=ii l/\(∀j (d:j<ii l),j<t.2->l[j]=c)/\Rd h t.1 1 aF (l.drop t.2)/\t.1.len<=t.1.cap) (λt=>ii l-t.2) (s,0) i0 ⟨i0,i9,λj _ d=>i4,o8,A⟩ ?_;rintro⟨r,k⟩ z ⟨rfl,D,a,b,o⟩;dsimp only at*;have g:=b.len;rw[ze]at g;refine bj (ai (λe=>?_) λe=>?_)
  ·have i:k<ii l:=i4
   refine b.bH 0 i0 l4 _ i0 ?_;have q:(l.drop k)[0]'(by rw[ze];omega)=l[k]:=i9
   rw[q];refine cy (λm=>?_) (λm=>?_)
   ·have f:l[k]=c:=by
     have:(l[k]).toNat=c.toNat:=by exact_mod_cast m
     exact wL.1 this
    refine⟨⟨i4,i4⟩,(⟨if r.cap=1 then r.ptr else r.ptr.map (·.add (1*1)),r.len-1,r.cap-1⟩,k+1),i0,⟨i0,i4,λj d n=>?_,?_,i6⟩,i6⟩
    ·rcases zr.1 n with h2|rfl
     ·exact a j d h2
     ·exact f
    ·have:=b.drop 1 o;rw[zI]at this;exact this
   ·refine⟨i0,⟨λh0=>i4,λB=>absurd ?_ m⟩⟩;rw[B _ (qg i)]
  ·have u:k=ii l:=i4
   refine⟨i0,⟨λ_ x y=>?_,λ_=>by show r.len=0;omega⟩⟩;obtain⟨j,d,rfl⟩:=qK y;exact a j d i4
 ·rintro r z ⟨rfl,b⟩;refine cy (λe=>?_) (λe=>?_)
  ·exact⟨⟨⟨eH,0,0⟩,i0,by rw[<-b];exact⟨λ_=>i4,λ_=>rfl⟩⟩,i0⟩
  ·exact⟨⟨r,i0,b⟩,i0⟩
theorem Rj(s:Sl)(l:Row)(cut:ByteArray)(a:cut=⟨#[0]⟩)(h:f8)(c:Rd h s 1 aF l)(q:s.len<=s.cap)(m:ii l<=2^30):
  ac xB 221 #[s,xu cut] h λv h'=>(∃r:Sl,v=r/\(r.len=0↔∀x∈l,x=0))/\h'=h:=by
 subst a;refine PC s _ ?_;unfold Ik;have t:=c.len;refine cy (λe=>?_) (λe=>?_)
 ·refine⟨⟨⟨eH,0,0⟩,i0,⟨λ_ x b=>?_,λ_=>rfl⟩⟩,i0⟩;have:l=[]:=List.eq_nil_of_length_eq_zero i4;subst this;cases b
 ·refine Af j4 (bj (GS j4 ?_));refine⟨0,⟨i5,i0⟩,GS i5 ?_⟩;refine⟨0,⟨i5,i0⟩,0,⟨i5,i0⟩,?_⟩;refine(PU s l 0 h c q m).mono ?_;rintro v p ⟨k,rfl,g,i,h3,rfl⟩;refine⟨⟨s.ptr,k,s.cap⟩,i0,trivial,?_⟩;refine(Sk ⟨s.ptr,k,s.cap⟩ (l.take k) 0 p (c.take k g) (by show k<=s.cap;omega) i7).mono ?_;rintro v u ⟨⟨r,rfl,n⟩,rfl⟩;refine⟨r,i0,trivial,⟨r,i0,n.trans ⟨λd x b=>?_,λd x b=>d x (zA b)⟩⟩,i0⟩;obtain⟨j,f,rfl⟩:=qK b;by_cases o:j<k
  ·exact d _ (by rw[List.mem_take_iff_getElem];exact⟨j,i4,i0⟩)
  ·exact i j f i4
def qv(x:Sl×Sl):bg:=[x.1,x.2]
theorem acS:∀x,∀c∈qv x,c.oneCell'=eL:=λx c a=>by
 simp only[qv,zb,List.not_mem_nil,or_false]at a;rcases a with rfl|rfl<;>rfl
def jL:jn (Sl×Sl) fv:=⟨λh q a e=>Seq h q a.1 1 av e.1/\Seq h q a.2 1 aF e.2,λa c=>⟨a.1.aj c,a.2.aj c⟩,λa b=>⟨a.1.mono b,a.2.mono b⟩⟩
abbrev sj:jn Sl (List fv):=bO jL 2 qv
abbrev ajT:jn Sl aP:=bO (uD 1 aF) 1 bw
abbrev eQ:bY C.toDi 273 275 2 [xr eH 0 0,xr eH 0 0] 48:=⟨_,_,i0,i0,i0,i0,i0,i0⟩
abbrev acT:bY C.toDi 85 34 1 [xr eH 0 0] 24:=⟨_,_,i0,i0,i0,i0,i0,i0⟩
abbrev agI:bY C.toDi 282 4 1 [xv eR] 1:=⟨_,_,i0,i0,i0,i0,i0,i0⟩
theorem sj.get{h:f8}{q:aD}{s:Sl}{L:List fv}(x:sj.p h q s L){i:Int}(n:Nat)(b:i=n)(e:n<ii L){K:Sl×Sl->Prop}(c:∀r,jL.p h q r L[n]->K r):
  ∃a:eX,(s.ptr=dB a/\0<=i/\i<((s.len:Nat):Int))/\∃x:Sl×Sl,aq h (a.add (i.toNat*2)) 0 [x.1,x.2]/\K x:=by
 obtain⟨rs,d,f,h3⟩:=bO.kt x;exact d.eu (g:=qv) n b i4 (rs[n]'(by omega)) i0 (c _ (h3 n i4 e))
structure Bd (h:f8) (p:eX) (l k v:Sl) (L:List fv) (kn:List Bool) (vs:aP):Prop where
 box:cx h p 326 [l,k,v]
 eqs:dW sj h l L
 known:Rd h k 1 fi kn
 vals:dW ajT h v vs
theorem Bd.up{h h':f8}{p:eX}{l k v:Sl}{L:List fv}{kn:List Bool}{vs:aP}(x:Bd h p l k v L kn vs)(a:be (λb=>b<h.size) h h'):Bd h' p l k v L kn vs:=
 ⟨x.box.aj a x.box.lt,dW.up x.eqs a,Seq.up x.known a,dW.up x.vals a⟩
theorem Vo{kn:List Bool}{c:Int}(b:0<=c)(a:c.toNat<ii kn):Wl.kn kn c=kn[c.toNat]:=by unfold Wl.kn;rw[qe,qd a];rfl
theorem mU{m:aP}{i:Nat}(h:i<ii m):aE m i=m[i]:=bE h
theorem jY{α:Type}(f:α->Bool)(l:List α){k:Nat}(a:k<ii l):(l.take (k+1)).filter f=(l.take k).filter f++if f l[k]then[l[k]]else[]:=by rw[aK _ _ a,zm,zq];cases f l[k]<;>rfl
theorem uz(V:aP)(a:Row)(l:aC)(c:Int):cW V a (l++[c])=cX 1 (aE V c.toNat) (cW V a l):=by unfold cW;rw[zN];rfl
theorem Yj(a t:Row):cX 1 a t=zi (λx y=>y^^^x) a t:=by unfold cX;congr 1;funext x y;rw[Gf.one_mul]
theorem IW{a t:Row}(c:ii a=ii t){k:Nat}(b:k<ii t:=by omega):(zi (λx y=>y^^^x) (a.take k) (t.take k)++t.drop k).set k (t[k]^^^(a[k]'(by omega)))=zi (λx y=>y^^^x) (a.take (k+1)) (t.take (k+1))++t.drop (k+1):=by
 have d:ii (zi (λx y=>y^^^x) (a.take k) (t.take k))=k:=i7
 rw[qV _ _ i4,d,zc,qP b,zo,aK _ _ b,aK _ _ (show k<ii a by omega),yE i7];simp
theorem Vp(p:eX)(l k v:Sl)(L:List fv)(kn:List Bool)(vs:aP)(n:Nat)(h:f8)(t:Bd h p l k v L kn vs)(J:ii kn=n)(P:∀e∈L,∀c∈e.1,0<=c/\c<(n:Int))(S:ii L<=2^30)(w:∀e∈L,ii e.1<=2^30):
  ac xB 306 #[xt (dB p)] h λv h'=>(∃i:Int,v=xq xx i/\(0<=i->∃(M:i.toNat<ii L),ii ((L[i.toNat]).1.filter λc=>!Wl.kn kn c)=1))/\Sp h h' []:=by
 refine Fa (dB p) ?_;unfold uv;have Q:=bO.len t.eqs;refine⟨p,i0,l,t.box.cell0 i0,?_⟩;refine aA (λi:Nat=>(i:Int)) (λi h'=>i<=ii L/\Sp h h' []) (λi=>ii L-i) 0 i0 ⟨i4,Sp.refl h⟩ ?_;rintro i O ⟨M,A⟩;refine ai (λe=>?_) λe=>⟨⟨-1,i0,λV=>i4⟩,A⟩;have g:i<ii L:=i4
 refine sj.get (dW.up t.eqs A.aj) i i0 g λx N=>?_;refine(Sp.refl O).alloc af i0 λa T F=>?_;refine F.storeAll af 0 i0 i0 (qv x) i0 i0 i0 i0 λh3 u=>?_;have D:=up A.aj u.aj;have o:=t.up D;have r:=jL.mono (jL.loc N u.aj) λb K=>qW K u.aj.1;have B:=u.box 0 i0;refine⟨x.1,B.cell0 i0,?_⟩;have H:=r.1.len;have E:=w _ (qg g);let d:Nat->Nat:=λj=>ii (((L[i]).1.take j).filter λc=>!Wl.kn kn c);refine aA (λj:Nat=>(((d j:Nat):Int),(j:Int))) (λj h'=>h'=h3/\j<=(L[i]).1.length) (λj=>(L[i]).1.length-j) 0 p8 ⟨i0,i4⟩ ?_;rintro j U ⟨rfl,R⟩;dsimp only;have G:d j<=j:=zf (qR _ _) i7;refine ai (λI=>?_) (λI=>?_)
 ·have f:j<(L[i]).1.length:=i4
  have y:=P _ (qg g) _ (qg f);refine r.1.bH j i0 f _ i0 ?_;refine⟨p,i0,k,o.box.cell i0,?_⟩;refine o.known.bH (L[i]).1[j].toNat i4 i4 _ i0 ?_;rw[al ((j:Int)+1),al _];have s:=Vo (kn:=kn) y.1 i4;refine bo (λm=>?_) (λm=>?_)
  ·refine⟨j+1,?_,⟨i0,i4⟩,i4⟩;have:d (j+1)=d j+1:=by simp only[d];rw[jY _ _ f,s,m];simp
   rw[this];rfl
  ·refine⟨j+1,?_,⟨i0,i4⟩,i4⟩;have:d (j+1)=d j:=by simp only[d];rw[jY _ _ f,s,m];simp
   rw[this];rfl
 ·have z:j=(L[i]).1.length:=i4
  subst z;have q:d (L[i]).1.length=ii ((L[i]).1.filter λc=>!Wl.kn kn c):=by simp only[d];rw[qY]
  rw[q];refine cy (λm=>⟨⟨i,i0,λ_=>⟨i4,by exact_mod_cast m⟩⟩,.zip D⟩) λm=>?_;exact⟨i+1,js,⟨i4,.zip D⟩,i4⟩
theorem Rk(p:eX)(l k v:Sl)(L:List fv)(kn:List Bool)(vs:aP)(n w:Nat)(x:Sl×Sl)(e:fv)(h:f8)(Z:Bd h p l k v L kn vs)(M:kp n w L kn vs)(W:dW jL h x e)(I:jf n w e)(hw:w<=2^20)(ap:ii e.1<=2^20):
  ac xB 265 #[xt (dB p),xw #[x.1,x.2]] h λr h'=>∃a b:Sl,r=xw #[a,b]/\Sp h h' [ak 3 a 1 av (fA kn vs e).1,ak 5 b 1 aF (fA kn vs e).2]:=by
 refine EZ (dB p) x ?_;unfold uu;refine(Sp.refl h).boxed λV h1 H1=>?_;refine H1.alloc af i0 λa2 h2 S=>?_;have P2:=S.aj;refine⟨x.2,(S.box 0 i0).cell i0,(fa x.2 e.2 h2 (Seq.up W.2 P2) (by have:=I.len;omega)).mono ?_⟩;rintro vv h3 ⟨d,rfl,R3⟩;have H3:=S.comp R3;refine⟨d,i0,H3.alloc af i0 λa5 h4 H4=>?_⟩;refine H4.storeAll af 3 i0 i0 (qv (⟨eH,0,0⟩,d)) i0 i0 i0 i0 λh5 H5=>?_;have X:Sp h h5 [au V 275 (qv x),au a2 275 [xr eH 0 0,xr eH 0 0],ak 5 d 1 aF e.2,au a5 275 (qv (⟨eH,0,0⟩,d)),ak 3 ⟨eH,0,0⟩ 1 av []]:=H5.nil 3 1 av;refine⟨x.1,(X.box 0 i0).cell0 i0,?_⟩;have ah:=W.1.len;have ad:=M.klen;have am:=M.vlen;refine aA (λt:Nat×Sl=>(t.1:Int)) (λt h'=>t.1<=ii e.1/\Sp h h' [au V 275 (qv x),au a2 275 [xr eH 0 0,xr eH 0 0],ak 5 d 1 aF (cW vs e.2 ((e.1.take t.1).filter λc=>Wl.kn kn c)),au a5 275 (qv (t.2,d)),ak 3 t.2 1 av ((e.1.take t.1).filter λc=>!Wl.kn kn c)]) (λt=>ii e.1-t.1) (0,⟨eH,0,0⟩) i0 ⟨i9,by simpa[cW]using X⟩ ?_;rintro⟨j,o⟩ h7 ⟨hj,q⟩;dsimp only at*;have s:ii (cW vs e.2 ((e.1.take j).filter λc=>Wl.kn kn c))=w:=ko I.len λc hc=>by
  have G:=qI.1 hc;have F:=zA G.1;exact M.Hz (I.cY c F).1 (I.cY c F).2 G.2
 have ab:ii ((e.1.take j).filter λc=>!Wl.kn kn c)<=j:=zf (qR _ _) i7;refine ai (λe2=>?_) (λe2=>?_)
 ·have f:j<ii e.1:=i4
  have u:=I.cY _ (qg f);have z:=Z.up q.aj;refine(Seq.up W.1 q.aj).bH j i0 f _ i0 ?_;refine⟨p,i0,k,z.box.cell i0,?_⟩;refine z.known.bH (e.1[j]).toNat i4 i4 _ i0 ?_;have E:=Vo (kn:=kn) u.1 i4;refine bo (λB=>?_) (λB=>?_)
  ·rw[<-E]at B;refine⟨o,(q.box 3 i0).cell0 i0,?_⟩;refine q.push af 4 i0 gN i0 i5 (λ_=>rfl) fD e.1[j] i0 i5 i4 λY h8 i=>?_;refine i.kg af 3 i0 i0 [Y] i0 i0 i0 (by simp[qv]) λh9 K=>?_;refine⟨(j+1,Y),jj,⟨i6,?_⟩,i6⟩;dsimp only;rw[jY _ _ f,jY _ _ f,B];simp only[Bool.not_false,if_true,zj,if_false,qO];exact K
  ·rw[<-E]at B;have H:=M.Hz u.1 u.2 B;rw[mU i4]at H;refine⟨p,i0,v,z.box.cell i0,?_⟩;obtain⟨vr,U,ar,O⟩:=bO.kt Z.vals;have g:(e.1[j]).toNat<ii vs:=i4
   refine(Seq.up U q.aj).mq (e.1[j]).toNat i4 i4 ?_;have N:=(O (e.1[j]).toNat i4 g).1;have J:=N.len;generalize vr[(e.1[j]).toNat]'(by omega)=y at N J⊢;obtain⟨A,hA⟩:∃A,A=vs[(e.1[j]).toNat]'g:=⟨_,rfl⟩
   obtain⟨D,hD⟩:∃D,D=cW vs e.2 ((e.1.take j).filter λc=>Wl.kn kn c):=⟨_,rfl⟩
   rw[<-hA]at H N J;rw[<-hD]at q s;refine aA (λm:Nat=>(m:Int)) (λm h'=>m<=w/\Sp h h' [au V 275 (qv x),au a2 275 [xr eH 0 0,xr eH 0 0],ak 5 d 1 aF (zi (λx y=>y^^^x) (A.take m) (D.take m)++D.drop m),au a5 275 (qv (o,d)),ak 3 o 1 av ((e.1.take j).filter λc=>!Wl.kn kn c)]) (λm=>w-m) 0 i0 ⟨i4,qs⟩ ?_;rintro m h8 ⟨hm,i⟩;have P:ii (zi (λx y=>y^^^x) (A.take m) (D.take m))=m:=i7
   refine ai (λe4=>?_) (λe4=>?_)
   ·have ao:m<w:=i4
    refine(Seq.up N i.aj).bH m i0 i4 _ i0 ?_;refine⟨d,(i.box 3 i0).cell i0,?_⟩;refine(i.seq 2 i0 λ_=>rfl).bH m i0 i7 _ i0 ?_;have T:((zi (λx y=>y^^^x) (A.take m) (D.take m)++D.drop m)[m]'(by simp;omega))=D[m]'(by omega):=by rw[zY i4];simp[P]
    rw[T,nE];refine i.set af 2 i0 (λ_=>rfl) i0 m i0 i7 (D[m]'(by omega)^^^A[m]'(by omega)) i0 i0 i0 λh9 K=>?_;rw[IW i4]at K;exact⟨m+1,js,⟨i4,K⟩,i4⟩
   ·have Q:m=w:=i4
    subst Q;refine⟨(j+1,o),jj,⟨i6,?_⟩,i6⟩;dsimp only;rw[jY _ _ f,jY _ _ f,B];simp only[Bool.not_true,if_true,zj,if_false,qO];rw[uz,mU g,<-hA,<-hD,Yj];rw[qi i4,qi i4,zg i4,qO]at i;exact i
 ·have R:j=ii e.1:=i4
  subst R;rw[qY]at q;refine⟨(o,d),(q.box 3 i0).aU _ i0,?_⟩;refine q.storeAll af 1 i0 i0 (qv (o,d)) i0 i0 i0 i0 λh8 i=>?_;refine⟨(o,d),(i.box 1 i0).aU _ i0,o,d,i0,?_⟩;exact i.cG [4,2]
theorem aa.akl{B:aD}{c h:f8}{As:List HP}{e k:Nat}{α:Type}{f:α->bg}{s:Sl}{l:List α}(H:aa B c h As)(i:Nat)(g:As[i]?=dB (ak e s k f l))(j:∀x,ii (f x)=k)(d:l≠[]):aa B c h (As.set i (EA (uD k f) s l)):=
 H.fZ i g λq ⟨a,b⟩=>⟨a.seq j b,λm=>absurd m d⟩
theorem count_set{l:List Bool}:∀{i:Nat} (h:i<ii l),l[i]=eR->((l.set i eL).count eR)+1=l.count eR:=by
 induction l with
 |nil=>intro i h;simp at h
 |cons a l ih=>
  intro i h b;cases i with
  |zero=>simp at b;subst b;simp
  |succ i=>
   have:=ih (i:=i) j5 j7;rw[zw,List.count_cons,List.count_cons];omega
theorem acU(p:eX)(l k v:Sl)(L:List fv)(n w:Nat)(z h:f8)(Q:dW sj z l L)(D:∀e∈L,jf n w e)(hn:n<=64)(T:ii L<=2^20)(Z:1<=w/\w<=2^20)(o:∀e∈L,ii e.1<=2^20)
  (H:Sp z h [au p 326 [l,k,v],ak 4 k 1 fi (qh n eR),cg 34 v 1 bw (uD 1 aF) (qh n [])]):
  ac xB 264 #[xt (dB p)] h λr h'=>r=.tuple #[]/\∃kn vs,kp n w L kn vs/\Sp z h' [au p 326 [l,k,v],ak 4 k 1 fi kn,cg 34 v 1 bw (uD 1 aF) vs]:=by
 refine GH (dB p) ?_;unfold vq;refine aA (λ_:List Bool×aP=>()) (λt h'=>kp n w L t.1 t.2/\Sp z h' [au p 326 [l,k,v],ak 4 k 1 fi t.1,cg 34 v 1 bw (uD 1 aF) t.2]) (λt=>t.1.count eR) (qh n eR,qh n []) i0 ⟨Zc n w L,H⟩ ?_;rintro⟨kn,vs⟩ M ⟨j,O⟩;dsimp only at*;have K:=j.klen;have R:=j.vlen;have mk:∀{s},Sp z s [au p 326 [l,k,v],ak 4 k 1 fi kn,cg 34 v 1 bw (uD 1 aF) vs]->Bd s p l k v L kn vs:=λf=>
  ⟨f.box 0 i0,dW.up Q f.aj,f.seq 1 i0 λ_=>rfl,f.Qi 2 i0 λ_=>rfl⟩
 refine(Vp p l k v L kn vs n M (mk O) K (λe N=>(D e N).cY) i4 λe N=>by have:=o e N;omega).mono ?_;rintro _ s ⟨⟨i,rfl,V⟩,U⟩;refine⟨i,i0,?_⟩;have f:=O.up U.aj;refine ai (λe=>⟨i0,kn,vs,j,f⟩) λe=>?_;have J:0<=i:=Int.not_lt.1 e;obtain⟨y,B⟩:=V J;have g:=mk f;refine⟨p,i0,l,g.box.cell0 i0,?_⟩;refine sj.get g.eqs i.toNat i4 y λx W=>?_;have d:=qg y;refine(Rk p l k v L kn vs n w x L[i.toNat] s g j W (D _ d) Z.2 (o _ d)).mono ?_;rintro _ h3 ⟨a,b,rfl,Y⟩;refine⟨(a,b),i0,?_⟩;obtain⟨c,E⟩:∃c,(fA kn vs L[i.toNat]).1=[c]:=by
  have M:(fA kn vs L[i.toNat]).1.length=1:=B
  match s:(fA kn vs L[i.toNat]).1,M with
  |[c],_=>exact⟨c,i0⟩
 have q:=j.Dm (D _ d);have G:=q.cY c (by rw[E];simp);have u:Wl.kn kn c=eR:=HB j L[i.toNat] c (by rw[E];simp);rw[Vo G.1 i4]at u;have P:=f.comp Y;rw[E]at P;refine P.alloc af i0 λa8 h4 H4=>?_;refine H4.storeAll af 5 i0 i0 (qv (a,b)) i0 i0 i0 i0 λh5 m=>?_;refine⟨p,i0,k,(m.box 0 i0).cell i0,a,(m.box 5 i0).cell0 i0,?_⟩;have A:=m.seq 3 i0 λ_=>rfl;refine A.bH 0 i0 i9 c i0 ?_;refine⟨p,i0,v,(m.box 0 i0).cell i0,a,(m.box 5 i0).cell0 i0,?_⟩;refine A.bH 0 i0 i9 c i0 ?_;refine⟨b,(m.box 5 i0).cell i0,?_⟩;refine m.set af 1 i0 (λ_=>rfl) i0 c.toNat i4 i4 eL i0 i0 i0 λh6 F=>?_;refine⟨⟨(F.box 5 i0).cell i0,(F.box 5 i0).cell0 i0,trivial⟩,?_⟩;have I:(fA kn vs L[i.toNat]).2≠[]:=λhh=>by have:=q.len;rw[hh]at this;simp at this;omega
 have S:=aa.akl F 4 i0 (λ_=>rfl) I;refine S.akd af 2 4 i5 i0 i0 (λ_=>rfl) i0 c.toNat i4 i4 i0 i0 i0 λh8 X=>⟨trivial,?_⟩
 refine⟨(kn.set c.toNat eL,vs.set c.toNat (fA kn vs L[i.toNat]).2),i0,⟨abv j D d E,X.cG [0,1,2]⟩,?_⟩;have:=count_set (l:=kn) (i:=c.toNat) i4 u;dsimp only;omega
theorem WZ(s:Sl)(l:Row)(h:f8)(a:Rd h s 1 aF l)(b:s.len<=s.cap)(c:ii l<=2^30):
  ac xB 266 #[s] h λv h'=>v=xv (!(l.any (· !=0)))/\h'=h:=by
 refine NB s ?_;unfold Gs;refine(Rj s l _ i0 h a b c).mono ?_;rintro _ e ⟨⟨r,rfl,d⟩,rfl⟩;refine⟨r,i0,?_,i0⟩;congr 1;rw[vB];simp only[beq_iff_eq,Bool.not_eq_true',wF,bne_iff_ne,ne_eq,Decidable.not_not];rw[<-d];omega
def PW(l:aC):Prop:=∀i (h:i+1<ii l),l[i]<l[i+1]
theorem Sm(n:Nat)(l:Sl)(L:List fv)(w:Nat)(h:f8)(r:dW sj h l L)(B:∀e∈L,jf n w e/\PW e.1)(hn:n<=64)(R:ii L<=2^20)(s:∀e∈L,ii e.1<=2^20):
  ac xB 263 #[xq xx n,l] h λv h'=>v=xv eL/\Sp h h' []:=by
 refine PE _ l ?_;unfold Io;have Y:=bO.len r;refine bj (ai (λe=>i4) λ_=>ai (λe=>i4) λ_=>?_);refine aA (λi:Nat=>(i:Int)) (λi h'=>i<=ii L/\Sp h h' []) (λi=>ii L-i) 0 i0 ⟨i4,Sp.refl h⟩ ?_;rintro i X ⟨hi,u⟩;refine ai (λe=>?_) λe=>⟨i0,u⟩;have d:i<ii L:=i4
 refine sj.get (dW.up r u.aj) i i0 d λx V=>?_;refine(Sp.refl X).alloc af i0 λa h2 I=>?_;refine I.storeAll af 0 i0 i0 (qv x) i0 i0 i0 i0 λh3 p=>?_;have G:=up u.aj p.aj;have c:=jL.mono (jL.loc V p.aj) λb U=>qW U p.aj.1;have f:=p.box 0 i0;refine⟨x.1,f.cell0 i0,?_⟩;have N:=c.1.len;have H:=s _ (qg d);obtain⟨k,t⟩:=B _ (qg d);refine aA (λj:Nat=>(j:Int)) (λj h'=>h'=h3/\j<=(L[i]).1.length) (λj=>(L[i]).1.length-j) 0 i0 ⟨i0,i4⟩ ?_;rintro j D ⟨rfl,hj⟩;refine ai (λT=>?_) (λT=>?_)
 ·have m:j<(L[i]).1.length:=i4
  have O:=k.cY _ (qg m);refine c.1.bH j i0 m _ i0 ?_;refine ai (λe=>i4) λ_=>ai (λe=>i4) λ_=>?_;have E:∃q:Nat,qc xx ((j:Int)+1)=(q:Int)/\(D=D/\q<=(L[i]).1.length)/\(L[i]).1.length-q<(L[i]).1.length-j:=⟨j+1,js,⟨i0,i4⟩,i4⟩
  refine ai (λS=>?_) λS=>E;refine⟨x.1,f.cell0 i0,?_⟩;rw[al ((j:Int)-1)];refine c.1.bH (j-1) i4 i4 _ i0 ?_;have F:=t (j-1) i4;have P:(L[i]).1[j-1+1]'(by omega)=(L[i]).1[j]:=by congr 1;omega
  rw[P]at F;exact ai (λe=>absurd F i4) λ_=>E
 ·refine⟨x.2,f.cell i0,?_⟩;obtain⟨rs,J,h8,M⟩:=bO.kt (dW.up r G);have A:=(M 0 i4 i4).2.len;obtain⟨z,Q,y,Z,W⟩:=J.eu (g:=qv) (i:=(0:Int)) 0 rfl i4 (rs[0]'(by omega)) rfl (K:=λy=>y.2.len=w) (by rw[A];exact(B _ (qg (show 0<ii L by omega))).1.len);refine⟨z,Q,y.2,?_,?_⟩
  ·exact Z.2.1
  have o:=c.2.len;rw[k.len]at o;refine cb (λe=>absurd (by rw[o,W]) e) λ_=>?_;exact⟨i+1,js,⟨i4,.zip G⟩,i4⟩
theorem aa.acV{B:aD}{m h:f8}{As:List HP}{e k:Nat}{α β:Type}{E:jn α β}{f:α->bg}{s:Sl}{n:Nat}{a:α}{b:β}(H:aa B m h As)(i:Nat)(t:As[i]?=dB (ak e s k f (qh n a)))(v:∀h,E.p h (λ_=>False) a b):aa B m h (As.set i (cg e s k f E (qh n b))):=
 H.fZ i t λq ⟨x,y⟩=>⟨_,λ_=>False,x,λc u=>⟨y c u,λh=>h⟩,λ_ h=>h.elim,i9,λj r l d g=>by
  rw[we]at d g;split at d
  ·rename_i o;rw[f9 o]at g;cases d;cases g;exact v h
  ·cases d⟩
theorem aa.akm{B:aD}{k h:f8}{As:List HP}{e n:Nat}{a b:Sl}{l:aC}{r:Row}(H:aa B k h As)(i j:Nat)(d:i≠j)(o:As[i]?=dB (ak e a 1 av l))(m:As[j]?=dB (ak n b 1 aF r)):aa B k h ((As.set i (EA jL (a,b) (l,r))).set j emp):=
 H.merge i j d o m λp q _ f g=>⟨f.1.seq (λ_=>rfl) λx c=>.inl (f.2 x c),g.1.seq (λ_=>rfl) λx c=>.inr (g.2 x c)⟩
theorem acW(kn:List Bool)(vs:aP)(L:List fv){i:Nat}(a:i<ii L):bn kn vs (L.take (i+1))=if(fA kn vs L[i]).1.isEmpty then bn kn vs (L.take i)else bn kn vs (L.take i)++[fA kn vs L[i]]:=by unfold bn;rw[aK _ _ a,qU,zm];cases h:(fA kn vs L[i]).1.isEmpty<;>simp[h]
theorem ZT(kn:List Bool)(vs:aP)(L:List fv){i:Nat}(a:i<ii L):kP kn vs (L.take (i+1))=(kP kn vs (L.take i)||((fA kn vs L[i]).1.isEmpty&&(fA kn vs L[i]).2.any (· !=0))):=by unfold kP;rw[aK _ _ a,qU,yT];simp
theorem ZU{kn:List Bool}{vs:aP}{L:List fv}{i:Nat}(h:kP kn vs (L.take i)=eL):kP kn vs L=eL:=by rw[<-qE i L];unfold kP at*;rw[qU,yT,h];rfl
theorem acX(l:Sl)(L:List fv)(n w:Nat)(h:f8)(I:dW sj h l L)(N:∀e∈L,jf n w e/\PW e.1)(hn:n<=64)(F:ii L<=2^20)(hw:1<=w/\w<=2^20)(z:∀e∈L,ii e.1<=2^20):
  ac xB 216 #[xq xx n,l] h λr h'=>∃kn vs,kp n w L kn vs/\((kP kn vs L=eL/\r=.tuple #[xr eH 0 0,xr eH 0 0,xr eH 0 0,xq xx 10]/\Sp h h' [])∨
   (kP kn vs L=eR/\∃k v s:Sl,r=.tuple #[k,v,s,xq xx 0]/\Sp h h' [ak 4 k 1 fi kn,cg 34 v 1 bw (uD 1 aF) vs,cg 275 s 2 qv jL (bn kn vs L)])):=by
 refine RV _ l ?_;unfold KB;have ar:=bO.len I;refine(Sm n l L w h I N hn F z).mono ?_;rintro _ h1 ⟨rfl,R1⟩;refine⟨eL,i0,bo (λe=>j0) λ_=>?_⟩;refine bX (λs h'=>∃(p:eX) (k v:Sl),s=dB p/\Sp h h' [au p 326 [l,k,v],ak 4 k 1 fi (qh n eR),cg 34 v 1 bw (uD 1 aF) (qh n [])]) ⟨?_,?_⟩ ?_
 ·refine R1.make af fi agI i5 eR i0 i0 n n i0 i0 (qm _) i4 λk h2 K S Y=>⟨trivial,?_⟩
  refine Y.make af bw acT i5 ⟨eH,0,0⟩ i0 i0 n n i0 i0 (qm _) i4 λv h3 T Q X=>⟨trivial,?_⟩
  refine X.boxed λp O G=>⟨trivial,p,k,v,i0,?_⟩
  exact(aa.acV (E:=uD 1 aF) (b:=[]) G 1 i0 λh=>⟨Seq.nil _ _ _ _ _ _,λ_=>rfl⟩).cG [2,0,1]
 ·refine R1.make af bw acT i5 ⟨eH,0,0⟩ i0 i0 n n i0 i0 (qm _) i4 λv h3 T Q X=>⟨trivial,?_⟩
  refine X.make af fi agI i5 eR i0 i0 n n i0 i0 (qm _) i4 λk h2 K S Y=>⟨trivial,?_⟩
  refine Y.boxed λp O G=>⟨trivial,p,k,v,i0,?_⟩
  exact(aa.acV (E:=uD 1 aF) (b:=[]) G 0 i0 λh=>⟨Seq.nil _ _ _ _ _ _,λ_=>rfl⟩).cG [2,1,0]
 rintro s O ⟨p,k,v,rfl,G⟩;refine(acU p l k v L n w h O I (λe he=>(N e he).1) hn F hw z G).mono ?_;rintro _ h5 ⟨rfl,kn,vs,J,H5⟩;refine⟨(),i0,?_⟩;refine aA (λt:Nat×Sl=>(t.2,(t.1:Int))) (λt h'=>t.1<=ii L/\kP kn vs (L.take t.1)=eR/\Sp h h' [au p 326 [l,k,v],ak 4 k 1 fi kn,cg 34 v 1 bw (uD 1 aF) vs,cg 275 t.2 2 qv jL (bn kn vs (L.take t.1))]) (λt=>ii L-t.1) (0,⟨eH,0,0⟩) i0 ⟨i9,i0,H5.GZ 275 2 qv jL⟩ ?_;rintro⟨i,o⟩ h6 ⟨hi,y,B⟩;dsimp only at*;refine ai (λe=>?_) (λe=>?_)
 ·have j:i<ii L:=i4
  obtain⟨rs,q1,q2,q3⟩:=bO.kt I;have hx:=q3 i i4 j;refine(Seq.up q1 B.aj).eu (g:=qv) i i0 i4 (rs[i]'(by omega)) i0 ?_;generalize rs[i]'(by omega)=x at hx⊢;refine B.alloc af i0 λa h7 H7=>?_;refine H7.storeAll af 4 i0 i0 (qv x) i0 i0 i0 i0 λh8 A=>?_;refine⟨x,(A.box 4 i0).aU _ i0,?_⟩;have Z:Bd h8 p l k v L kn vs:=⟨A.box 0 i0,dW.up I A.aj,A.seq 1 i0 λ_=>rfl,A.Qi 2 i0 λ_=>rfl⟩
  obtain⟨D,-⟩:=N _ (qg j);have M:dW jL h8 x L[i]:=dW.up hx A.aj;refine(Rk p l k v L kn vs n w x L[i] h8 Z J M D hw.2 (z _ (qg j))).mono ?_;rintro _ h9 ⟨c,d,rfl,R9⟩;refine⟨(c,d),i0,?_⟩;have H9:=A.comp R9;refine H9.alloc af i0 λa2 ao ab=>?_;refine ab.storeAll af 7 i0 i0 (qv (c,d)) i0 i0 i0 i0 λR f=>?_;refine⟨c,(f.box 7 i0).cell0 i0,?_⟩;have u:=(f.own 5 i0).len;have ap:ii (bn kn vs (L.take i))<=ii L:=by unfold bn;refine zf (qR _ _) ?_;simp;omega
  have q:=acW kn vs L j;have m:=ZT kn vs L j;refine ai (λe2=>?_) (λe2=>?_)
  ·have V:(fA kn vs L[i]).1.isEmpty=eR:=by
    cases hh:(fA kn vs L[i]).1 with
    |nil=>rw[hh]at u;simp at u;omega
    |cons a l=>rfl
   rw[V]at q m;refine⟨(c,d),(f.box 7 i0).aU _ i0,?_⟩;have P:=aa.akm f 5 6 i5 i0 i0;refine P.tE af 3 5 i5 i0 i0 eQ i0 i5 (λ_=>rfl) acS i0 i5 i4 λo' ah U=>?_;refine⟨(i+1,o'),jj,⟨i6,by dsimp only;rw[m,y];rfl,?_⟩,i6⟩;dsimp only;rw[q];exact U.cG [0,1,2,3]
  ·have W:(fA kn vs L[i]).1.isEmpty=eL:=by
    cases hh:(fA kn vs L[i]).1 with
    |nil=>rfl
    |cons a l=>rw[hh]at u;simp at u;omega
   rw[W]at q m;refine⟨d,(f.box 7 i0).cell i0,?_⟩;refine(WZ d _ R (f.seq 6 i0 λ_=>rfl) (f.own 6 i0).cap (by have:=(J.Dm D).len;omega)).mono ?_;rintro _ am ⟨rfl,rfl⟩;refine⟨_,i0,bo (λH=>?_) λH=>?_⟩
   ·refine⟨kn,vs,J,.inl ⟨ZU (i:=i+1) ?_,i0,f.cG []⟩⟩;rw[m];simp at H;simp[H]
   ·refine⟨(i+1,o),jj,⟨i6,?_,?_⟩,i6⟩
    ·dsimp only;rw[m,y];simp at H;simp;exact H
    ·dsimp only;rw[q];exact f.cG [0,1,2,3]
 ·have ad:i=ii L:=i4
  subst ad;rw[qY]at B y;refine⟨p,i0,k,(B.box 0 i0).cell i0,p,i0,v,(B.box 0 i0).cell i0,kn,vs,J,.inr ⟨y,k,v,o,i0,B.cG [1,2,3]⟩⟩
def lJ(pool:List (Sl×Row)):HP:=⟨λh q=>∀x∈pool,Seq h q x.1 1 aF x.2,λa d x b=>(a x b).aj d,λa c x b=>(a x b).mono c⟩
theorem _root_.Go.Vc.aa.pool{B:aD}{c h:f8}{As:List HP}(H:aa B c h As)(i j:Nat)(b:i≠j){pool:List (Sl×Row)}{r:Sl}{l:Row}(f:As[i]?=dB (lJ pool))(d:As[j]?=dB (uC r 1 aF l)):aa B c h ((As.set i (lJ ((r,l)::pool))).set j emp):=
 H.merge i j b f d λk m _ e g x a=>by
  rcases zb.1 a with rfl|a
  ·exact Seq.mono g λ_ h=>.inr h
  ·exact(e x a).mono λ_ h=>.inl h
theorem _root_.Go.Vc.aa.Om{B:aD}{b h:f8}{As:List HP}(H:aa B b h As)(i:Nat){pool:List (Sl×Row)}(a:As[i]?=dB (lJ pool)){r:Sl}{l:Row}(c:(r,l)∈pool):Rd h r 1 aF l:=(H.at i a) _ c
theorem _root_.Go.Vc.aa.afq{B:aD}{f h:f8}{As:List HP}(H:aa B f h As)(i j:Nat)(d:i≠j){pool:List (Sl×Row)}{s:Sl}{rs:List Sl}{c:aP}(p:As[i]?=dB (ak 34 s 1 bw rs))(g:As[j]?=dB (lJ pool))
  (o:ii rs=ii c) (v:∀(k:Nat) r l,rs[k]?=dB r->c[k]?=dB l->(r,l)∈pool):aa B f h ((As.set i (fS 34 s 1 aF c)).set j emp):=
 H.merge i j d p g λw q m a u=>⟨rs,q,a.1,λb e=>⟨.inl (a.2 b e),m b (a.2 b e)⟩,λ_ h=>.inr h,o,λk r l t n=>u _ (v k r l t n)⟩
def iy(pool:List (Sl×Row))(g:Row->Row)(rs:List Sl)(m:aP):Prop:=ii rs=ii m/\∀(i:Nat) r l,rs[i]?=dB r->m[i]?=dB l->(r,g l)∈pool
theorem iy.get{pool:List (Sl×Row)}{g:Row->Row}{rs:List Sl}{m:aP}(h:iy pool g rs m){i:Nat}(a:i<ii m):(rs[i]'(by rw[h.1];exact a),g m[i])∈pool:=
 h.2 i _ _ (qd _) (qd _)
theorem iy.mono{pool a:List (Sl×Row)}{g:Row->Row}{rs:List Sl}{m:aP}(h:iy pool g rs m)(d:∀x∈pool,x∈a):iy a g rs m:=⟨h.1,λi r l c b=>d _ (h.2 i r l c b)⟩
theorem iy.set{pool:List (Sl×Row)}{g:Row->Row}{rs:List Sl}{m:aP}(h:iy pool g rs m)(i:Nat){r:Sl}{l:Row}(f:(r,g l)∈pool):iy pool g (rs.set i r) (m.set i l):=by
 refine⟨by simp[h.1],λk e l' a b=>?_⟩;rw[q7]at a b;by_cases c:i=k
 ·subst c;rw[f9 rfl]at a b;split at a
  ·rename_i d;rw[f9 (by rw[<-h.1];exact d)]at b;cases a;cases b;exact f
  ·cases a
 ·rw[g0 c]at a b;exact h.2 k e l' a b
theorem _root_.Go.Vc.aa.Fu{B:aD}{n h:f8}{As:List HP}(H:aa B n h As)(i j:Nat){pool:List (Sl×Row)}{e:Nat}{s:Sl}{rs:List Sl}{a:aP}(g:As[i]?=dB (ak e s 1 bw rs))(d:As[j]?=dB (lJ pool))
  (c:iy pool id rs a):iD h (λb=>b<h.size) s 1 aF a rs:=⟨H.seq i g λ_=>rfl,c.1,λk r l m f=>H.Om j d (c.2 k r l m f)⟩
theorem IX{B:aD}{r h:f8}{As:List HP}(s f:eX)(t:UInt8)(g a:Sl)(b c:Row)(H:aa B r h (ak 5 a 1 aF c::As))(G:St B r As λh=>f7 h s=dB (xt (dB f))/\fM h f/\Rd h g 1 aF b)
  (P:ii b=ii c) (T:ii b<=2^30) {K:f8->Prop} (L:∀h',aa B r h' (ak 5 a 1 aF (cX t b c)::As)->K h'):
  aL (σ:=Int) (λd Q i=>
 Br (decide (d<((g.len:Nat):Int)))
 (∃E:eX,(g.ptr=dB E/\0<=d/\d<((g.len:Nat):Int))/\
 ∃F:Int,f7 i (E.add (d.toNat*1))=dB (xq xy F)/\
 ∃u:eX,(a.ptr=dB u/\0<=d/\d<((a.len:Nat):Int))/\
 ∃D:Int,f7 i (u.add (d.toNat*1))=dB (xq xy D)/\
 ∃n:eX,(dB s=dB n)/\
 ∃j:aO,f7 i n=dB (.pointer j)/\
 ae xB 280 #[(.pointer j),(xq xy (t.toNat:Int)),(xq xy F)] (.one (.sc (.int .u8))) i λz A=>
 (az.ok [(u.add (d.toNat*1),(xq xy D))] A)/\
 ∃o:eX,(a.ptr=dB o/\0<=d/\d<((a.len:Nat):Int))/\
 ag xB (qf 5 (xt (dB (o.add (d.toNat*1)))) (xq xy (qc xy ((qD (qk xy) D^^^(qD (qk xy) z)).toNat:Nat)))) A λ_ h3=>
 (az.ok [] h3)/\
 Q (qc xx (d+(1:Int))) h3) (K i)) (0:Int) h:=by
 have S:g.len=ii b:=(G.at [ak 5 a 1 aF c] H).2.2.len;refine aA (λk:Nat=>(k:Int)) (λk h'=>k<=ii b/\aa B r h' (ak 5 a 1 aF (zi (λx y=>y^^^Gf.mul t x) (b.take k) (c.take k)++c.drop k)::As)) (λk=>ii b-k) 0 i0 ⟨i4,l6⟩ ?_;rintro k i ⟨M,q⟩;obtain⟨J,O,N⟩:=G.at [_] q;refine ai (λe=>?_) (λe=>?_)
 ·have w:k<ii b:=i4
  have m:ii (zi (λx y=>y^^^Gf.mul t x) (b.take k) (c.take k))=k:=i7
  have R:ii (zi (λx y=>y^^^Gf.mul t x) (b.take k) (c.take k)++c.drop k)=ii c:=by rw[qx,m,ze];omega
  refine N.bH k i0 w _ i0 ?_;have l:(zi (λx y=>y^^^Gf.mul t x) (b.take k) (c.take k)++c.drop k)[k]'(by omega)=c[k]:=by rw[zY i4];simp[m]
  refine(q.seq 0 i0 λ_=>rfl).Sx k i0 i4 _ i0 λax p=>?_;rw[l]at p⊢;refine⟨s,i0,dB f,J,(LQ f t b[k] i O).mono ?_⟩;rintro v A ⟨rfl,rfl⟩;refine⟨_,i0,⟨p,trivial⟩,?_⟩;rw[nE];refine q.set af 0 i0 (λ_=>rfl) i0 k i0 i4 _ i0 i0 i0 λh3 I=>⟨trivial,?_⟩
  rw[zo,AX P i4]at I;exact⟨k+1,js,⟨i4,I⟩,i4⟩
 ·have:k=ii b:=i4
  subst this;rw[qi (qm _),qi i4,zg i4,qO]at q;exact L i q
def gH(f:eX)(p:Int×Int×Int)(v r a b d e c:Sl):bg:=[xt (dB f),xq xx p.1,xq xx p.2.1,xq xx p.2.2,v,r,a,b,d,e,c]
structure Eh (h:f8) (s f:eX) (wa mo:Sl) (wr mr:List Sl) (W M:aP):Prop where
 fld:f7 h s=dB (xt (dB f))
 way:f7 h (s.add 9)=dB (xr wa.ptr wa.len wa.cap)
 more:f7 h (s.add 10)=dB (xr mo.ptr mo.len mo.cap)
 field:fM h f
 rW:iD h (λb=>b<h.size) wa 1 aF W wr
 rM:iD h (λb=>b<h.size) mo 1 aF M mr
theorem Eh.of{h:f8}{s f:eX}{p:Int×Int×Int}{v r l j n a c:Sl}{g e:List Sl}{W M:aP}(d:cx h s 281 (gH f p v r l j n a c))(i:fM h f)(m:iD h (λb=>b<h.size) a 1 aF W g)(k:iD h (λb=>b<h.size) c 1 aF M e):Eh h s f a c g e W M:=
 ⟨d.cell0 i0,d.cell i0,d.cell i0,i,m,k⟩
theorem IY{B:aD}{k h:f8}{As:List HP}(s f:eX)(t:UInt8)(c:Int)(b a m p:Sl)(w0 e:Row)(w n:List Sl)(W M:aP)(H:aa B k h (ak 5 b 1 aF w0::ak 5 a 1 aF e::As))(g:St B k As λh=>Eh h s f m p w n W M)
  (E:0<=c) (u:c.toNat<ii W) (o:c.toNat<ii M) (y:ii (aE W c.toNat)=ii w0) (z:ii (aE M c.toNat)=ii e) (F:ii w0<=2^30) (D:ii e<=2^30):
  ac xB 272 #[xt (dB s),xq xy t.toNat,xq xx c,b,a] h λv h'=>v=.tuple #[]/\aa B k h' (ak 5 b 1 aF (cX t (aE W c.toNat) w0)::ak 5 a 1 aF (cX t (aE M c.toNat) e)::As):=by
 refine DP (dB s) _ c b a ?_;unfold sJ;have S:=g.at [_,_] H;refine⟨s,i0,m,S.way,?_⟩;rw[mU u]at y⊢;rw[mU o]at z⊢;have q:=S.rW;have A:=q.len;refine q.top.mq c.toNat i4 i4 ?_;refine IX s f t (w[c.toNat]'(by omega)) b (W[c.toNat]) w0 H (St.mk' λh' j=>?_) y i4 λh3 i=>?_
 ·have d:=g.at [_] j;exact⟨d.fld,d.field,d.rW.row _ _ _ (qd _) (qd u)⟩
 have r:=g.at [_,_] i;refine⟨s,i0,p,r.more,?_⟩;have x:=r.rM;have l:=x.len;refine x.top.mq c.toNat i4 i4 ?_;refine IX s f t (n[c.toNat]'(by omega)) a (M[c.toNat]) e i.oB (St.mk' λh' j=>?_) z i4 λh3 i=>⟨i0,i.oB⟩
 ·have d:=g.at [_] j;exact⟨d.fld,d.field,d.rM.row _ _ _ (qd _) (qd o)⟩
def fO:aC->Bool
 |[]=>eL
 |[_]=>eL
 |a::b::r=>decide (a<b)&&fO (b::r)
theorem On:∀(l:aC) (a b:Int),fO (l++[a,b])=(fO (l++[a])&&decide (a<b))
 |[],a,b=>by simp[fO]
 |[c],a,b=>by simp[fO]
 |c::d::r,a,b=>by
  have:=On (d::r) a b;simp only[zy]at this⊢;simp only[fO,this,Bool.and_assoc]
theorem acY{l r:aC}(h:fO l=eR):fO (l++r)=eR:=by
 induction l with
 |nil=>simp[fO]at h
 |cons a t ih=>
  cases t with
  |nil=>simp[fO]at h
  |cons b t=>
   simp only[fO,vh]at h;simp only[zy,fO,vh];rcases h with h|h
   ·exact .inl h
   ·exact .inr (ih h)
theorem afr(l:aC)(k:Nat)(h:k+1<ii l):l.take (k+2)=l.take k++[l[k],l[k+1]]:=by have a:l.take (k+2)=l.take (k+1)++[l[k+1]]:=aK l (k+1) h;have b:=aK l k;rw[a,b,qp];rfl
def fP(n:Int)(r:aC):Bool:=r.all (λc=>decide (0<=c/\c<n))&&fO r
theorem acZ{n:Int}{l r:aC}(h:fP n l=eR):fP n (l++r)=eR:=by
 simp only[fP,vh]at*;rcases h with h|h
 ·left;rw[yS,h];rfl
 ·right;exact acY h
theorem ZV{n:Int}{r:aC}(h:0<ii r):fP n (r.take 1)=decide (0<=r[0]/\r[0]<n):=by
 cases r with
 |nil=>simp at h
 |cons a t=>simp[fP,fO]
theorem ZW{n:Int}{r:aC}{k:Nat}(h:k+1<ii r):fP n (r.take (k+2))=(fP n (r.take (k+1))&&decide (0<=r[k+1]/\r[k+1]<n)&&decide (r[k]<r[k+1])):=by
 have a:r.take (k+2)=r.take (k+1)++[r[k+1]]:=aK r (k+1) h;have b:fO (r.take (k+2))=(fO (r.take (k+1))&&decide (r[k]<r[k+1])):=by rw[afr r k h,On,aK r k]
 simp only[fP,b];rw[a,yS];simp only[List.all_cons,List.all_nil,Bool.and_true]
 cases(r.take (k+1)).all λc=>decide (0<=c/\c<n)<;>cases fO (r.take (k+1))<;>cases decide (0<=r[k+1]/\r[k+1]<n)<;>simp
theorem Be{n:Int}{r:aC}{k:Nat}(h:fP n (r.take k)=eR):fP n r=eR:=by rw[<-qE k r];exact acZ h
theorem ZX{n:Int}{r:aC}{k:Nat}(c:k<ii r)(h:fP n (r.take k)=eL):
  (r[k]<0->fP n r=eR)/\(n<=r[k]->fP n r=eR)/\(∀(h0:0<k),r[k]<=r[k-1]->fP n r=eR)/\
  (0<=r[k]->r[k]<n->(∀h0:0<k,r[k-1]<r[k])->fP n (r.take (k+1))=eL):=by
 cases k with
 |zero=>
  have e:=ZV (n:=n) c;refine⟨λa=>Be (k:=1) ?_,λa=>Be (k:=1) ?_,λh0=>i4,λa b _=>?_⟩
  ·rw[e,hU i4]
  ·rw[e,hU i4]
  ·rw[e,g9 ⟨a,b⟩]
 |succ k=>
  have e:=ZW (n:=n) c;refine⟨λa=>Be (k:=k+2) ?_,λa=>Be (k:=k+2) ?_,λh0 a=>Be (k:=k+2) ?_,λa b h3=>?_⟩
  ·rw[e,hU (p:=0<=r[k+1]/\r[k+1]<n) i4];simp
  ·rw[e,hU (p:=0<=r[k+1]/\r[k+1]<n) i4];simp
  ·rw[e,hU (p:=r[k]<r[k+1]) j8];simp
  ·have d:r[k]<r[k+1]:=by simpa using h3 i4
   rw[e,h,g9 (p:=0<=r[k+1]/\r[k+1]<n) ⟨a,b⟩,g9 d];rfl
def ke(n:Int)(a:ct):Bool:=decide (0<=n/\n<=64)&&a.all (fP n)
theorem afs{α:Type}{f:α->Bool}{l:List α}{k:Nat}(a:k<ii l)(h:(l.take k).all f=eL):(l.take (k+1)).all f=f l[k]:=by rw[aK _ _ a,yS,h];simp
theorem ajo{α:Type}{f:α->Bool}{l:List α}{k:Nat}(a:k<ii l)(h:f l[k]=eR):l.all f=eR:=by rw[List.all_eq_false];exact⟨l[k],qg a,sz⟩
theorem PX{p:aD}(n:Int)(a:Sl)(b:ct)(rs:List Sl)(h:f8)(x:iD h p a 1 av b rs)(J:ii b<=2^40)(m:∀l∈b,ii l<=2^40):
  ac xB 307 #[xq xx n,a] h λv h'=>v=xv (ke n b)/\h'=h:=by
 refine ND n a ?_;unfold Gt;have B:=x.SX;refine bX (λ_ h'=>h'=h/\0<=n/\n<=64) ?_ ?_
 ·refine ai (λj=>⟨?_,i0⟩) (λj=>ai (λf=>⟨?_,i0⟩) λf=>⟨i0,i4,i4⟩)
  ·rw[ke,hU i4];rfl
  ·rw[ke,hU i4];rfl
 ·rintro _ h' ⟨rfl,u,q⟩;have z:ke n b=b.all (fP n):=by rw[ke,g9 ⟨u,q⟩];rfl
  refine aA (λk:Nat=>(k:Int)) (λk h0=>h0=h'/\k<=ii b/\(b.take k).all (fP n)=eL) (λk=>ii b-k) 0 i0 ⟨i0,i4,i9⟩ ?_;rintro i h0 ⟨rfl,I,d⟩;refine ai (λt=>?_) (λo=>?_)
  ·have e:i<ii b:=i4
   refine x.get i i0 e λr s _=>?_;have D:=s.len;have G:=m _ (qg e);have c:fP n b[i]=eR->ke n b=eR:=λF=>by rw[z];exact ajo e F
   refine aA (λk:Nat=>(k:Int)) (λk f=>f=h0/\k<=b[i].length/\fP n (b[i].take k)=eL) (λk=>b[i].length-k) 0 i0 ⟨i0,i4,by simp[fP,fO]⟩ ?_;rintro k f ⟨rfl,H,w⟩;refine ai (λt=>?_) (λo=>?_)
   ·have g:k<b[i].length:=i4
    obtain⟨n1,n2,E,A⟩:=ZX g w;refine s.bH k i0 g _ i0 ?_;refine ai (λj=>⟨by rw[c (n1 j)],i0⟩) λj=>?_;refine ai (λf=>⟨by rw[c (n2 f)],i0⟩) λf=>?_;rw[al (k+1),al (k-1)];refine ai (λh3=>?_) (λh3=>?_)
    ·refine s.bH (k-1) i4 i4 _ i0 ?_;refine ai (λy=>⟨by rw[c (E i4 y)],i0⟩) λy=>?_;exact⟨k+1,i9,⟨i0,i4,A i4 i4 λ_=>i4⟩,i4⟩
    ·exact⟨k+1,i9,⟨i0,i4,A i4 i4 λ_=>i4⟩,i4⟩
   ·rw[qi i4]at w;rw[al (i+1)];exact⟨i+1,i9,⟨i0,i4,by rw[afs e d,w]⟩,i4⟩
  ·rw[qi i4]at d;exact⟨by rw[z,d],i0⟩
theorem Oo{p:aD}(a:Sl)(c:List Bool)(x:Bool)(h:f8)(i:Seq h p a 1 fi c)(o:ii c<=2^40):
  ac xB 324 #[a,xv x] h λv h'=>∃r:Int,v=xq xx r/\(0<=r↔x∈c)/\h'=h:=by
 refine uJ a x ?_;unfold nC;have j:=i.len;refine aA (λk:Nat=>(k:Int)) (λk h'=>h'=h/\k<=ii c/\x∉c.take k) (λk=>ii c-k) 0 i0 ⟨i0,i4,i9⟩ ?_;rintro k h' ⟨rfl,n,g⟩;refine ai (λm=>?_) (λl=>?_)
 ·have b:k<ii c:=i4
  refine i.bH k i0 b _ i0 ?_;refine bC (λf=>⟨_,i0,⟨λ_=>?_,λ_=>i4⟩,i0⟩) (λd=>?_)
  ·rw[eq_of_beq f];exact qg b
  ·rw[al _];refine⟨k+1,i9,⟨i0,i4,?_⟩,i4⟩;rw[aK _ _ b];simp only[qA,qC,not_or];exact⟨g,λe=>by rw[e]at d;simp at d⟩
 ·rw[qi i4]at g;exact⟨_,i0,⟨λh=>i4,λh=>absurd h g⟩,i0⟩
theorem IZ{p:aD}(a:Sl)(b:List Bool)(x:Bool)(h:f8)(d:Seq h p a 1 fi b)(c:ii b<=2^40):
  ac xB 308 #[a,xv x] h λv h'=>v=xv (decide (x∈b))/\h'=h:=by
 refine sn a x ?_;unfold mh;refine(Oo a b x h d c).mono ?_;rintro v h' ⟨r,rfl,e,rfl⟩;refine⟨r,i0,?_,i0⟩;exact congrArg Value.bool (decide_eq_decide.2 e)
theorem Xa{α:Type}{f:α->Bool}{l:List α}{k:Nat}(a:k<ii l):(l.take (k+1)).filter f=if f l[k]then(l.take k).filter f++[l[k]]else(l.take k).filter f:=by rw[aK _ _ a,zm];by_cases h:f l[k]=eL<;>simp[h]
theorem Oq{p q:aD}(i:eX)(o r:Sl)(op:List Bool)(row:aC)(h:f8)(x:f7 h (i.add 1)=dB (xr o.ptr o.len o.cap))(n:Seq h p o 1 fi op)(m:Seq h q r 1 av row)
  (l:∀c∈row,0<=c/\c<ii op) (A:ii row<=2^40):
  ac xB 325 #[xt (dB i),r] h λv h'=>
   v=.tuple #[xq xx ((dg op row).getLast?.getD 0),xv (ii (dg op row)==1)]/\h'=h:=by
 refine AS (dB i) r ?_;unfold oN;have t:=m.len;refine aA (λk:Nat=>((dg op (row.take k)).getLast?.getD 0,(ii (dg op (row.take k)):Int),(k:Int))) (λk h'=>h'=h/\k<=ii row) (λk=>ii row-k) 0 i0 ⟨i0,i4⟩ ?_;rintro k h' ⟨rfl,y⟩;dsimp only;refine ai (λw=>?_) (λu=>?_)
 ·have d:k<ii row:=i4
  have z:=l _ (qg d);refine m.bH k i0 d _ i0 ?_;refine⟨i,i0,o,x,?_⟩;have a:row[k].toNat<ii op:=i4
  refine n.bH row[k].toNat i4 a _ i0 ?_;have b:kz op row[k]=op[row[k].toNat]:=by simp[kz,qe,qd a]
  have g:=Xa (f:=kz op) d;have s:ii (dg op (row.take k))<=ii row:=zf (qR _ _) pa;rw[al (k+1),al _];refine bC (λj=>?_) (λj=>?_)
  ·refine⟨k+1,?_,⟨i0,i4⟩,i4⟩;have e:dg op (row.take (k+1))=dg op (row.take k)++[row[k]]:=by rw[dg,g,b,j];rfl
   simp[e]
  ·refine⟨k+1,?_,⟨i0,i4⟩,i4⟩;have e:dg op (row.take (k+1))=dg op (row.take k):=by rw[dg,g,b,j];rfl
   simp[e]
 ·have e:row.take k=row:=qi i4;refine⟨?_,i0⟩;simp only[e];congr 4;congr 1;rw[vB];simp;omega
structure Cq (h:f8) (p:aD) (a:eX) (l o u:Sl) (rows:ct) (rs:List Sl) (op us:List Bool):Prop where
 c0:f7 h a=dB (xr l.ptr l.len l.cap)
 c1:f7 h (a.add 1)=dB (xr o.ptr o.len o.cap)
 c2:f7 h (a.add 2)=dB (xr u.ptr u.len u.cap)
 fY:p a.block
 sRows:iD h p l 1 av rows rs
 sOp:Seq h p o 1 fi op
 sUs:Seq h p u 1 fi us
 ulen:ii us=ii rows
 cY:∀r∈rows,∀c∈r,0<=c/\c<ii op
 short:∀r∈rows,ii r<=64
theorem Cq.aj{h h':f8}{p:aD}{a:eX}{l o u:Sl}{rows:ct}{rs:List Sl}{op us:List Bool}(c:Cq h p a l o u rows rs op us)(k:be p h h'):Cq h' p a l o u rows rs op us:=by
 have b:∀n,(a.add n).block=a.block:=λn=>by unfold Addr.add;split<;>rfl
 exact⟨k.cell c.fY c.c0,k.cell (by rw[b];exact c.fY) c.c1,k.cell (by rw[b];exact c.fY) c.c2,c.fY,c.sRows.aj k,c.sOp.aj k,c.sUs.aj k,c.ulen,c.cY,c.short⟩
theorem Sn{p:aD}(a:eX)(l o u:Sl)(rows:ct)(rs:List Sl)(op us:List Bool)(h:f8)(y:Cq h p a l o u rows rs op us)(P:ii rows<=2^40):
  ac xB 309 #[xt (dB a)] h λv h'=>be (λ_=>True) h h'/\
   v=match na rows op us with
    |some i=>.tuple #[xw #[xq xx i,xq xx (fm rows op i)],xv eL]
    |none=>.tuple #[xw #[xq xx 0,xq xx 0],xv eR]:=by
 refine CR (dB a) ?_;unfold rQ;refine BF af i0 λb K O s e J=>?_;have f:=y.aj (e.mono λ_ _ _=>trivial);refine⟨a,i0,l,f.c0,?_⟩;have L:=y.sRows.SX;refine aA (λk:Nat=>(k:Int)) (λk h'=>h'=K/\k<=ii rows/\∀j,j<k->mZ rows op us j=eR) (λk=>ii rows-k) 0 i0 ⟨i0,i4,λj n=>i4⟩ ?_;rintro k h' ⟨rfl,M,B⟩;refine ai (λI=>?_) (λG=>?_)
 ·have c:k<ii rows:=i4
  refine f.sRows.get k i0 c λr H _=>?_;refine⟨a,i0,u,f.c2,?_⟩;refine f.sUs.bH k i0 (by rw[y.ulen];exact c) _ i0 ?_;have E:us.getD k eR=us[k]'(by rw[y.ulen];exact c):=by rw[qe,qd];rfl
  have q:rows.getD k []=rows[k]:=by rw[qe,qd c];rfl
  rw[al _];refine bC (λx=>?_) (λx=>?_)
  ·refine⟨k+1,i9,⟨i0,i4,λj n=>?_⟩,i4⟩;rcases zr.1 n with n|rfl
   ·exact B j n
   ·simp only[mZ,E,x];rfl
  ·refine(Oq a o r op rows[k] h' f.c1 f.sOp H (y.cY _ (qg c)) (zf (y.short _ (qg c)) i4)).mono ?_;rintro v N ⟨rfl,rfl⟩;refine⟨(_,_),i0,?_⟩;have g:mZ rows op us k=(ii (dg op rows[k])==1):=by simp only[mZ,E,x,q];rfl
   refine bC (λt=>?_) (λt=>?_)
   ·have m:mZ rows op us k=eL:=g.trans t;refine Ep af s i0 _ i0 i0 i0 (qm _) λh3 d w A=>?_;refine⟨(_,_),d.aU _ i0,e.then w (λF D _=>i4),?_⟩;have z:fm rows op k=(dg op rows[k]).getLast?.getD 0:=by unfold fm;rw[q]
    rw[na,abx c B m];show _=Value.tuple #[xw #[xq xx k,xq xx (fm rows op k)],xv eL];rw[z];rfl
   ·have m:mZ rows op us k=eR:=g.trans t;refine⟨k+1,i9,⟨i0,i4,λj n=>?_⟩,i4⟩;rcases zr.1 n with n|rfl
    ·exact B j n
    ·exact m
 ·refine Ep af s i0 _ i0 i0 i0 (qm _) λh3 d w A=>?_;refine⟨(_,_),d.aU _ i0,e.then w (λF D _=>i4),?_⟩;rw[na,abw λj n=>B j i4]
theorem LZ{l:List Bool}{i:Nat}(h:i<ii l):l.getD i eR=l[i]:=by rw[qe,qd h];rfl
theorem Yk(op:List Bool)(a:aC):∀k,-1<=jb op a k/\jb op a k<k
 |0=>by simp[jb]
 |k+1=>by
  have:=Yk op a k;unfold jb;split<;>omega
theorem So{p:aD}(a:eX)(l o u:Sl)(rows:ct)(rs:List Sl)(op us:List Bool)(h:f8)(t:Cq h p a l o u rows rs op us)(hs:ii rows<=2^30)(a5:ii op<=2^30):
  ac xB 310 #[xt (dB a)] h λv h'=>be (λ_=>True) h h'/\v=xq xx (ij rows op us):=by
 refine CS (dB a) ?_;unfold rR;refine⟨a,i0,o,t.c1,?_⟩;have a7:=t.sOp.len;refine Go.Vc.run_make (f:=av) af ⟨_,_,i0,i0,i0,i0,i0,i0⟩ i5 0 i0 i0 op.length op.length i4 i4 (qm _) i4 λs h1 I V a8 y a4=>?_;have Z:=t.aj (y.mono λ_ _ _=>trivial);refine⟨a,i0,l,Z.c0,?_⟩;have a9:=t.sRows.SX;have A:∀b,s.on b->b=h.size:=by rintro b ⟨o',P⟩;rw[V]at P;cases P;rfl
 have am:∀k,ii ((λ_ r=>r:Nat->aC->aC) k (rows.getD k []))<=64:=λk=>by
  show(rows.getD k []).length<=64;by_cases S:k<ii rows
  ·rw[qe,qd S];exact t.short _ (qg S)
  ·rw[qe,qQ i4];simp
 let d:=lR (λ_ r=>r) rows us (qh op.length 0);have K:∀k,ii (d k)=ii op:=λk=>by rw[EF];simp
 have W:∀k,∀x∈d k,0<=x/\x<=64*k:=λk x hx=>TH (λ_ r=>r) am k x hx;refine aA (λk:Nat=>(k:Int)) (λk h'=>be (λb=>b<h.size) h h'/\k<=ii rows/\Own h' 3 s 1 av (d k)) (λk=>ii rows-k) 0 i0 ⟨y.mono λ_ _ _=>trivial,i4,I⟩ ?_;rintro i T ⟨F,hi,n⟩;have q:Cq T p a l o u rows rs op us:=t.aj (F.mono λb e _=>e);refine ai (λH=>?_) (λL=>?_)
 ·have g:i<ii rows:=i4
  have N:rows.getD i []=rows[i]:=by rw[qe,qd g];rfl
  have X:us.getD i eR=us[i]'(by rw[t.ulen];exact g):=LZ _;refine q.sRows.get i i0 g λr hr U=>?_;have a6:=hr.len;have Q:=t.short _ (qg g);refine aA (λk:Nat=>(k:Int)) (λk h'=>be (λb=>b<h.size) h h'/\k<=rows[i].length/\Own h' 3 s 1 av (if us.getD i eR then d i else kQ (d i) (rows[i].take k))) (λk=>rows[i].length-k) 0 i0
   ⟨F,i4,by simpa[kQ]using n⟩ ?_
  rintro j h3 ⟨B,hj,c⟩;have w:Cq h3 p a l o u rows rs op us:=t.aj (B.mono λb e _=>e);refine ai (λH=>?_) (λL=>?_)
  ·have D:j<rows[i].length:=i4
   have ax:=w.sRows.row i r _ U (qd g);have hc:=t.cY _ (qg g) _ (qg D);refine ax.bH j i0 D _ i0 ?_;refine⟨a,i0,u,w.c2,?_⟩;refine w.sUs.bH i i0 (by rw[t.ulen];exact g) _ i0 ?_;rw[al (j+1)];refine bo (λe=>?_) (λe=>?_)
   ·rw[X,e]at c;simp only[zj,if_false]at c;have G:ii (kQ (d i) (rows[i].take j))=ii op:=by rw[FM,K]
    have m:rows[i][j].toNat<ii (kQ (d i) (rows[i].take j)):=by rw[G];omega
    have a2:=HC (r:=rows[i].take j) (W i) _ (qg m);have a3:ii (rows[i].take j)<=64:=pa
    have ah:Seq h3 (λ_=>True) s 1 av (kQ (d i) (rows[i].take j)):=c.seq (λ_=>rfl) λ_ _=>trivial;refine ah.bH rows[i][j].toNat i4 m _ i0 ?_;rw[al _];refine c.set af (λ_=>rfl) i0 rows[i][j].toNat i4 m _ i0 i0 i0 λh4 E Y a0=>?_;refine⟨j+1,i9,⟨B.then Y (λb e _=>λab=>by have:=A b ab;omega),i4,?_⟩,i4⟩;rw[X,e];simp only[zj,if_false];rw[aK _ _ D,Wc,getD_lt m];exact E
   ·refine⟨j+1,i9,⟨B,i4,?_⟩,i4⟩;rw[X,e]at c⊢;exact c
  ·rw[al (i+1)];rw[qi i4]at c;refine⟨i+1,i9,⟨B,i4,?_⟩,i4⟩;have:d (i+1)=if us.getD i eR then d i else kQ (d i) rows[i]:=by show lR _ _ _ _ (i+1)=_;rw[lR];simp only[N];rfl
   rw[this];exact c
 ·have ar:i=ii rows:=i4
  subst ar;refine⟨a,i0,o,q.c1,?_⟩;have J:Seq T (λ_=>True) s 1 av (d rows.length):=n.seq (λ_=>rfl) λ_ _=>trivial;have ay:=K rows.length;refine aA (λk:Nat=>(jb op (d rows.length) k,(k:Int))) (λk h'=>h'=T/\k<=ii op) (λk=>ii op-k) 0 i0 ⟨i0,i4⟩ ?_;rintro k h3 ⟨rfl,S⟩;dsimp only;have a1:=Yk op (d rows.length) k;refine ai (λH=>?_) (λL=>?_)
  ·have M:k<ii op:=i4
   refine q.sOp.bH k i0 M _ i0 ?_;rw[al (k+1)];have z:op.getD k eR=op[k]:=LZ M;refine bC (λe=>?_) (λe=>?_)
   ·refine ai (λO=>?_) (λad=>?_)
    ·refine⟨k+1,?_,⟨i0,i4⟩,i4⟩;rw[jb,f9 (by rw[z,e,g9 O];rfl)];rfl
    ·refine J.bH k i0 i4 _ i0 ?_;refine J.bH (jb op (d rows.length) k).toNat i4 i4 _ i0 ?_;have e1:(d rows.length).getD k 0=(d rows.length)[k]:=getD_lt;have e2:(d rows.length).getD (jb op (d rows.length) k).toNat 0=(d rows.length)[(jb op (d rows.length) k).toNat]:=getD_lt;refine ai (λao=>?_) (λR=>?_)
     ·refine⟨k+1,?_,⟨i0,i4⟩,i4⟩;rw[jb,f9 (by rw[z,e,e1,e2,g9 ao];simp)];rfl
     ·refine⟨k+1,?_,⟨i0,i4⟩,i4⟩;rw[jb,g0 (by rw[z,e,e1,e2,hU R,hU ad];simp)];rfl
   ·refine⟨k+1,?_,⟨i0,i4⟩,i4⟩;rw[jb,g0 (by rw[z,e];simp)];rfl
  ·have ap:k=ii op:=i4
   subst ap;exact⟨F.mono λb e _=>e,i0⟩
def fQ(p:Int×Int):bg:=[xq xx p.1,xq xx p.2]
theorem aft:∀x,∀c∈fQ x,c.oneCell'=eL:=by intro x c a;simp only[fQ,zb,List.not_mem_nil,or_false]at a;rcases a with rfl|rfl<;>rfl
def Fv(n:Int)(rows:ct):List (Int×Int)×aC×aC:=
 if ke n rows then((dN n.toNat rows).steps,(dN n.toNat rows).dead,fJ (dN n.toNat rows).used rows.length)else([],[],[])
def ajp(e h:f8)(v:Value)(ok:Bool)(a:List (Int×Int))(b c:aC):Prop:=
 ∃s d f:Sl,v=.tuple #[xw #[s,d,f],xv ok]/\
  Sp e h [ak 332 s 2 fQ a,ak 3 d 1 av b,ak 3 f 1 av c]
theorem ahK{α β γ:Type}{v h:f8}{c:Nat->Nat}{g m l n r j:Nat}{p:α->bg}{s:β->bg}{u:γ->bg}{q w t:Sl}{l1:List α}{l2:List β}{k:List γ}(o:ni v h c)(f:dQ h c 6 g q n p l1)(e:dQ h c 7 m w r s l2)(a3:dQ h c 8 l t j u k):
  Sp v h [ak g q n p l1,ak m w r s l2,ak l t j u k]:=by
 refine⟨λ_ h=>h,o.aj,λb=>c b-5,λb a=>?_,λi A d=>?_⟩
 ·have:=o.bD b a;dsimp only;omega
 ·match i,d with
  |0,d=>simp at d;subst d;exact⟨f.own,λb a=>⟨f.own.lt a,by have:=f.bD b a;dsimp only;omega⟩⟩
  |1,d=>simp at d;subst d;exact⟨e.own,λb a=>⟨e.own.lt a,by have:=e.bD b a;dsimp only;omega⟩⟩
  |2,d=>simp at d;subst d;exact⟨a3.own,λb a=>⟨a3.own.lt a,by have:=a3.bD b a;dsimp only;omega⟩⟩
  |i+3,d=>simp at d
theorem ahL{n:Int}{rows:ct}(h:ke n rows=eL):0<=n/\n<=64/\∀r∈rows,fP n r=eL:=by simp only[ke,qB,decide_eq_true_eq,q9]at h;exact⟨h.1.1,h.1.2,h.2⟩
theorem Ma{n:Int}{r:aC}(h:fP n r=eL):∀c∈r,0<=c/\c<n:=by simp only[fP,qB,q9,decide_eq_true_eq]at h;exact h.1
theorem Rl:∀{r:aC} {a n:Int},fO r=eL->(∀c∈r,a<=c/\c<n)->(ii r:Int)<=max 0 (n-a)
 |[],a,n,_,_=>i7
 |[x],a,n,_,h=>by have:=h x i9;simp;omega
 |x::y::t,a,n,hr,h=>by
  simp only[fO,qB,decide_eq_true_eq]at hr;have g:=h x i9;have f:=h y i9;have d:∀(l:aC) (z:Int),fO (z::l)=eL->∀c∈l,z<c:=by
   intro l
   induction l with
   |nil=>intro z _ c b;simp at b
   |cons w t ih=>
    intro z e c b;simp only[fO,qB,decide_eq_true_eq]at e;rcases zb.1 b with rfl|b
    ·exact e.1
    ·have:=ih w e.2 c b;omega
  have:=Rl (r:=y::t) (a:=x+1) (n:=n) hr.2 λc b=>⟨by
   rcases zb.1 b with rfl|b
   ·omega
   ·have:=d t y hr.2 c b;omega,(h c (by simp only[zb]at b⊢;exact .inr b)).2⟩
  simp only[List.length_cons]at this⊢;omega
theorem ada{n:Int}{r:aC}(h:fP n r=eL)(c:n<=64):ii r<=64:=by have b:=Ma h;simp only[fP,qB]at h;have:=Rl (a:=0) h.2 b;omega
theorem afu(n k:Nat)(h:k<n):(qh k eL++qh (n-k) eR).set k eL=qh (k+1) eL++qh (n-(k+1)) eR:=by
 have e:n-k=(n-(k+1))+1:=i4
 rw[qV _ _ i9,e,yh];simp only[yQ,zc,zo];rw[List.replicate_succ' (n:=k)];simp
theorem Vq{h i:f8}{c:Nat->Nat}{a:eX}{l o u:Sl}{rows:ct}{rs:List Sl}{op us:List Bool}(q:iD i (λb=>b<i.size) l 1 av rows rs)(j:ni i h c)(e:li h c 2 a 366 [l,o,u])
  (m:dQ h c 3 4 o 1 fi op) (p:dQ h c 4 4 u 1 fi us) (g:ii us=ii rows) (n:ii op<=64) (k:∀r∈rows,fP op.length r=eL):Cq h (λb=>b<h.size) a l o u rows rs op us:=
 ⟨e.box.cell0 i0,e.box.cell i0,e.box.cell i0,e.box.lt,(q.aj j.aj).mono λb f=>qW f j.aj.1,m.YC λ_=>rfl,p.YC λ_=>rfl,g,λr d=>Ma (k r d),λr d=>ada (k r d) i4⟩
theorem adb(n:Int)(l:Sl)(rows:ct)(rs:List Sl)(h:f8)(hl:iD h (λb=>b<h.size) l 1 av rows rs)(hs:ii rows<=2^30)(ed:∀r∈rows,ii r<=2^40):
  ac xB 267 #[xq xx n,l] h λv h'=>ajp h h' v (ke n rows) (Fv n rows).1 (Fv n rows).2.1 (Fv n rows).2.2:=by
 refine PF n l ?_;unfold Ip;have ew:=hl.SX;refine wd af (ni.refl h) 1 i0 λa1 h1 bs d3=>?_;have E:=(ni.refl h).keep (m:=1) d3 i5;refine(PX n l rows rs h1 (hl.aj E.aj) i4 ed).mono ?_;rintro v h2 ⟨rfl,rfl⟩;refine⟨_,i0,?_⟩;refine bo (λhr=>?_) (λhr=>?_)
 ·refine bs.kg af i0 _ i0 i0 i0 (qm _) λh3 am D=>?_;refine⟨(⟨eH,0,0⟩,⟨eH,0,0⟩,⟨eH,0,0⟩),am.box.aU _ i0,?_⟩;refine⟨⟨eH,0,0⟩,⟨eH,0,0⟩,⟨eH,0,0⟩,by rw[hr],?_⟩;simp only[Fv,hr,zj,if_false];exact(((Sp.zip (E.keep (m:=1) D i5).aj).nil 332 2 fQ).nil 3 1 av).nil 3 1 av
 ·obtain⟨ep,el,b1⟩:=ahL hr;obtain⟨N,rfl⟩:∃N:Nat,n=N:=⟨n.toNat,i4⟩
  have hN:N<=64:=i4
  refine bX (λs h'=>∃c a o u,s=dB a/\ni h h' c/\li h' c 1 a1 279 [xr eH 0 0,xr eH 0 0,xr eH 0 0]/\li h' c 2 a 366 [l,xr o.ptr o.len o.cap,xr u.ptr u.len u.cap]/\
   dQ h' c 3 4 o 1 fi (qh N eR)/\dQ h' c 4 4 u 1 fi (qh rows.length eR)) ⟨?_,?_⟩ ?_
  ·refine BG af E 3 fi ⟨_,_,i0,i0,i0,i0,i0,i0⟩ i5 eR i0 i0 N i0 i0 i4 λo h3 ho D=>?_;refine⟨trivial,?_⟩;refine BG af (E.keep (m:=3) D i5) 4 fi ⟨_,_,i0,i0,i0,i0,i0,i0⟩ i5 eR i0 i0 rows.length i4 i4 i4 λu h4 hu H=>?_;refine⟨trivial,?_⟩;refine Ta _ ((E.keep (m:=3) D i5).keep (m:=4) H i5) 2 λa h5 ha A=>?_;exact⟨trivial,_,a,o,u,i0,((E.keep D i5).keep H i5).keep A i5,((bs.keep D i5).keep H i5).keep A i5,ha,(ho.keep H i5).keep A i5,hu.keep A i5⟩
  ·refine BG af E 4 fi ⟨_,_,i0,i0,i0,i0,i0,i0⟩ i5 eR i0 i0 rows.length i4 i4 i4 λu h3 hu D=>?_;refine⟨trivial,?_⟩;refine BG af (E.keep (m:=4) D i5) 3 fi ⟨_,_,i0,i0,i0,i0,i0,i0⟩ i5 eR i0 i0 N i0 i0 i4 λo h4 ho H=>?_;refine⟨trivial,?_⟩;refine Ta _ ((E.keep (m:=4) D i5).keep (m:=3) H i5) 2 λa h5 ha A=>?_;exact⟨trivial,_,a,o,u,i0,((E.keep D i5).keep H i5).keep A i5,((bs.keep D i5).keep H i5).keep A i5,ha,ho.keep A i5,(hu.keep H i5).keep A i5⟩
  ·rintro s h3 ⟨c,a,o,u,rfl,cq,bq,am,a5,c0⟩;refine⟨a,i0,o,am.box.cell i0,?_⟩;have et:o.len=N:=by rw[a5.own.len];simp
   refine aA (λt:Nat×(Nat->Nat)=>(t.1:Int)) (λt h'=>t.1<=N/\ni h h' t.2/\li h' t.2 1 a1 279 [xr eH 0 0,xr eH 0 0,xr eH 0 0]/\li h' t.2 2 a 366 [l,o,u]/\
    dQ h' t.2 3 4 o 1 fi (qh t.1 eL++qh (N-t.1) eR)/\dQ h' t.2 4 4 u 1 fi (qh rows.length eR)) (λt=>N-t.1) (0,c) i0 ⟨i9,cq,bq,am,by simpa using a5,c0⟩ ?_
   rintro⟨k,c⟩ h4 ⟨hk,a9,b7,a8,bl,b0⟩;dsimp only at*;refine ai (λda=>?_) (λdx=>?_)
   ·have dy:k<N:=i4
    refine⟨a,i0,o,a8.box.cell i0,?_⟩;refine bl.set af (λ_=>rfl) i0 k i0 i7 eL i0 i0 i0 λh5 bb A=>?_;rw[al _];rw[afu _ _ dy]at bb;exact⟨(k+1,_),i9,⟨i7,a9.keep A i5,b7.keep A i5,a8.keep A i5,bb,b0.keep A i5⟩,i7⟩
   ·have d4:k=N:=i4
    subst d4;simp only[zc,vu,qO]at bl;refine wd af a9 5 i0 λap h5 c7 A=>?_;have c8:=a9.keep (m:=5) A i5;have d9:=b7.keep (m:=5) A i5;have eb:=a8.keep (m:=5) A i5;have bb:=bl.keep (m:=5) A i5;have ef:=b0.keep (m:=5) A i5;clear a9 b7 a8 bl b0 cq bq am a5 c0;generalize grow c h4.size 5=c5 at*;refine aA (τ:=Nat×List Bool×List Bool×(List (Int×Int))×aC×(Nat->Nat)×Sl×Sl) (λ_=>())
     (λ⟨f,op,us,st,dd,c,ss,ds⟩ h'=>ii op=k/\us.length=ii rows/\op.count eL<=f/\f<=k/\st.length<=k-f/\dd.length<=k-f/\
      (∃r,cK rows f op us=r/\dN k rows=⟨st++r.steps,dd++r.dead,r.used⟩)/\ni h h' c/\
      li h' c 1 a1 279 [xr eH 0 0,xr eH 0 0,xr eH 0 0]/\li h' c 2 a 366 [l,o,u]/\
      dQ h' c 3 4 o 1 fi op/\dQ h' c 4 4 u 1 fi us/\
      li h' c 5 ap 279 [ss,ds,xr eH 0 0]/\dQ h' c 6 332 ss 2 fQ st/\dQ h' c 7 3 ds 1 av dd)
     (λt=>t.1) (k,qh k eL,qh rows.length eR,[],[],c5,⟨eH,0,0⟩,⟨eH,0,0⟩) i0
     ⟨i9,i9,i9,i9,i9,i9,⟨_,i0,by simp[dN]⟩,c8,d9,eb,bb,ef,c7,dQ.nil _ _ _ _ _ _,dQ.nil _ _ _ _ _ _⟩ ?_
    rintro⟨f,op,us,st,dd,c,ss,ds⟩ h6 ⟨a6,I,ei,eq,ej,ek,⟨r,a4,bd⟩,K,ar,T,Z,O,M,J,L⟩;dsimp only at*;have G:∀r∈rows,fP op.length r=eL:=by rw[a6];exact b1
    have a3:=Vq hl K T Z O I i4 G;refine⟨a,i0,o,T.box.cell i0,?_⟩;refine(IZ o op eL h6 (Z.YC λ_=>rfl) i4).mono ?_;rintro v h7 ⟨rfl,rfl⟩;refine⟨_,i0,?_⟩;refine bo (λhc=>?_) (λhc=>?_)
    ·have ab:op.contains eL=eR:=by simpa using hc
     have bq:r=⟨[],[],us⟩:=by rw[<-a4];exact BQ ab f
     subst bq;simp only[qO]at bd;refine⟨a,i0,u,T.box.cell i0,?_⟩;have eo:u.len=ii rows:=by rw[O.own.len,I]
     refine aA (λt:Nat×(Nat->Nat)×Sl=>(t.1:Int)) (λ⟨j,c,fs⟩ h'=>j<=ii rows/\ni h h' c/\
      li h' c 1 a1 279 [xr eH 0 0,xr eH 0 0,xr eH 0 0]/\dQ h' c 4 4 u 1 fi us/\
      li h' c 5 ap 279 [ss,ds,fs]/\dQ h' c 6 332 ss 2 fQ st/\dQ h' c 7 3 ds 1 av dd/\dQ h' c 8 3 fs 1 av (fJ us j)) (λt=>ii rows-t.1) (0,c,⟨eH,0,0⟩) i0
      ⟨i9,K,ar,O,M,J,L,dQ.nil _ _ _ _ _ _⟩ ?_
     rintro⟨j,c,fs⟩ h8 ⟨hj,bk,b9,b6,Y,ad,ao,a2⟩;dsimp only at*;refine ai (λda=>?_) (λdx=>?_)
     ·have en:j<ii rows:=i4
      have er:ii (fJ us j)<=j:=JG us j;refine(b6.YC λ_=>rfl).bH j i0 i4 _ i0 ?_;have cn:us.getD j eR=us[j]:=LZ i4;rw[al _];refine bo (λhb=>?_) (λhb=>?_)
      ·refine⟨fs,Y.box.cell i0,?_⟩;refine Lb af bk 9 av ⟨_,_,i0,i0,i0,i0,i0,i0⟩ i0 [(j:Int)] i0 (zL i0) i0 λv h9 c9 p=>?_;refine(a2.keep (m:=9) p i5).append af ⟨_,_,i0,i0,i0,i0,i0,i0⟩ ⟨_,_,i0,i0⟩ i0 i5 (λ_=>rfl) (c9.seq λ_=>rfl) fD i7 λeg b3 cc g=>?_;refine((Y.keep (m:=9) p i5).keep (m:=8) g i5).store af i0 2 _ i0 i0 i0 (zL i0) λcp br d=>?_;refine⟨(j+1,_,eg),i9,⟨i7,((bk.keep p i5).keep g i5).keep d i5,((b9.keep p i5).keep g i5).keep d i5,((b6.keep p i5).keep g i5).keep d i5,br,
        ((ad.keep p i5).keep g i5).keep d i5,((ao.keep p i5).keep g i5).keep d i5,?_⟩,i7⟩
       have e:fJ us (j+1)=fJ us j++[(j:Int)]:=by rw[fJ,cn,hb];rfl
       rw[e];exact cc.keep d i5
      ·have e:fJ us (j+1)=fJ us j:=by rw[fJ,cn,hb];rfl
       exact⟨(j+1,c,fs),i9,⟨i7,bk,b9,b6,Y,ad,ao,by rw[e];exact a2⟩,i7⟩
     ·have d7:j=ii rows:=i4
      subst d7;refine⟨(ss,ds,fs),Y.box.aU _ i0,?_⟩;refine b9.kg af i0 _ i0 i0 i0 (qm _) λh9 d1 p=>?_;refine⟨(ss,ds,fs),d1.box.aU _ i0,?_⟩;refine⟨ss,ds,fs,by rw[hr],?_⟩;simp only[Fv,hr,if_true,ql,bd];exact ahK (bk.keep (m:=1) p i5) (ad.keep (m:=1) p i5) (ao.keep (m:=1) p i5) (a2.keep (m:=1) p i5)
    ·have ab:op.contains eL=eL:=by simpa using hc
     obtain⟨f',rfl⟩:∃f',f=f'+1:=by obtain⟨j,hj,e⟩:=HD ab;have:=lr e;exact⟨f-1,i4⟩
     refine bj ?_;refine(Sn a l o u rows rs op us h7 a3 i4).mono ?_;rintro v h8 ⟨z,rfl⟩;have z:=z.bD c 9;cases hst:na rows op us with
     |some i=>
      obtain⟨hi,dr⟩:=xG hst;obtain⟨es,ec,a5⟩:=EG dr;have cr:rows.getD i []=rows[i]:=by rw[qe,qd hi];rfl
      have eh:=Ma (G _ (qg hi)) _ (cr▸ec);refine⟨((i,fm rows op i),eL),i0,?_⟩;dsimp only;refine wd af (K.keep (m:=9) z i5) 9 i0 λax h9 has p=>?_;refine has.kg af i0 _ i0 i0 i0 (qm _) λb3 P g=>?_;refine GS i0 ?_;have F:=((K.keep (m:=9) z i5).keep (m:=9) p i5).keep (m:=9) g i5;have ah:=((ar.keep (m:=9) z i5).keep (m:=9) p i5).keep (m:=9) g i5;have V:=((T.keep (m:=9) z i5).keep (m:=9) p i5).keep (m:=9) g i5;have U:=((Z.keep (m:=9) z i5).keep (m:=9) p i5).keep (m:=9) g i5;have X:=((O.keep (m:=9) z i5).keep (m:=9) p i5).keep (m:=9) g i5;have B:=((M.keep (m:=9) z i5).keep (m:=9) p i5).keep (m:=9) g i5;have R:=((J.keep (m:=9) z i5).keep (m:=9) p i5).keep (m:=9) g i5;have Q:=((L.keep (m:=9) z i5).keep (m:=9) p i5).keep (m:=9) g i5;clear K ar T Z O M J L z p has a3;generalize grow (grow (grow c h7.size 9) h8.size 9) h9.size 9=c10 at*;refine⟨ss,B.box.cell0 i0,(_,_),P.box.aU _ i0,?_⟩;dsimp only;refine Lb af F 10 fQ ⟨_,_,i0,i0,i0,i0,i0,i0⟩ i0 [((i:Int),fm rows op i)] i0 (zL i0) i0 λv cp c1 d=>?_;refine(R.keep (m:=10) d i5).append af ⟨_,_,i0,i0,i0,i0,i0,i0⟩ ⟨_,_,i0,i0⟩ i0 i5 (λ_=>rfl) (c1.seq λ_=>rfl) aft i7 λd0 d2 b4 q=>?_;refine((B.keep (m:=10) d i5).keep (m:=6) q i5).kg af i0 _ i0 i0 i0 (zL i0) λdk b5 x=>?_;have S:=((P.keep (m:=10) d i5).keep (m:=6) q i5).keep (m:=5) x i5;have a7:=((V.keep (m:=10) d i5).keep (m:=6) q i5).keep (m:=5) x i5;have cs:=((X.keep (m:=10) d i5).keep (m:=6) q i5).keep (m:=5) x i5;have c4:=((U.keep (m:=10) d i5).keep (m:=6) q i5).keep (m:=5) x i5;refine⟨a,i0,u,a7.box.cell i0,(i:Int),S.box.cell0 i0,a,i0,o,a7.box.cell i0,fm rows op i,S.box.cell i0,?_⟩;refine cs.set af (λ_=>rfl) i0 i i0 i4 eL i0 i0 i0 λd5 c6 w=>?_;have a0:=S.keep (m:=4) w i5;have W:=a7.keep (m:=4) w i5;refine⟨⟨a0.box.cell i0,trivial⟩,?_⟩;refine(c4.keep (m:=4) w i5).set af (λ_=>rfl) i0 (fm rows op i).toNat i4 i4 eR i0 i0 i0 λd6 ay y=>?_;have d8:=a0.keep (m:=3) y i5;have cf:=W.keep (m:=3) y i5;refine⟨trivial,?_⟩;have du:=lr (op:=op) (j:=(fm rows op i).toNat) a5;rw[pz ab hst]at a4;refine⟨(f',op.set (fm rows op i).toNat eR,us.set i eL,st++[((i:Int),fm rows op i)],dd,_,d0,ds),i0,⟨by simp[a6],by simp[I],i6,i6,i7,i6,⟨_,i0,?_⟩,
       ((((F.keep d i5).keep q i5).keep x i5).keep w i5).keep y i5,
       ((((ah.keep d i5).keep q i5).keep x i5).keep w i5).keep y i5,
       cf,ay,c6.keep y i5,(b5.keep w i5).keep y i5,((b4.keep x i5).keep w i5).keep y i5,
       ((((Q.keep d i5).keep q i5).keep x i5).keep w i5).keep y i5⟩,i6⟩
      rw[bd,<-a4];simp
     |none=>
      have dp:=ud (rows:=rows) (us:=us) ab;refine⟨((0,0),eR),i0,?_⟩;dsimp only;refine wd af (K.keep (m:=9) z i5) 9 i0 λax h9 has p=>?_;refine has.kg af i0 _ i0 i0 i0 (qm _) λb3 P g=>?_;refine Af i0 ?_;have F:=((K.keep (m:=9) z i5).keep (m:=9) p i5).keep (m:=9) g i5;have ah:=((ar.keep (m:=9) z i5).keep (m:=9) p i5).keep (m:=9) g i5;have V:=((T.keep (m:=9) z i5).keep (m:=9) p i5).keep (m:=9) g i5;have U:=((Z.keep (m:=9) z i5).keep (m:=9) p i5).keep (m:=9) g i5;have X:=((O.keep (m:=9) z i5).keep (m:=9) p i5).keep (m:=9) g i5;have B:=((M.keep (m:=9) z i5).keep (m:=9) p i5).keep (m:=9) g i5;have R:=((J.keep (m:=9) z i5).keep (m:=9) p i5).keep (m:=9) g i5;have Q:=((L.keep (m:=9) z i5).keep (m:=9) p i5).keep (m:=9) g i5;clear K ar T Z O M J L z p has a3;generalize grow (grow (grow c h7.size 9) h8.size 9) h9.size 9=c10 at*;have a3:=Vq hl F V U X I i4 G;refine(So a l o u rows rs op us b3 a3 i4 i4).mono ?_;rintro v cp ⟨d,rfl⟩;have d:=d.bD c10 9;refine⟨_,i0,?_⟩;refine⟨ds,(B.keep (m:=9) d i5).box.cell i0,?_⟩;refine Lb af (F.keep (m:=9) d i5) 10 av ⟨_,_,i0,i0,i0,i0,i0,i0⟩ i0 [ij rows op us] i0 (zL i0) i0 λv d2 c2 q=>?_;refine((Q.keep (m:=9) d i5).keep (m:=10) q i5).append af ⟨_,_,i0,i0,i0,i0,i0,i0⟩ ⟨_,_,i0,i0⟩ i0 i5 (λ_=>rfl) (c2.seq λ_=>rfl) fD i7 λea dk b2 x=>?_;refine(((B.keep (m:=9) d i5).keep (m:=10) q i5).keep (m:=7) x i5).store af i0 1 _ i0 i0 i0 (zL i0) λd5 cd w=>?_;have W:=(((V.keep (m:=9) d i5).keep (m:=10) q i5).keep (m:=7) x i5).keep (m:=5) w i5;have cl:=(((U.keep (m:=9) d i5).keep (m:=10) q i5).keep (m:=7) x i5).keep (m:=5) w i5;refine⟨a,i0,o,W.box.cell i0,?_⟩;refine cl.set af (λ_=>rfl) i0 (ij rows op us).toNat i4 i4 eR i0 i0 i0 λd6 ay y=>?_;have du:=lr (op:=op) (j:=(ij rows op us).toNat) dp.2.2;rw[pA ab hst]at a4;refine⟨(f',op.set (ij rows op us).toNat eR,us,st,dd++[ij rows op us],_,ss,ea),i0,⟨by simp[a6],I,i6,i6,i6,i7,⟨_,i0,?_⟩,
       ((((F.keep d i5).keep q i5).keep x i5).keep w i5).keep y i5,
       ((((ah.keep d i5).keep q i5).keep x i5).keep w i5).keep y i5,
       W.keep y i5,ay,((((X.keep d i5).keep q i5).keep x i5).keep w i5).keep y i5,cd.keep y i5,
       ((((R.keep d i5).keep q i5).keep x i5).keep w i5).keep y i5,
       (b2.keep w i5).keep y i5⟩,i6⟩
      rw[bd,<-a4];simp
theorem Ot(pool:List (Sl×Row))(d:(⟨eH,0,0⟩,[])∈pool)(n:Nat):iy pool id (qh n ⟨eH,0,0⟩) (qh n []):=
 ⟨i9,λi r l a b=>by
  rw[we]at a b;split at a
  ·rename_i c;rw[f9 c]at b;cases a;cases b;exact d
  ·cases a⟩
theorem aa.ahM{B:aD}{b h:f8}{As:List HP}(H:aa B b h As)(i:Nat){pool:List (Sl×Row)}(c:As[i]?=dB (lJ pool)):aa B b h (As.set i (lJ ((⟨eH,0,0⟩,[])::pool))):=
 H.fZ i c λq d x a=>by
  rcases zb.1 a with rfl|a
  ·exact Seq.nil _ _ _ _ _ _
  ·exact d x a
structure ZY (h:f8) (f:eX) (r st dd lf:Sl) (rr:List (Sl×Sl)) (R:List fv) (ST:List (Int×Int)) (D L:aC):Prop where
 field:fM h f
 rest:oC jL 2 qv h r rr R
 steps:Rd h st 2 fQ ST
 dead:Rd h dd 1 av D
 left:Rd h lf 1 av L
abbrev SA(s:eX)(a:bg):HP:=au s 281 a
abbrev HA(s:Sl)(rs:List Sl):HP:=ak 34 s 1 bw rs
abbrev RA(s:Sl)(l:Row):HP:=ak 5 s 1 aF l
theorem Rm{R:ct}:∀{l1 l2:List (Int×Int)} {D:Int->Prop},uf R D (l1++l2)->uf R D l1/\uf R (λx=>D x∨∃i,(i,x)∈l1) l2
 |[],l2,D,h=>⟨trivial,by
  have:(λx=>D x∨∃i,(i,x)∈([]:List (Int×Int)))=D:=by funext x;simp
  rw[this];exact h⟩
 |(i,c)::l1,l2,D,h=>by
  obtain⟨a,b,f,d,e⟩:=h;obtain⟨g,k⟩:=Rm e;refine⟨⟨a,b,f,d,g⟩,?_⟩;have:(λx=>D x∨∃j,(j,x)∈(i,c)::l1)=λx=>(D x∨x=c)∨∃j,(j,x)∈l1:=by
   funext x;simp only[zb,Prod.mk.injEq,eq_iff_iff];constructor
   ·rintro(h|⟨j,⟨_,h⟩|h⟩)
    ·exact .inl (.inl h)
    ·exact .inl (.inr h)
    ·exact .inr ⟨j,h⟩
   ·rintro((h|h)|⟨j,h⟩)
    ·exact .inl h
    ·exact .inr ⟨i,.inl ⟨i0,h⟩⟩
    ·exact .inr ⟨j,.inr h⟩
  rw[this];exact k
section
variable {B:aD} {h0 h:f8} {As:List HP}
theorem Xb(s f:eX)(p:Int×Int×Int)(v r Y W lf P S:Sl)(n:Nat)(pool:List (Sl×Row))(H:aa B h0 h (SA s (gH f p v r Y W lf P S)::lJ pool::As))(l:v.len=n)(hn:n<=64){K:Unit->f8->Prop}
  (O:∀i d h',i.len=n->d.len=n->aa B h0 h' (SA s (gH f p v r Y W lf i d)::HA i (qh n ⟨eH,0,0⟩)::HA d (qh n ⟨eH,0,0⟩)::lJ pool::As)->K () h'):(λ(c:aO) (Q:Unit->f8->Prop)=>
 ∃a3:eX,(c=dB a3)/\
 ∃b:Sl,f7 h (a3.add 4)=dB (xr b.ptr b.len b.cap)/\
 ∃a5:eX,(c=dB a5)/\
 ∃a:Sl,f7 h (a5.add 4)=dB (xr a.ptr a.len a.cap)/\
 (aB xB (qF 85 (xq xx ((b.len:Nat):Int)) (xq xx ((b.len:Nat):Int))) (.one (.sc .slc)) h λy G=>
 (az.ok [(a5.add 4,(xr a.ptr a.len a.cap)),(a3.add 4,(xr b.ptr b.len b.cap))] G)/\
 ∃N:eX,(c=dB N)/\
 (aB xB (qF 85 (xq xx ((a.len:Nat):Int)) (xq xx ((a.len:Nat):Int))) (.one (.sc .slc)) G λv9 D=>
 (az.ok [(a5.add 4,(xr a.ptr a.len a.cap)),(a3.add 4,(xr b.ptr b.len b.cap))] D)/\
 ag xB (qf 85 (xt (dB (N.add 9))) (xr y.ptr y.len y.cap)) D λ_ h3=>
 (az.ok [] h3)/\
 ∃z:eX,(c=dB z)/\
 ag xB (qf 85 (xt (dB (z.add 10))) (xr v9.ptr v9.len v9.cap)) h3 λ_ q=>
 (az.ok [] q)/\
 Q () q)/\(ag xB (qf 85 (xt (dB (N.add 9))) (xr y.ptr y.len y.cap)) G λ_ Z=>
 (az.ok [] Z)/\
 aB xB (qF 85 (xq xx ((a.len:Nat):Int)) (xq xx ((a.len:Nat):Int))) (.one (.sc .slc)) Z λu V=>
 (az.ok [] V)/\
 ∃A:eX,(c=dB A)/\
 ag xB (qf 85 (xt (dB (A.add 10))) (xr u.ptr u.len u.cap)) V λ_ T=>
 (az.ok [] T)/\
 Q () T))/\(aB xB (qF 85 (xq xx ((a.len:Nat):Int)) (xq xx ((a.len:Nat):Int))) (.one (.sc .slc)) h λt h8=>
 (az.ok [(a5.add 4,(xr a.ptr a.len a.cap)),(a3.add 4,(xr b.ptr b.len b.cap))] h8)/\
 aB xB (qF 85 (xq xx ((b.len:Nat):Int)) (xq xx ((b.len:Nat):Int))) (.one (.sc .slc)) h8 λw U=>
 (az.ok [(a5.add 4,(xr a.ptr a.len a.cap)),(a3.add 4,(xr b.ptr b.len b.cap))] U)/\
 ∃E:eX,(c=dB E)/\
 ag xB (qf 85 (xt (dB (E.add 9))) (xr w.ptr w.len w.cap)) U λ_ J=>
 (az.ok [] J)/\
 ∃I:eX,(c=dB I)/\
 ag xB (qf 85 (xt (dB (I.add 10))) (xr t.ptr t.len t.cap)) J λ_ L=>
 (az.ok [] L)/\
 Q () L)) (dB s) K:=by
 have X:=H.box 0 i0;refine⟨s,i0,v,X.cell i0,s,i0,v,X.cell i0,?_,?_⟩
 ·refine H.make af bw fL i5 ⟨eH,0,0⟩ i0 i0 n n n8 n8 (qm _) i4 λi G o R m=>?_;have m:=m.bA;have j:=m.box 1 i0;refine⟨⟨j.cell i0,j.cell i0,trivial⟩,s,i0,?_,?_⟩
  ·refine m.make af bw fL i5 ⟨eH,0,0⟩ i0 i0 n n n8 n8 (qm _) i4 λd D k F e=>?_;have e:=e.bA;have g:=e.box 2 i0;refine⟨⟨g.cell i0,g.cell i0,trivial⟩,?_⟩;refine e.store af 2 i0 i0 9 [i] i0 i0 i0 nn λh3 x=>⟨trivial,s,i0,?_⟩
   refine x.store af 2 i0 i0 10 [d] i0 i0 i0 nn λq M=>⟨trivial,?_⟩
   exact O i d q o k (M.aX 4 [2,1,0,3])
  ·refine m.store af 1 i0 i0 9 [i] i0 i0 i0 nn λD e=>⟨trivial,?_⟩
   refine e.make af bw fL i5 ⟨eH,0,0⟩ i0 i0 n n n8 n8 (qm _) i4 λd h3 k F x=>⟨trivial,s,i0,?_⟩
   have x:=x.bA;refine x.store af 2 i0 i0 10 [d] i0 i0 i0 nn λq M=>⟨trivial,?_⟩
   exact O i d q o k (M.aX 4 [2,1,0,3])
 ·refine H.make af bw fL i5 ⟨eH,0,0⟩ i0 i0 n n n8 n8 (qm _) i4 λd G o R m=>?_;have m:=m.bA;have j:=m.box 1 i0;refine⟨⟨j.cell i0,j.cell i0,trivial⟩,?_⟩;refine m.make af bw fL i5 ⟨eH,0,0⟩ i0 i0 n n n8 n8 (qm _) i4 λi D k F e=>?_;have e:=e.bA;have g:=e.box 2 i0;refine⟨⟨g.cell i0,g.cell i0,trivial⟩,s,i0,?_⟩;refine e.store af 2 i0 i0 9 [i] i0 i0 i0 nn λh3 x=>⟨trivial,s,i0,?_⟩
  refine x.store af 2 i0 i0 10 [d] i0 i0 i0 nn λq M=>⟨trivial,?_⟩
  exact O i d q k o (M.aX 4 [2,0,1,3])
end
section
variable {B:aD} {h0 h:f8} {As:List HP}
theorem adc(n nd w:Nat)(d:aC):(gb n nd w d).1.length=n/\(gb n nd w d).2.length=n:=by
 unfold gb;have:∀(l:List (Int×Nat)) (s:aP×aP),(l.foldl (λs p=>(s.1.set p.1.toNat (oX nd p.2),s.2.set p.1.toNat (aM w))) s).1.length=ii s.1/\(l.foldl (λs p=>(s.1.set p.1.toNat (oX nd p.2),s.2.set p.1.toNat (aM w))) s).2.length=ii s.2:=by
  intro l
  induction l with
  |nil=>intro s;exact⟨i0,i0⟩
  |cons a l ih=>intro s;rw[zB];have:=ih (s.1.set a.1.toNat (oX nd a.2),s.2.set a.1.toNat (aM w));simpa using this
 have:=this d.zipIdx (qh n [],qh n []);simpa using this
abbrev Told(s f:eX)(p:Int×Int×Int)(v r c d e b a:Sl)(h i:List Sl)(g:List (Sl×Row)):List HP:=[SA s (gH f p v r c d e b a),HA b h,HA a i,lJ g]
theorem ZZ(s f:eX)(p:Int×Int×Int)(v r st O lf wa P:Sl)(I mr:List Sl)(pl:List (Sl×Row))(c:Int)(nd w:Nat)(H:aa B h0 h (Told s f p v r st O lf wa P I mr pl++As))(ar:0<=c)(hw:c.toNat<ii I)(hm:c.toNat<ii mr)(Y:p.2.2=w)(hd:O.len=nd)(ax:nd<=64)(N:w<=2^20){K:Unit->f8->Prop}
  (hk:∀a b h',aa B h0 h' (RA a (aM nd)::RA b (aM w)::(Told s f p v r st O lf wa P (I.set c.toNat a) (mr.set c.toNat b) pl++As))->K () h'):(λ(M:aO) (K3:Unit->f8->Prop)=>
 ∃o:eX,(M=dB o)/\
 ∃g:Sl,f7 h (o.add 9)=dB (xr g.ptr g.len g.cap)/\
 ∃a25:eX,(M=dB a25)/\
 ∃d:Sl,f7 h (a25.add 10)=dB (xr d.ptr d.len d.cap)/\
 ∃L:eX,(M=dB L)/\
 ∃j:Int,f7 h ((L.add 1).add 2)=dB (xq xx j)/\
 (aB xB (qF 34 (xq xx ((O.len:Nat):Int)) (xq xx ((O.len:Nat):Int))) (.one (.sc .slc)) h λl Q=>
 (az.ok [((L.add 1).add 2,(xq xx j)),(a25.add 10,(xr d.ptr d.len d.cap)),(o.add 9,(xr g.ptr g.len g.cap))] Q)/\
 ∃S:eX,(g.ptr=dB S/\0<=c/\c<((g.len:Nat):Int))/\
 (aB xB (qF 34 (xq xx j) (xq xx j)) (.one (.sc .slc)) Q λR ah=>
 (az.ok [(a25.add 10,(xr d.ptr d.len d.cap)),(o.add 9,(xr g.ptr g.len g.cap))] ah)/\
 ag xB (qf 34 (xt (dB (S.add (c.toNat*1)))) (xr l.ptr l.len l.cap)) ah λ_ t=>
 (az.ok [] t)/\
 ∃F:eX,(d.ptr=dB F/\0<=c/\c<((d.len:Nat):Int))/\
 ag xB (qf 34 (xt (dB (F.add (c.toNat*1)))) (xr R.ptr R.len R.cap)) t λ_ A=>
 (az.ok [] A)/\
 K3 () A)/\(ag xB (qf 34 (xt (dB (S.add (c.toNat*1)))) (xr l.ptr l.len l.cap)) Q λ_ D=>
 (az.ok [] D)/\
 aB xB (qF 34 (xq xx j) (xq xx j)) (.one (.sc .slc)) D λk q=>
 (az.ok [] q)/\
 ∃E:eX,(d.ptr=dB E/\0<=c/\c<((d.len:Nat):Int))/\
 ag xB (qf 34 (xt (dB (E.add (c.toNat*1)))) (xr k.ptr k.len k.cap)) q λ_ y=>
 (az.ok [] y)/\
 K3 () y))/\(aB xB (qF 34 (xq xx j) (xq xx j)) (.one (.sc .slc)) h λJ ap=>
 (az.ok [(a25.add 10,(xr d.ptr d.len d.cap)),(o.add 9,(xr g.ptr g.len g.cap))] ap)/\
 aB xB (qF 34 (xq xx ((O.len:Nat):Int)) (xq xx ((O.len:Nat):Int))) (.one (.sc .slc)) ap λW ad=>
 (az.ok [(a25.add 10,(xr d.ptr d.len d.cap)),(o.add 9,(xr g.ptr g.len g.cap))] ad)/\
 ∃am:eX,(g.ptr=dB am/\0<=c/\c<((g.len:Nat):Int))/\
 ag xB (qf 34 (xt (dB (am.add (c.toNat*1)))) (xr W.ptr W.len W.cap)) ad λ_ ao=>
 (az.ok [] ao)/\
 ∃Z:eX,(d.ptr=dB Z/\0<=c/\c<((d.len:Nat):Int))/\
 ag xB (qf 34 (xt (dB (Z.add (c.toNat*1)))) (xr J.ptr J.len J.cap)) ao λ_ ab=>
 (az.ok [] ab)/\
 K3 () ab)) (dB s) K:=by
 have hb:=H.box 0 i0;have mk:∀{X:f8} {Cs:List HP} (m:Nat) (hm:m<=2^20) {z1 z2:Int},z1=(m:Int)->z2=(m:Int)->aa B h0 X Cs->∀{K:Sl->f8->Prop},(∀a h',aa B h0 h' (RA a (aM m)::Cs)->K a h')->
   aB xB (qF 34 (xq xx z1) (xq xx z2)) (.one (.sc .slc)) X K:=by
  intro X Cs m hm z1 z2 e1 e2 G K hK;subst e1;subst e2;exact G.make af aF hJ i5 0 i0 i0 m m i0 i0 (qm _) i4 λa h' _ _ H'=>hK a h' H'.bA
 refine⟨s,i0,wa,hb.cell i0,s,i0,P,hb.cell i0,s,i0,p.2.2,show f7 h (s.add 3)=_ from hb.cell i0,?_,?_⟩
 ·refine mk nd i4 (by rw[hd]) (by rw[hd]) H λa X G=>?_;have n:=G.box 1 i0;refine⟨⟨show f7 X (s.add 3)=_ from n.cell i0,n.cell i0,n.cell i0,trivial⟩,?_⟩;have u:∀{h2:f8} {Cs:List HP} {I:List Sl} (i:Nat) (a:Sl) {s':Sl},aa B h0 h2 Cs->Cs[i]?=dB (HA s' I)->c.toNat<ii I->∀{K:f8->Prop},(∀h',aa B h0 h' (Cs.set i (HA s' (I.set c.toNat a)))->K h')->∃x:eX,(s'.ptr=dB x/\0<=c/\c<((s'.len:Nat):Int))/\ag xB (qf 34 (xt (dB (x.add (c.toNat*1)))) (xr a.ptr a.len a.cap)) h2 λ_ h'=>K h':=by intro h2 Cs I i a s' U hi hl K hK;exact U.set af i hi (λ_=>rfl) i0 c.toNat i4 hl a i0 i0 i0 λh3 T=>hK h3 T
  obtain⟨x,hx,-⟩:=u (K:=λ_=>True) 2 a G rfl hw λ_ _=>trivial;refine⟨x,hx,?_,?_⟩
  ·refine mk w N Y Y G λb h2 U=>?_;have z:=U.box 2 i0;refine⟨⟨z.cell i0,z.cell i0,trivial⟩,?_⟩;obtain⟨x',V,hr⟩:=u (K:=λt=>az.ok [] t/\∃F:eX,(P.ptr=dB F/\0<=c/\c<((P.len:Nat):Int))/\
 ag xB (qf 34 (xt (dB (F.add (c.toNat*1)))) (xr b.ptr b.len b.cap)) t λ_ A=>(az.ok [] A)/\K () A) 3 a U i0 hw λh3 T=>⟨trivial,u 4 b T i0 hm λh4 H4=>⟨trivial,hk a b h4 (H4.aX 6 [1,0,2,3,4,5])⟩⟩
   have e:x=x':=zR.inj (hx.1.symm.trans V.1);subst e;exact hr
  ·obtain⟨x',V,hr⟩:=u (K:=λD=>az.ok [] D/\aB xB (qF 34 (xq xx p.2.2) (xq xx p.2.2)) (.one (.sc .slc)) D λk q=>
 (az.ok [] q)/\
 ∃E:eX,(P.ptr=dB E/\0<=c/\c<((P.len:Nat):Int))/\
 ag xB (qf 34 (xt (dB (E.add (c.toNat*1)))) (xr k.ptr k.len k.cap)) q λ_ y=>
 (az.ok [] y)/\K () y) 2 a G i0 hw λh3 T=>⟨trivial,mk w N Y Y T λb h4 H4=>⟨trivial,u 4 b H4 i0 hm λh5 H5=>⟨trivial,hk a b h5 (H5.aX 6 [1,0,2,3,4,5])⟩⟩⟩
   have e:x=x':=zR.inj (hx.1.symm.trans V.1);subst e;exact hr
 ·refine mk w N Y Y H λb X G=>?_;have n:=G.box 1 i0;refine⟨⟨n.cell i0,n.cell i0,trivial⟩,?_⟩;refine mk nd i4 (by rw[hd]) (by rw[hd]) G λa h2 U=>?_;have z:=U.box 2 i0;refine⟨⟨z.cell i0,z.cell i0,trivial⟩,?_⟩;refine U.set af 3 i0 (λ_=>rfl) i0 c.toNat i4 hw a i0 i0 i0 λh3 T=>⟨trivial,?_⟩
  refine T.set af 4 i0 (λ_=>rfl) i0 c.toNat i4 hm b i0 i0 i0 λh4 H4=>⟨trivial,hk a b h4 (H4.aX 6 [0,1,2,3,4,5])⟩
end
section
variable {B:aD} {h0 h:f8} {As:List HP}
theorem Vr{h:f8}{Cs:List HP}(x:Sl)(m:Row)(nd:Nat)(z:Int)(H:aa B h0 h Cs)(A:z=nd)(w:nd<=64)(E:ii m<=2^20){L L2:az}(y:L.ok h)(n:L2.ok h)(t:St B h0 Cs λh=>Rd h x 1 aF m){K:Sl->Sl->f8->Prop}
  (r:∀a b h',be (λb=>b<h.size) h h'->aa B h0 h' (RA a (aM nd)::RA b m::Cs)->K a b h'):
  (aB xB (qF 34 (xq xx z) (xq xx z)) (.one (.sc .slc)) h λk d=>
 (az.ok L d)/\
 ae xB 146 #[(xr x.ptr x.len x.cap)] (.one (.sc .slc)) d λf o=>K k f o)/\(ae xB 146 #[(xr x.ptr x.len x.cap)] (.one (.sc .slc)) h λg e=>
 (az.ok L2 e)/\
 aB xB (qF 34 (xq xx z) (xq xx z)) (.one (.sc .slc)) e λl j=>K l g j):=by
 subst A;constructor
 ·refine H.Sz af aF hJ i5 0 i0 i0 nd nd i0 i0 (qm _) i4 λa u _ q c=>⟨kL q y,?_⟩
  have c:=c.bA;refine(fa x m u (t.at [_] c) i4).mono ?_;rintro _ i ⟨b,rfl,s⟩;exact⟨b,i0,r a b i (up q s.aj) ((c.co s).oB)⟩
 ·refine(fa x m h (t.at [] H) i4).mono ?_;rintro _ u ⟨b,rfl,p⟩;have c:=H.co p;refine⟨b,i0,kL p.aj n,?_⟩;refine c.Sz af aF hJ i5 0 i0 i0 nd nd i0 i0 (qm _) i4 λa i _ D v=>?_;exact r a b i (up p.aj D) v.bA
structure mN (pool pl:List (Sl×Row)) (wr mr:List Sl) (W M:aP):Prop where
 sub:∀x∈pool,x∈pl
 way:iy pl id wr W
 more:iy pl id mr M
theorem mN.step{pool e:List (Sl×Row)}{f g:List Sl}{W M:aP}(x:mN pool e f g W M)(c:Nat)(a b:Sl)(l m:Row):mN pool ((b,m)::(a,l)::e) (f.set c a) (g.set c b) (W.set c l) (M.set c m):=
 ⟨λy d=>by simp[x.sub y d],(x.way.mono λy d=>p8).set c i9,(x.more.mono λy d=>p8).set c i9⟩
theorem aaa(s f:eX)(p:Int×Int×Int)(v r A o G a9 a6:Sl)(rr:List (Sl×Sl))(R:List fv)(ST:List (Int×Int))(D L:aC)(n nd w:Nat)(pool:List (Sl×Row))(H:aa B h0 h (SA s (gH f p v r A o G a9 a6)::lJ pool::As))(Z:St B h0 As λh=>ZY h f r A o G rr R ST D L)
  (hv:v.len=n) (hn:n<=64) (hp:p.2.2=w) (hw:w<=2^20) (b9:ii D=nd) (ad:nd<=64) (hR:∀e∈R,jf n w e) (hD:∀c∈D,0<=c/\c<(n:Int)) (bk:D.Nodup) (hg:uf (R.map qH) (·∈D) ST) (cc:ii ST<=2^20) (b6:∀e∈R,ii e.1<=2^20) (a3:(⟨eH,0,0⟩,[])∈pool):
  ac xB 218 #[xt (dB s)] h λv' h'=>v'=.tuple #[]/\∃d l z u N,aa B h0 h' (Told s f p v r A o G d l z u N++As)/\mN pool N z u (ST.foldl (ik R nd) (gb n nd w D)).1 (ST.foldl (ik R nd) (gb n nd w D)).2:=by
 refine By (dB s) ?_;unfold pP;have hb:=H.box 0 i0;have ax:o.len=nd:=by rw[(Z.at [_,_] H).dead.len,b9]
 refine⟨s,i0,o,show f7 h (s.add 7)=_ from hb.cell i0,?_⟩;refine bX (λ_ h'=>∃d l,d.len=n/\l.len=n/\aa B h0 h' (Told s f p v r A o G d l (qh n ⟨eH,0,0⟩) (qh n ⟨eH,0,0⟩) pool++As)) ?_ ?_
 ·exact Xb (K:=λ_ h'=>∃d l,d.len=n/\l.len=n/\aa B h0 h' (Told s f p v r A o G d l (qh n ⟨eH,0,0⟩) (qh n ⟨eH,0,0⟩) pool++As)) s f p v r A o G a9 a6 n pool H hv hn λd l h' h1 h2 O=>⟨d,l,h1,h2,O⟩
 rintro-h1 ⟨d,l,c0,cl,H1⟩;have b3:=H1.box 0 i0;refine⟨s,i0,o,show f7 h1 (s.add 7)=_ from b3.cell i0,?_⟩;refine aA (λt:Nat×List Sl×List Sl×List (Sl×Row)=>(t.1:Int)) (λt h'=>t.1<=nd/\aa B h0 h' (Told s f p v r A o G d l t.2.1 t.2.2.1 t.2.2.2++As)/\mN pool t.2.2.2 t.2.1 t.2.2.1 (gb n nd w (D.take t.1)).1 (gb n nd w (D.take t.1)).2) (λt=>nd-t.1)
  (0,qh n ⟨eH,0,0⟩,qh n ⟨eH,0,0⟩,pool) i0 ⟨i4,H1,⟨λ_ h=>h,Ot pool a3 n,Ot pool a3 n⟩⟩ ?_
 rintro⟨i,z,u,N⟩ h2 ⟨hi,H2,T2⟩;dsimp only at*;have b5:=adc n nd w (D.take i);have P:=T2.way.1;have V:=T2.more.1;refine ai (λe=>?_) (λe=>?_)
 ·have Y:i<nd:=i4
  have S:=hD _ (qg (show i<ii D by omega));refine(Z.at [_,_,_,_] H2).dead.bH i i0 i4 _ i0 ?_;refine bX (λ_ h'=>∃a b,aa B h0 h' (RA a (aM nd)::RA b (aM w)::(Told s f p v r A o G d l (z.set D[i].toNat a) (u.set D[i].toNat b) N++As))) ?_ ?_
  ·exact ZZ (K:=λ_ h'=>∃a b,aa B h0 h' (RA a (aM nd)::RA b (aM w)::(Told s f p v r A o G d l (z.set D[i].toNat a) (u.set D[i].toNat b) N++As))) s f p v r A o G d l z u N D[i] nd w H2 S.1 i4 i4 hp ax ad hw λa b h' O=>⟨a,b,O⟩
  rintro-h3 ⟨a,b,H3⟩;refine⟨s,i0,d,(H3.box 2 i0).cell i0,?_⟩;refine(H3.seq 3 i0 λ_=>rfl).mq D[i].toNat i4 i7 ?_;rw[yl];refine H3.set af 0 i0 (λ_=>rfl) i0 i i0 (by simp[aM];omega) 1 i0 i0 i0 λh4 H4=>?_;have H5:=(H4.freeze 0 i0 λ_=>rfl).pool 5 0 i5 i0 i0;have H6:=(H5.freeze 1 i0 λ_=>rfl).pool 5 1 i5 i0 i0;refine⟨(i+1,z.set D[i].toNat a,u.set D[i].toNat b,_),jj,⟨i6,H6.aX 6 [2,3,4,5],?_⟩,i6⟩;dsimp only;have e1:D.take (i+1)=D.take i++[D[i]]:=aK _ _;have e2:ii (D.take i)=i:=i7
  rw[e1,MJ,e2];exact T2.step D[i].toNat a b (oX nd i) (aM w)
 have ap:i=ii D:=i4
 subst ap;rw[qY]at T2 b5 P V;refine⟨s,i0,A,(H2.box 0 i0).cell i0,?_⟩;have cd:=(Z.at [_,_,_,_] H2).steps.len;refine aA (λt:Nat×List Sl×List Sl×List (Sl×Row)=>(t.1:Int)) (λt h'=>t.1<=ii ST/\aa B h0 h' (Told s f p v r A o G d l t.2.1 t.2.2.1 t.2.2.2++As)/\mN pool t.2.2.2 t.2.1 t.2.2.1 ((ST.take t.1).foldl (ik R nd) (gb n nd w D)).1 ((ST.take t.1).foldl (ik R nd) (gb n nd w D)).2) (λt=>ii ST-t.1)
  (0,z,u,N) i0 ⟨i9,H2,T2⟩ ?_
 clear P V T2 H2 hi e;rintro⟨i,z,u,N⟩ h3 ⟨hi,H3,T3⟩;dsimp only at*;obtain⟨dk,-⟩:=Pd (nd:=nd) (w:=w) hD bk D.length (qm _);rw[qY]at dk;have bd:=Rm (l1:=ST.take i) (l2:=ST.drop i) (by rw[qE];exact hg);obtain⟨a8,-⟩:=Lq hR bd.1 dk;obtain⟨W,hW⟩:∃W,W=((ST.take i).foldl (ik R nd) (gb n nd w D)).1:=⟨_,rfl⟩
 obtain⟨M,hM⟩:∃M,M=((ST.take i).foldl (ik R nd) (gb n nd w D)).2:=⟨_,rfl⟩
 have ao:(ST.take i).foldl (ik R nd) (gb n nd w D)=(W,M):=by rw[hW,hM]
 have I:WOk n nd w (λc=>c∈D∨∃j,(j,c)∈ST.take i) W M:=by rw[hW,hM];exact a8
 rw[<-hW,<-hM]at T3;clear a8 hW hM;have cf:=I.wl;have cn:=I.ml;have P:=T3.way.1;have V:=T3.more.1;refine ai (λe=>?_) (λe=>?_)
 ·have Y:i<ii ST:=i4
  have ah:=bd.2;rw[qP Y]at ah;obtain⟨row,bD,ar⟩:∃row bD,ST[i]=(row,bD):=⟨_,_,rfl⟩
  rw[ar]at ah;obtain⟨g1,g2,g3,g4,-⟩:=ah;have m:row.toNat<ii R:=by have:=g1.2;rw[qz]at this;omega
  obtain⟨k,X⟩:∃k,k=R[row.toNat]:=⟨_,rfl⟩
  have er:R.getD row.toNat ([],[])=k:=by rw[qe,qd m,X];rfl
  have bs:(R.map qH).getD row.toNat []=k.1:=by rw[qe,qT,qd m,X];rfl
  rw[bs]at g3 g4;have J:=hR k (X▸qg m);have cs:=b6 k (X▸qg m);have cq:=J.cY bD g3;have G3:=Z.at [_,_,_,_] H3;have hF:=G3.rest.2.1;refine G3.steps.eu (g:=fQ) i i0 Y ST[i] i0 ?_;rw[ar];refine H3.Hb af i0 λa50 h4 P4 H4=>?_;have H4:=H4.bA;refine H4.storeAll af 0 i0 i0 (fQ (row,bD)) i0 i0 i0 i0 λh5 H5=>?_;have b7:row.toNat<ii rr:=by rw[hF];exact m
  obtain⟨y,hy⟩:∃y,y=rr[row.toNat]:=⟨_,rfl⟩
  have E:∀{h'},oC jL 2 qv h' r rr R->jL.p h' (λb=>b<h'.size) y k:=λhh=>by rw[hy,X];exact Fix.row hh m
  refine bX (λa' h'=>aa B h0 h' (au a' 275 (qv y)::au a50 332 (fQ (row,bD))::(Told s f p v r A o G d l z u N++As))) ?_ ?_
  ·have ay:=H5.box 1 i0;have G5:=Z.at [_,_,_,_,_] H5;refine⟨s,i0,r,ay.cell i0,row,(H5.box 0 i0).cell0 i0,?_⟩;obtain⟨bl,ha,x,S,rfl⟩:=G5.rest.1.eu (g:=qv) (i:=row) row.toNat i4 b7 y (by rw[hy]) (K:=λx=>x=y) rfl;refine⟨bl,ha,_,S,?_⟩;refine H5.Hb af i0 λU h6 P6 H6=>⟨⟨pV S.1 P6,pV S.2.1 P6,pV ((H5.box 0 i0).cell0 i0) P6,pV (ay.cell i0) P6,trivial⟩,?_⟩
   have H6:=H6.bA;refine H6.storeAll af 0 i0 i0 (qv x) i0 i0 i0 i0 λh7 H7=>⟨trivial,H7⟩
  intro U h7 H7;refine bX (λt h'=>aa B h0 h' (RA t.1 (aM nd)::RA t.2 k.2::au U 275 (qv y)::au a50 332 (fQ (row,bD))::(Told s f p v r A o G d l z u N++As))) ?_ ?_
  ·have a0:=H7.box 0 i0;refine⟨y.2,a0.cell i0,?_⟩;exact Vr (L:=[(U.add 1,xr y.2.ptr y.2.len y.2.cap)]) (K:=λa b h'=>az.ok [] h'/\aa B h0 h' (RA a (aM nd)::RA b k.2::au U 275 (qv y)::au a50 332 (fQ (row,bD))::(Told s f p v r A o G d l z u N++As))) y.2 k.2 nd _ H7 (by rw[ax]) ad (by rw[J.len];exact hw) ⟨a0.cell i0,trivial⟩ (L2:=[]) trivial (St.mk' λh' O=>(E (Z.at [_,_,_,_,_,_] O).rest).2) λa b h' _ O=>⟨trivial,O⟩
  rintro⟨T,q⟩ h8 H8;dsimp only at H8;refine⟨y.1,(H8.box 2 i0).cell0 i0,?_⟩;have cr:=(E (Z.at [_,_,_,_,_,_,_,_] H8).rest).1.len;let F:Nat->aC:=λj=>(k.1.take j).filter λc=>!decide (c=bD);refine aA (λj:Nat=>(j:Int)) (λj h'=>j<=ii k.1/\aa B h0 h' (RA T (cW W (aM nd) (F j))::RA q (cW M k.2 (F j))::au U 275 (qv y)::au a50 332 (fQ (row,bD))::(Told s f p v r A o G d l z u N++As))) (λj=>ii k.1-j) 0 i0 ⟨i4,by simpa[F,cW]using H8⟩ ?_;rintro j h9 ⟨hj,H9⟩;have told:∀c∈F j,ii (aE W c.toNat)=nd/\(aE M c.toNat).length=w:=λc S=>by
   have a1:=qI.1 S;have hm:=zA a1.1;exact I.rw_ c (g4 c hm (by simpa using a1.2)) (J.cY c hm).1 (J.cY c hm).2
  have a2:ii (cW W (aM nd) (F j))=nd:=ko k8 λc S=>(told c S).1;have a4:ii (cW M k.2 (F j))=w:=ko J.len λc S=>(told c S).2;refine ai (λe2=>?_) (λe2=>?_)
  ·have Q:j<ii k.1:=i4
   have am:=J.cY _ (qg Q);refine(E (Z.at [_,_,_,_,_,_,_,_] H9).rest).1.bH j i0 Q _ i0 ?_;refine⟨bD,(H9.box 3 i0).cell i0,?_⟩;refine cb (λa7=>?_) (λbq=>?_)
   ·have tc:=I.rw_ k.1[j] (g4 _ (qg Q) a7) am.1 am.2;refine(IY s f 1 k.1[j] T q d l _ _ z u W M H9 (St.mk' λh' O=>?_) am.1 i4 i4 (by rw[tc.1,a2]) (by rw[tc.2,a4]) i4 i4).mono ?_
    ·exact Eh.of (O.box 2 i0) (Z.at [_,_,_,_,_,_] O).field (O.Fu 3 5 i0 i0 T3.way) (O.Fu 4 5 i0 i0 T3.more)
    rintro _ b0 ⟨rfl,ab⟩;have e3:F (j+1)=F j++[k.1[j]]:=by simp only[F];rw[jY _ _ Q];simp[a7]
    exact⟨(),i0,j+1,js,⟨i4,by rw[e3,uz,uz];exact ab⟩,i4⟩
   ·have e3:F (j+1)=F j:=by simp only[F];rw[jY _ _ Q];simp[bq]
    exact⟨j+1,js,⟨i4,by rw[e3];exact H9⟩,i4⟩
  ·have b2:j=ii k.1:=i4
   subst b2;have bb:=H9.box 3 i0;have a5:=H9.box 4 i0;refine⟨s,i0,d,a5.cell i0,bD,bb.cell i0,s,i0,l,a5.cell i0,bD,bb.cell i0,?_⟩;refine H9.set af 5 i0 (λ_=>rfl) i0 bD.toNat i4 i4 T i0 i0 i0 λb0 ab=>⟨⟨(ab.box 3 i0).cell i0,trivial⟩,?_⟩
   refine ab.set af 6 i0 (λ_=>rfl) i0 bD.toNat i4 i4 q i0 i0 i0 λcp b4=>⟨trivial,?_⟩
   have br:=(b4.freeze 0 i0 λ_=>rfl).pool 7 0 i5 i0 i0;have b1:=(br.freeze 1 i0 λ_=>rfl).pool 7 1 i5 i0 i0;refine⟨(i+1,z.set bD.toNat T,u.set bD.toNat q,_),jj,⟨i6,b1.aX 8 [4,5,6,7],?_⟩,i6⟩;dsimp only;rw[aK _ _ Y,zN,ao,ar];have e3:[(row,bD)].foldl (ik R nd) (W,M)=(W.set bD.toNat (cW W (aM nd) (F k.1.length)),M.set bD.toNat (cW M k.2 (F k.1.length))):=by simp only[zB,List.foldl_nil,ik,er,F,qY]
   rw[e3];exact T3.step bD.toNat T q _ _
 ·have ap:i=ii ST:=i4
  subst ap;rw[qY]at ao;exact⟨i0,d,l,z,u,N,H3,by rw[ao];exact T3⟩
end
def kZ(nd:Nat)(known:List Bool)(vals:aP)(s:aP×aP)(i:Nat):aP×aP:=
 (s.1.mapIdx λc r=>if c<i/\known.getD c eR=eL then aM nd else r,s.2.mapIdx λc r=>if c<i/\known.getD c eR=eL then aE vals c else r)
theorem aab(nd:Nat)(known:List Bool)(vals:aP)(s:aP×aP):kZ nd known vals s 0=s:=by unfold kZ;refine va ?_ ?_<;>refine wP i9 λi b a=>?_<;>simp
theorem ade(nd:Nat)(known:List Bool)(vals:aP)(s:aP×aP){n:Nat}(a:ii s.1=n)(b:ii s.2=n):kZ nd known vals s n=iK nd known vals s:=by unfold kZ iK;refine va ?_ ?_<;>refine wP i9 λi a b=>?_<;>simp at a<;>simp[show i<n by omega]
theorem adf(nd:Nat)(known:List Bool)(vals:aP)(s:aP×aP){i:Nat}(d:known.getD i eR=eL):kZ nd known vals s (i+1)=((kZ nd known vals s i).1.set i (aM nd),(kZ nd known vals s i).2.set i (aE vals i)):=by
 unfold kZ;refine va ?_ ?_<;>refine wP i9 λj f e=>?_<;>simp only[List.getElem_mapIdx,List.getElem_set]<;>by_cases c:i=j
 ·subst c;rw[f9 ⟨i4,d⟩,f9 rfl]
 ·rw[g0 c];congr 1;simp only[eq_iff_iff];constructor<;>rintro⟨a,b⟩<;>exact⟨i4,b⟩
 ·subst c;rw[f9 ⟨i4,d⟩,f9 rfl]
 ·rw[g0 c];congr 1;simp only[eq_iff_iff];constructor<;>rintro⟨a,b⟩<;>exact⟨i4,b⟩
theorem afv(nd:Nat)(known:List Bool)(vals:aP)(s:aP×aP){i:Nat}(e:known.getD i eR=eR):kZ nd known vals s (i+1)=kZ nd known vals s i:=by
 have c:∀j,(j<i+1/\known.getD j eR=eL)↔(j<i/\known.getD j eR=eL):=λj=>by
  constructor
  ·rintro⟨a,b⟩;by_cases d:j=i
   ·subst d;rw[e]at b;cases b
   ·exact⟨i4,b⟩
  ·rintro⟨a,b⟩;exact⟨i4,b⟩
 unfold kZ;simp only[c]
section
variable {B:aD} {h0 h:f8} {As:List HP}
theorem adg(s f:eX)(p:Int×Int×Int)(v r N y O I J:Sl)(j g d:List Sl)(k:List (Sl×Row))(known:List Bool)(V W M:aP)(n nd:Nat)(H:aa B h0 h (Told s f p v r N y O I J g d k++HA v j::As))(hn:n<=64)(z:y.len=nd)(U:nd<=64)(hT:mN k k g d W M)(S:iy k id j V)(Y:ii V=n)(F:ii W=n)(D:ii M=n)
  (X:∀(c:Nat) (hc:c<ii j),j[c].ptr.isNone=!(known.getD c eR)):
  ac xB 219 #[xt (dB s)] h λv' h'=>v'=.tuple #[]/\∃g d b,aa B h0 h' (Told s f p v r N y O I J g d b++HA v j::As)/\mN k b g d (iK nd known V (W,M)).1 (iK nd known V (W,M)).2:=by
 refine CP (dB s) ?_;unfold rN;have Q:=S.1;have L:v.len=n:=by rw[(H.own 4 i0).len];omega
 refine⟨s,i0,v,(H.box 0 i0).cell i0,?_⟩;refine aA (λt:Nat×List Sl×List Sl×List (Sl×Row)=>(t.1:Int)) (λt h'=>t.1<=n/\aa B h0 h' (Told s f p v r N y O I J t.2.1 t.2.2.1 t.2.2.2++HA v j::As)/\mN k t.2.2.2 t.2.1 t.2.2.1 (kZ nd known V (W,M) t.1).1 (kZ nd known V (W,M) t.1).2) (λt=>n-t.1) (0,g,d,k) i0 ⟨i4,H,by rw[aab];exact hT⟩ ?_;rintro⟨i,g,d,b⟩ h1 ⟨hi,A,l⟩;dsimp only at*;have ab:(kZ nd known V (W,M) i).1.length=n:=by simp[kZ,F]
 have T:(kZ nd known V (W,M) i).2.length=n:=by simp[kZ,D]
 have R:=l.way.1;have P:=l.more.1;refine ai (λe=>?_) (λe=>?_)
 ·have Z:i<n:=i4
  refine(A.seq 4 i0 λ_=>rfl).mq i i0 i4 ?_;have u:=X i i4;refine bo (λw=>?_) (λw=>?_)
  ·have o:known.getD i eR=eL:=by rw[u]at w;simpa using w
   have q:=A.box 0 i0;refine⟨s,i0,I,q.cell i0,s,i0,J,q.cell i0,s,i0,y,show f7 h1 (s.add 7)=_ from q.cell i0,?_⟩;refine A.Sz af aF hJ i5 0 i0 i0 nd nd (by rw[z]) (by rw[z]) (qm _) i4 λa h2 _ P2 G=>?_;have G:=G.bA;have m:=G.box 1 i0;refine⟨⟨show f7 h2 (s.add 7)=_ from m.cell i0,m.cell i0,m.cell i0,trivial⟩,?_⟩;refine G.set af 2 i0 (λ_=>rfl) i0 i i0 i4 a i0 i0 i0 λh3 H3=>⟨trivial,?_⟩
   refine H3.set af 3 i0 (λ_=>rfl) i0 i i0 i4 (j[i]'(by omega)) i0 i0 i0 λh4 H4=>⟨trivial,?_⟩
   have H5:=(H4.freeze 0 i0 λ_=>rfl).pool 4 0 i5 i0 i0;refine⟨(i+1,g.set i a,d.set i (j[i]'(by omega)),_),jj,⟨i6,H5.aX 5 [1,2,3,4],?_⟩,i6⟩;dsimp only;rw[adf nd known V (W,M) o];have hm:((j[i]'(by omega)),aE V i)∈k:=by have:=S.get (i:=i) i4;rw[mU i4];exact this
   exact⟨λx E=>qG _ (l.sub x E),(l.way.mono λx E=>qG _ E).set i k8,(l.more.mono λx E=>qG _ E).set i (qG _ (l.sub _ hm))⟩
  ·have o:known.getD i eR=eR:=by rw[u]at w;simpa using w
   exact⟨(i+1,g,d,b),jj,⟨i6,A,by dsimp only;rw[afv nd known V (W,M) o];exact l⟩,i6⟩
 ·have K:i=n:=i4
  subst K;exact⟨i0,g,d,b,A,by rw[<-ade nd known V (W,M) F D];exact l⟩
def oe(nd:Nat)(known:List Bool)(vals W M D:aP)(i:Nat):aP:=vals.mapIdx λc r=>if c<i/\known.getD c eR=eR then gY D (aE W c) (aE M c) nd else r
theorem adh(nd:Nat)(known:List Bool)(vals W M D:aP):oe nd known vals W M D 0=vals:=by unfold oe;refine wP i9 λi b a=>?_;simp
theorem afw(nd:Nat)(known:List Bool)(vals W M D:aP){n:Nat}(a:ii vals=n):oe nd known vals W M D n=Ay nd known vals W M D:=by
 unfold oe Ay;refine wP i9 λi a b=>?_;simp at a;simp only[List.getElem_mapIdx];cases hk:known.getD i eR
 ·rw[f9 ⟨i4,i0⟩,g0 i9]
 ·rw[g0 i9,f9 rfl]
theorem afx(nd:Nat)(known:List Bool)(vals W M D:aP){i:Nat}(e:known.getD i eR=eL):oe nd known vals W M D (i+1)=oe nd known vals W M D i:=by
 have c:∀j,(j<i+1/\known.getD j eR=eR)↔(j<i/\known.getD j eR=eR):=λj=>by
  constructor
  ·rintro⟨a,b⟩;by_cases d:j=i
   ·subst d;rw[e]at b;cases b
   ·exact⟨i4,b⟩
  ·rintro⟨a,b⟩;exact⟨i4,b⟩
 unfold oe;simp only[c]
theorem ahN(nd:Nat)(known:List Bool)(vals W M D:aP){i:Nat}(d:known.getD i eR=eR):oe nd known vals W M D (i+1)=(oe nd known vals W M D i).set i (gY D (aE W i) (aE M i) nd):=by
 unfold oe;refine wP i9 λj f e=>?_;simp only[List.getElem_mapIdx,List.getElem_set];by_cases c:i=j
 ·subst c;rw[f9 ⟨i4,d⟩,f9 rfl]
 ·rw[g0 c];congr 1;simp only[eq_iff_iff];constructor<;>rintro⟨a,b⟩<;>exact⟨i4,b⟩
theorem adi(s f:eX)(p:Int×Int×Int)(v r Y X Z O L dead:Sl)(g E z dr:List Sl)(A:List (Sl×Row))(known:List Bool)(V W M D:aP)(n nd w:Nat)(H:aa B h0 h (Told s f p v r Y X Z O L E z A++HA v g::As))(hS:St B h0 As λh=>fM h f/\iD h (λb=>b<h.size) dead 1 aF D dr)(hn:n<=64)(hw:w<=2^20)(bd:nd<=64)(U:mN A A E z W M)(hV:iy A id g V)(P:ii V=n)(a5:ii W=n)(bb:ii M=n)
  (F:∀c,c<n->ii (aE W c)=nd/\(aE M c).length=w) (a8:ii D=nd) (S:bc w D) (hk:∀(c:Nat) (l:c<ii g),g[c].ptr.isNone=!(known.getD c eR)):
  ac xB 222 #[xt (dB s),dead] h λv' h'=>v'=.tuple #[]/\∃N a,aa B h0 h' (Told s f p v r Y X Z O L E z a++HA v N::As)/\iy a id N (Ay nd known V W M D):=by
 refine DI (dB s) dead ?_;unfold sG;have a4:=hV.1;have am:v.len=n:=by rw[(H.own 4 i0).len];omega
 have a1:=U.way.1;have a3:=U.more.1;refine⟨s,i0,v,(H.box 0 i0).cell i0,?_⟩;refine aA (λt:Nat×List Sl×List (Sl×Row)=>(t.1:Int)) (λt h'=>t.1<=n/\aa B h0 h' (Told s f p v r Y X Z O L E z t.2.2++HA v t.2.1::As)/\iy t.2.2 id t.2.1 (oe nd known V W M D t.1)/\(∀x∈A,x∈t.2.2)/\∀(c:Nat) (l:c<ii t.2.1),t.1<=c->t.2.1[c].ptr.isNone=!(known.getD c eR)) (λt=>n-t.1) (0,g,A) i0 ⟨i4,H,by rw[adh];exact hV,λ_ h=>h,λc l _=>hk c l⟩ ?_;rintro⟨i,g,a⟩ h1 ⟨hi,o,T,d,q⟩;dsimp only at*;have a6:ii (oe nd known V W M D i)=n:=by simp[oe,P]
 have a2:=T.1;refine ai (λe=>?_) (λe=>?_)
 ·have ao:i<n:=i4
  have Q:=o.box 0 i0;refine⟨s,i0,v,Q.cell i0,?_⟩;refine(o.seq 4 i0 λ_=>rfl).mq i i0 i4 ?_;have I:=q i i4 (qm _);refine bo (λK=>?_) (λK=>?_)
  ·have y:known.getD i eR=eL:=by rw[I]at K;simpa using K
   exact⟨(i+1,g,a),jj,⟨i6,o,by dsimp only;rw[afx nd known V W M D y];exact T,d,λc l h=>q c l (by dsimp only at h;omega)⟩,i6⟩
  have y:known.getD i eR=eR:=by rw[I]at K;simpa using K
  have ap:=F i ao;have ay:((z[i]'(by omega)),aE M i)∈a:=by have:=(U.more.mono d).get (i:=i) i4;rw[mU i4];exact this
  have J:((E[i]'(by omega)),aE W i)∈a:=by have:=(U.way.mono d).get (i:=i) i4;rw[mU i4];exact this
  refine⟨s,i0,L,Q.cell i0,?_⟩;refine(o.seq 2 i0 λ_=>rfl).mq i i0 i4 ?_;refine(fa _ (aE M i) h1 (o.Om 3 i0 ay) i4).mono ?_;rintro _ h2 ⟨b,rfl,R2⟩;have H2:=o.co R2;have ax:=H2.box 1 i0;refine⟨b,i0,s,i0,O,ax.cell i0,?_⟩;refine(H2.seq 2 i0 λ_=>rfl).mq i i0 i4 ?_;have ad:=(H2.Om 4 i0 J).len;refine aA (λj:Nat=>(j:Int)) (λj h'=>j<=nd/\aa B h0 h' (RA b (gY D (aE W i) (aE M i) j)::(Told s f p v r Y X Z O L E z a++HA v g::As))) (λj=>nd-j) 0 i0 ⟨i4,H2⟩ ?_;rintro j h3 ⟨hj,R⟩;refine ai (λe3=>?_) (λe3=>?_)
  ·have a7:j<nd:=i4
   have u:j<ii (aE W i):=i4
   refine(R.Om 4 i0 J).bH j i0 u _ i0 ?_;obtain⟨S1,S2⟩:=hS.at [_,_,_,_,_,_] R;have a9:=S2.len;refine S2.top.mq j i0 i4 ?_;have ab:ii (D[j]'(by omega))=w:=S _ (qg _);have G:(aE W i)[j]'u=aQ (aE W i) j:=by rw[aQ,qe,qd u];rfl
   have ar:ii (gY D (aE W i) (aE M i) j)=w:=my _ ap.2 λk hk=>cB S;rw[G];refine IX s f (aQ (aE W i) j) (dr[j]'(by omega)) b (D[j]'(by omega)) _ R (St.mk' λh' H'=>?_) (by rw[ab,ar]) i4 λh4 H4=>?_
   ·obtain⟨q1,q2⟩:=hS.at [_,_,_,_,_] H';exact⟨(H'.box 0 i0).cell0 i0,q1,q2.row _ _ _ (qd _) (qd _)⟩
   ·refine⟨j+1,js,⟨i4,?_⟩,i4⟩;rw[gY,mU (m:=D) (i:=j) i4];exact H4
  ·have ah:j=nd:=i4
   subst ah;refine⟨s,i0,v,(R.box 1 i0).cell i0,?_⟩;refine R.set af 5 i0 (λ_=>rfl) i0 i i0 i4 b i0 i0 i0 λh4 H4=>?_;have H5:=(H4.freeze 0 i0 λ_=>rfl).pool 4 0 i5 i0 i0;refine⟨(i+1,g.set i b,_),jj,⟨i6,H5.aX 6 [1,2,3,4,5],?_,λx hx=>qG _ (d x hx),λc l h=>?_⟩,i6⟩
   ·dsimp only;rw[ahN j known V W M D y];exact(T.mono λx hx=>qG _ hx).set i i9
   ·dsimp only at l h⊢;rw[List.getElem_set_ne i4];exact q c qb i4
 ·have a0:i=n:=i4
  subst a0;exact⟨i0,g,a,o,by rw[<-afw nd known V W M D P];exact T⟩
end
section
variable {B:aD} {h0 h:f8} {As:List HP}
abbrev MA(s:Sl)(m:aP):HP:=fS 34 s 1 aF m
abbrev Vs:jn Sl Row:=aih (cF 1 aF) λr _=>r.len<=r.cap
abbrev CA(s:Sl)(m:aP):HP:=cg 34 s 1 bw Vs m
theorem aa.adj{e:Nat}{s:Sl}{l:Row}(H:aa B h0 h As)(i:Nat)(c:As[i]?=dB (ak e s 1 aF l)):aa B h0 h (As.set i (EA Vs s l)):=
 H.fZ i c λ_ ⟨a,b⟩=>⟨a.seq (λ_=>rfl) b,a.cap⟩
theorem aac(s f:eX)(p:Int×Int×Int)(v r U I S N J:Sl)(E o:List Sl)(O:List (Sl×Row))(rr:List (Sl×Sl))(R:List fv)(ST:List (Int×Int))(D L:aC)(W M:aP)(n nd w:Nat)(H:aa B h0 h (Told s f p v r U I S N J E o O++As))(hS:St B h0 As λh=>ZY h f r U I S rr R ST D L)
  (hn:n=p.1.toNat+p.2.1.toNat) (hp:p.2.2=w) (hw:w<=2^20) (ar:bP p=eL) (b0:ii D=nd) (a7:nd<=64) (hR:∀e∈R,jf n w e) (bs:∀e∈R,ii e.1<=2^20) (hL:∀i∈L,0<=i/\i<(ii R:Int)) (b6:ii L<=2^20) (hT:mN O O E o W M) (b5:ii W=n) (b9:ii M=n)
  (m:∀c,c<n->ii (aE W c)=nd/\(aE M c).length=w):
  ac xB 220 #[xt (dB s)] h λv' h'=>∃a b:Sl,v'=.tuple #[a,b]/\aa B h0 h' (MA a (dH n nd R W L (bG p.1.toNat p.2.1.toNat))::CA b (fK n w R M L (bG p.1.toNat p.2.1.toNat))::(Told s f p v r U I S N J E o O++As)):=by
 refine Bz (dB s) ?_;unfold pQ;have hb:=H.box 0 i0;have X:I.len=nd:=by rw[(hS.at [_,_,_,_] H).dead.len,b0]
 have cd:=(cu p).1 ar;have b2:=hT.way.1;have b4:=hT.more.1;refine⟨s,i0,I,show f7 h (s.add 7)=_ from hb.cell i0,s,i0,S,show f7 h (s.add 8)=_ from hb.cell i0,?_⟩;have cn:=(hS.at [_,_,_,_] H).left.len;have ax:∀{h':f8} {Cs:List HP},aa B h0 h' (Cs++(Told s f p v r U I S N J E o O++As))->aa B h0 h' (Told s f p v r U I S N J E o O++As):=λ{h' Cs} T=>T.take Cs.length λi A hi=>by
  rw[List.getElem?_append_right i4,Nat.add_sub_cancel_left];exact hi
 have SR:∀{h':f8},aa B h0 h' (Told s f p v r U I S N J E o O++As)->Eh h' s f N J E o W M:=λT=>Eh.of (T.box 0 i0) (hS.at [_,_,_,_] T).field (T.Fu 1 3 i0 i0 hT.way) (T.Fu 2 3 i0 i0 hT.more);let rA:Int->Row:=λi=>cW W (aM nd) (R.getD i.toNat ([],[])).1;let rB:Int->Row:=λi=>cW M (R.getD i.toNat ([],[])).2 (R.getD i.toNat ([],[])).1;have H0:aa B h0 h (MA ⟨eH,0,0⟩ []::CA ⟨eH,0,0⟩ []::(Told s f p v r U I S N J E o O++As)):=((H.GZ 34 1 bw Vs).bA.Mt 34 1 aF).bA;refine aA (λt:Nat×Sl×Sl=>(t.2.1,t.2.2,(t.1:Int))) (λt h'=>t.1<=ii L/\aa B h0 h' (MA t.2.1 ((L.take t.1).map rA)::CA t.2.2 ((L.take t.1).map rB)::(Told s f p v r U I S N J E o O++As))) (λt=>ii L-t.1) (0,⟨eH,0,0⟩,⟨eH,0,0⟩) i0 ⟨i9,H0⟩ ?_;rintro⟨i,a,b⟩ h1 ⟨hi,H1⟩;dsimp only at*;refine ai (λe=>?_) (λe=>?_)
 ·have u:i<ii L:=i4
  have G1:=hS.at [_,_,_,_,_,_] H1;refine G1.left.bH i i0 u _ i0 ?_;have hx:=hL _ (qg u);generalize bd:L[i]=x at hx⊢;have F:x.toNat<ii R:=i4
  obtain⟨l,ap⟩:∃l,l=R[x.toNat]:=⟨_,rfl⟩
  have er:R.getD x.toNat ([],[])=l:=by rw[qe,qd F,ap];rfl
  have am:=hR l (ap▸qg F);have cf:=bs l (ap▸qg F);have hF:=G1.rest.2.1;have a9:x.toNat<ii rr:=by rw[hF];exact F
  obtain⟨y,hy⟩:∃y,y=rr[x.toNat]:=⟨_,rfl⟩
  have Q:∀{h'},oC jL 2 qv h' r rr R->jL.p h' (λb=>b<h'.size) y l:=λhh=>by rw[hy,ap];exact Fix.row hh F
  refine bX (λt h'=>aa B h0 h' (RA t.1 (aM nd)::RA t.2 l.2::MA a ((L.take i).map rA)::CA b ((L.take i).map rB)::(Told s f p v r U I S N J E o O++As))) ?_ ?_
  ·have ao:=H1.box 2 i0;refine⟨s,i0,r,ao.cell i0,?_⟩;obtain⟨a8,ha,z,hc,rfl⟩:=G1.rest.1.eu (g:=qv) (i:=x) x.toNat i4 a9 y (by rw[hy]) (K:=λz=>z=y) rfl;refine⟨a8,ha,z.2,hc.2.1,?_⟩;have a4:az.ok [(s.add 5,xr r.ptr r.len r.cap)] h1:=⟨ao.cell i0,trivial⟩
   exact Vr (L:=[((a8.add (x.toNat*2)).add 1,xr z.2.ptr z.2.len z.2.cap),(s.add 5,xr r.ptr r.len r.cap)]) (L2:=[(s.add 5,xr r.ptr r.len r.cap)]) (K:=λa' b' h'=>az.ok [(s.add 5,xr r.ptr r.len r.cap)] h'/\aa B h0 h' (RA a' (aM nd)::RA b' l.2::MA a ((L.take i).map rA)::CA b ((L.take i).map rB)::(Told s f p v r U I S N J E o O++As)))
    z.2 l.2 nd _ H1 (by rw[X]) a7 (by rw[am.len];exact hw) ⟨hc.2.1,a4⟩ a4 (St.mk' λh' T=>(Q (hS.at [_,_,_,_,_,_] T).rest).2) λa b h' P T=>⟨kL P a4,T⟩
  rintro⟨ad,G⟩ h2 H2;dsimp only at H2;have G2:=hS.at [_,_,_,_,_,_,_,_] H2;refine⟨s,i0,r,(H2.box 4 i0).cell i0,?_⟩;obtain⟨br,ha,z,hc,rfl⟩:=G2.rest.1.eu (g:=qv) (i:=x) x.toNat i4 a9 y (by rw[hy]) (K:=λz=>z=y) rfl;refine⟨br,ha,z.1,hc.1,?_⟩;have b1:=(Q G2.rest).1.len;refine aA (λj:Nat=>(j:Int)) (λj h'=>j<=ii l.1/\aa B h0 h' (RA ad (cW W (aM nd) (l.1.take j))::RA G (cW M l.2 (l.1.take j))::MA a ((L.take i).map rA)::CA b ((L.take i).map rB)::(Told s f p v r U I S N J E o O++As))) (λj=>ii l.1-j) 0 i0 ⟨i4,by simpa[cW]using H2⟩ ?_;rintro j h3 ⟨hj,H3⟩;have told:∀c∈l.1.take j,ii (aE W c.toNat)=nd/\(aE M c.toNat).length=w:=λc hc=>by
   have b7:=am.cY c (zA hc);exact m c.toNat i4
  have Z:ii (cW W (aM nd) (l.1.take j))=nd:=ko k8 λc hc=>(told c hc).1;have ab:ii (cW M l.2 (l.1.take j))=w:=ko am.len λc hc=>(told c hc).2;refine ai (λe2=>?_) (λe2=>?_)
  ·have Y:j<ii l.1:=i4
   have bk:=am.cY _ (qg Y);refine(Q (hS.at [_,_,_,_,_,_,_,_] H3).rest).1.bH j i0 Y _ i0 ?_;have tc:=m l.1[j].toNat i4;refine(IY s f 1 l.1[j] ad G N J _ _ E o W M H3 (St.mk' λh' T=>SR (ax (Cs:=[_,_]) T)) bk.1 i4 i4 (by rw[tc.1,Z]) (by rw[tc.2,ab]) i4 i4).mono ?_;rintro _ h4 ⟨rfl,V⟩;exact⟨(),i0,j+1,js,⟨i4,by rw[aK _ _ Y,uz,uz];exact V⟩,i4⟩
  ·have a2:j=ii l.1:=i4
   subst a2;rw[qY]at H3;have V:=aa.adj (H3.freeze 0 i0 λ_=>rfl) 1 i0;refine V.xV af 2 0 i5 i0 i0 fL i7 λa' h5 H5=>?_;refine H5.tE af 3 1 i5 i0 i0 fL i0 i5 (λ_=>rfl) kh i0 i5 i7 λb' h6 H6=>?_;refine⟨(i+1,a',b'),jj,⟨i6,?_⟩,i6⟩;dsimp only;rw[aK _ _ u,qU,qU,bd];have e3:[x].map rA=[cW W (aM nd) l.1]:=by simp only[yG,vO,rA,er]
   have e4:[x].map rB=[cW M l.2 l.1]:=by simp only[yG,vO,rB,er]
   rw[e3,e4];exact H6.aX 8 [2,3,4,5,6,7]
 have a5:i=ii L:=i4
 subst a5;rw[qY]at H1;have ao:=H1.box 2 i0;refine⟨s,i0,p,ao.cells 1 _ i0,(uM p h1).mono ?_⟩;rintro _ h2 ⟨q,rfl,R2⟩;rw[ar,f9 rfl]at R2;obtain⟨d,a1⟩:∃d,d=bG p.1.toNat p.2.1.toNat:=⟨_,rfl⟩
 have b3:ii d=p.2.1.toNat:=by rw[a1];simp[bG]
 have bb:∀x∈d,ii x=n:=λx hx=>by rw[hn];exact MG _ _ x (a1▸hx)
 rw[<-a1]at R2⊢;have H2:=(H1.co R2).Sy 0 i0;obtain⟨qr,H2⟩:=H2.OT 0 rfl λ_=>rfl;have cc:=(H2.eV 0 i0).1.len;have cl:=(H2.eV 0 i0).2.1;refine⟨q,i0,?_⟩;let a3:Row->Row:=λx=>gY W x (aM nd) n;let a0:Row->Row:=λx=>gY M x (aM w) n;refine aA (λt:Nat×Sl×Sl=>(t.2.1,t.2.2,(t.1:Int))) (λt h'=>t.1<=ii d/\aa B h0 h' (cO (cF 1 aF) 1 bw q qr d::MA t.2.1 (L.map rA++(d.take t.1).map a3)::CA t.2.2 (L.map rB++(d.take t.1).map a0)::(Told s f p v r U I S N J E o O++As))) (λt=>ii d-t.1) (0,a,b) i0 ⟨i9,by simpa using H2⟩ ?_;rintro⟨i,a,b⟩ h3 ⟨hi,H3⟩;dsimp only at*;refine ai (λe=>?_) (λe=>?_)
 ·have u:i<ii d:=i4
  have bq:=bb _ (qg u);have F3:=H3.eV 0 i0;refine F3.1.mq i i0 i4 ?_;have b1:(qr[i]'(by omega)).len=n:=by rw[(Fix.row F3 u).len,bq]
  refine bX (λt h'=>aa B h0 h' (RA t.1 (aM nd)::RA t.2 (aM w)::cO (cF 1 aF) 1 bw q qr d::MA a (L.map rA++(d.take i).map a3)::CA b (L.map rB++(d.take i).map a0)::(Told s f p v r U I S N J E o O++As))) ?_ ?_
  ·have bl:=H3.box 3 i0;refine⟨s,i0,p.2.2,show f7 h3 (s.add 3)=_ from bl.cell i0,?_,?_⟩
   ·refine H3.make af aF hJ i5 0 i0 i0 nd nd (by rw[X]) (by rw[X]) (qm _) i4 λx h4 _ _ V=>?_;have V:=V.bA;refine⟨⟨show f7 h4 (s.add 3)=_ from(V.box 4 i0).cell i0,trivial⟩,?_⟩;refine V.make af aF hJ i5 0 i0 i0 w w hp hp (qm _) i4 λy h5 _ _ H5=>⟨trivial,H5.bA.oB⟩
   ·refine H3.make af aF hJ i5 0 i0 i0 w w hp hp (qm _) i4 λy h4 _ _ V=>⟨trivial,?_⟩
    refine V.bA.make af aF hJ i5 0 i0 i0 nd nd (by rw[X]) (by rw[X]) (qm _) i4 λx h5 _ _ H5=>⟨trivial,H5.bA⟩
  rintro⟨ad,G⟩ h4 V;dsimp only at V⊢;refine aA (λj:Nat=>(j:Int)) (λj h'=>j<=n/\aa B h0 h' (RA ad (gY W d[i] (aM nd) j)::RA G (gY M d[i] (aM w) j)::cO (cF 1 aF) 1 bw q qr d::MA a (L.map rA++(d.take i).map a3)::CA b (L.map rB++(d.take i).map a0)::(Told s f p v r U I S N J E o O++As))) (λj=>n-j) 0 i0 ⟨i4,V⟩ ?_;rintro j h5 ⟨hj,H5⟩;have Z:ii (gY W d[i] (aM nd) j)=nd:=my _ k8 λk hk=>(m k i4).1;have ab:ii (gY M d[i] (aM w) j)=w:=my _ k8 λk hk=>(m k i4).2;refine ai (λe2=>?_) (λe2=>?_)
  ·have Y:j<n:=i4
   have ay:j<d[i].length:=i4
   refine(Fix.row (H5.eV 2 i0) u).bH j i0 ay _ i0 ?_;have a6:d[i][j]'ay=aQ d[i] j:=by rw[aQ,qe,qd ay];rfl
   rw[a6];have tc:=m j Y;refine(IY s f (aQ d[i] j) (j:Int) ad G N J _ _ E o W M H5 (St.mk' λh' T=>SR (ax (Cs:=[_,_,_]) T)) i4 i4 i4 (by rw[ql,tc.1,Z]) (by rw[ql,tc.2,ab]) i4 i4).mono ?_;rintro _ h6 ⟨rfl,H6⟩;rw[ql]at H6;exact⟨(),i0,j+1,js,⟨i4,H6⟩,i4⟩
  ·have a2:j=n:=i4
   subst a2;have H6:=aa.adj (H5.freeze 0 i0 λ_=>rfl) 1 i0;refine H6.xV af 3 0 i5 i0 i0 fL i7 λa' h7 H7=>?_;refine H7.tE af 4 1 i5 i0 i0 fL i0 i5 (λ_=>rfl) kh i0 i5 i7 λb' h8 H8=>?_;refine⟨(i+1,a',b'),jj,⟨i6,?_⟩,i6⟩;dsimp only;rw[aK _ _ u,qU,qU,<-qp,<-qp];exact H8.aX 9 [2,3,4,5,6,7,8]
 ·have a5:i=ii d:=i4
  subst a5;rw[qY]at H3;exact⟨a,b,i0,H3.rest⟩
end
section
variable {B:aD} {h0 h:f8} {As:List HP}
theorem Ja{α:Type}{g:α->Bool}{l:List α}{i:Nat}(h:i<ii l)(a:∀j (b:j<ii l),j<i->g l[j]=eR)(c:g l[i]=eL):l.findIdx g=i:=by rw[List.findIdx_eq h];exact⟨c,λj b=>a j i4 b⟩
theorem Xc(s:Sl)(l:aC)(b:FuncId)(a:Array Value)(g:Int->Bool)(Q:f8->Prop)(y:C.fns[b]?=dB eL)(u:St B h0 As Q)(r:∀x h',Q h'->ac xB b ([Value.int .i64 x]++a.toList).toArray h' λv p=>v=xv (g x)/\Sp h' p [])(H:aa B h0 h (ak 3 s 1 av l::As))(E:ii l<=2^20):
  ac xB 189 #[s,.func (.func b) #[] a] h λv h'=>v=xq xx (if l.findIdx g<ii l then(l.findIdx g:Int)else-1)/\aa B h0 h' (ak 3 s 1 av l::As):=by
 refine iT s (b,#[],a) ?_;unfold gD;have A:=(H.own 0 i0).len;refine aA (λi:Nat=>(i:Int)) (λi h'=>aa B h0 h' (ak 3 s 1 av l::As)/\i<=ii l/\∀j (f:j<ii l),j<i->g l[j]=eR) (λi=>ii l-i) 0 i0 ⟨H,i4,λj _ f=>i4⟩ ?_;rintro i z ⟨n,F,d⟩;refine ai (λe=>?_) (λe=>?_)
 ·have c:i<ii l:=i4
  refine(n.seq 0 i0 λ_=>rfl).bH i i0 c _ i0 ?_;refine ff y ?_;refine(r l[i] z (u.at [_] n)).mono ?_;rintro _ D ⟨rfl,t⟩;refine⟨_,i0,bC (λq=>?_) λq=>?_⟩
  ·rw[Ja c d q,f9 c];exact⟨i0,n.up t.aj⟩
  ·refine⟨i+1,js,⟨n.up t.aj,i4,λj f o=>?_⟩,i4⟩;rcases zr.1 o with h3|rfl
   ·exact d j f h3
   ·exact q
 ·have k:¬l.findIdx g<ii l:=by rw[wQ];rintro⟨x,w,m⟩;obtain⟨j,f,rfl⟩:=qK w;rw[d j f i4]at m;cases m
  rw[g0 k];exact⟨i0,n⟩
theorem aad{α:Type}{g:α->Bool}{l:List α}{j:Nat}(h:j<l.findIdx g)(a:j<ii l):g l[j]=eR:=by simpa using List.not_of_lt_findIdx h
structure nc {α:Type} (g:α->Bool) (l l':List α) (i j:Nat):Prop where
 len:ii l'=ii l
 le:i<=j
 pre:l'.take i=(l.take j).filter λx=>!g x
 post:l'.drop j=l.drop j
theorem nc.start{α:Type}{g:α->Bool}{l:List α}{i:Nat}(h:i<ii l)(b:l.findIdx g=i):nc g l l i (i+1):=by
 refine⟨i0,i4,?_,i0⟩;have a:g l[i]=eL:=by have:=List.findIdx_getElem (xs:=l) (p:=g) (w:=by rw[b];exact h);simpa[b]using this
 rw[aK _ _ h,zm,zq,a];have:(l.take i).filter (λx=>!g x)=l.take i:=zX.2 λx d=>by
  obtain⟨j,c,rfl⟩:=qK d;simp only[q8]at c;rw[List.getElem_take,aad (g:=g) (l:=l) (j:=j) i4 i4];rfl
 rw[this];simp
theorem nc.at_{α:Type}{g:α->Bool}{l l':List α}{i j:Nat}(x:nc g l l' i j)(a:j<ii l):l'[j]'(by rw[x.len];exact a)=l[j]:=by have h:=congrArg (λm=>m[0]?) x.post;simp only[List.getElem?_drop,Nat.add_zero]at h;rw[qd a,qd (by rw[x.len];exact a)]at h;exact zR.inj h
theorem nc.keep{α:Type}{g:α->Bool}{l l':List α}{i j:Nat}(x:nc g l l' i j)(a:j<ii l)(d:g l[j]=eR):nc g l (l'.set i l[j]) (i+1) (j+1):=by
 have e:=x.len;have b:=x.le;refine⟨n5,i4,?_,?_⟩
 ·rw[aK _ _ i7,yl,List.take_set_of_le (qm _),x.pre,aK _ _ a,zm,zq,d];rfl
 ·rw[List.drop_set_of_lt i4];have c:=congrArg (xp 1) x.post;simpa[zI]using c
theorem nc.skip{α:Type}{g:α->Bool}{l l':List α}{i j:Nat}(x:nc g l l' i j)(a:j<ii l)(d:g l[j]=eL):nc g l l' i (j+1):=by
 have e:=x.len;have b:=x.le;refine⟨e,i4,?_,?_⟩
 ·rw[x.pre,aK _ _ a,zm,zq,d];simp
 ·have c:=congrArg (xp 1) x.post;simpa[zI]using c
theorem filter_all{α:Type}{g:α->Bool}{l:List α}(h:¬l.findIdx g<ii l):l.filter (λx=>!g x)=l:=zX.2 λx a=>by
 have:g x=eR:=by
  cases hh:g x with
  |false=>rfl
  |true=>exact absurd (wQ.2 ⟨x,a,hh⟩) h
 rw[this];rfl
theorem Vt(s:Sl)(l:aC)(b:FuncId)(a:Array Value)(g:Int->Bool)(Q:f8->Prop)(z:C.fns[b]?=dB eL)(y:St B h0 As Q)(f:∀x h',Q h'->ac xB b ([Value.int .i64 x]++a.toList).toArray h' λv p=>v=xv (g x)/\Sp h' p [])(H:aa B h0 h (ak 3 s 1 av l::As))(F:ii l<=2^20):
  ac xB 270 #[s,.func (.func b) #[] a] h λv h'=>∃r:Sl,v=r/\aa B h0 h' (ak 3 r 1 av (l.filter λx=>!g x)::As):=by
 refine sl s (b,#[],a) ?_;unfold mg;refine(Xc s l b a g Q z y f H F).mono ?_;rintro _ O ⟨rfl,w⟩;have L:=(H.own 0 i0).len;have G:=(H.own 0 i0).cap;refine⟨_,i0,cy (λe=>?_) λe=>?_⟩
 ·have u:¬l.findIdx g<ii l:=λm=>by rw[f9 m]at e;omega
  exact⟨s,i0,by rw[filter_all u];exact w⟩
 ·have c:l.findIdx g<ii l:=by
   by_cases m:l.findIdx g<ii l
   ·exact m
   ·rw[g0 m]at e;exact absurd i0 e
  rw[f9 c];refine aA (λt:Nat×Nat×aC=>((t.1:Int),(t.2.1:Int))) (λt h'=>nc g l t.2.2 t.1 t.2.1/\t.2.1<=ii l/\aa B h0 h' (ak 3 s 1 av t.2.2::As)) (λt=>ii l-t.2.1) (l.findIdx g,l.findIdx g+1,l) js ⟨nc.start c i0,i6,w⟩ ?_;rintro⟨i,j,l'⟩ E ⟨M2,M,k⟩;dsimp only at*;have K:=M2.len;have A:=M2.le;refine ai (λD=>?_) (λD=>?_)
  ·have d:j<ii l:=i4
   refine(k.seq 0 i0 λ_=>rfl).bH j i0 i4 _ i0 ?_;rw[M2.at_ d];refine ff z ?_;refine(f l[j] E (y.at [_] k)).mono ?_;rintro _ h3 ⟨rfl,I⟩;have n:=k.up I.aj;refine⟨_,i0,bo (λo=>?_) λo=>?_⟩
   ·refine n.set af 0 i0 (λ_=>rfl) i0 i i0 i4 l[j] i0 i0 i0 λN J=>?_;exact⟨(i+1,j+1,l'.set i l[j]),by dsimp only;rw[al _,al _];rfl,⟨M2.keep d m5,i6,J⟩,i6⟩
   ·exact⟨(i,j+1,l'),jj,⟨M2.skip d m5,i6,n⟩,i6⟩
  ·have q:j=ii l:=i4
   subst q;refine⟨⟨i4,i4⟩,?_⟩;rw[ql];refine k.py af 0 i0 gN (λ_=>rfl) i0 i5 i i4 λh3 n=>⟨⟨i4,i4⟩,⟨s.ptr,i,s.cap⟩,i0,?_⟩
   have:=M2.pre;rw[qY]at this;rw[<-this];exact n
end
section
variable {B:aD} {h0 h:f8} {As:List HP}
abbrev ajq:bY C.toDi 277 332 2 [xq xx 0,xq xx 0] 16:=⟨_,_,i0,i0,i0,i0,i0,i0⟩
theorem Xd(s:Sl)(l:List (Int×Int))(b:FuncId)(a:Array Value)(g:Int×Int->Bool)(Q:f8->Prop)(y:C.fns[b]?=dB eL)(u:St B h0 As Q)(r:∀x h',Q h'->ac xB b ([Value.agg #[xq xx x.1,xq xx x.2]]++a.toList).toArray h' λv p=>v=xv (g x)/\Sp h' p [])(H:aa B h0 h (ak 332 s 2 fQ l::As))(E:ii l<=2^20):
  ac xB 311 #[s,.func (.func b) #[] a] h λv h'=>v=xq xx (if l.findIdx g<ii l then(l.findIdx g:Int)else-1)/\aa B h0 h' (ak 332 s 2 fQ l::As):=by
 refine mV s (b,#[],a) ?_;unfold jg;have A:=(H.own 0 i0).len;refine aA (λi:Nat=>(i:Int)) (λi h'=>aa B h0 h' (ak 332 s 2 fQ l::As)/\i<=ii l/\∀j (f:j<ii l),j<i->g l[j]=eR) (λi=>ii l-i) 0 i0 ⟨H,i4,λj _ f=>i4⟩ ?_;rintro i z ⟨n,F,d⟩;refine ai (λe=>?_) (λe=>?_)
 ·have c:i<ii l:=i4
  refine(n.seq 0 i0 λ_=>rfl).eu (g:=fQ) i i0 c l[i] i0 ?_;refine ff y ?_;refine(r l[i] z (u.at [_] n)).mono ?_;rintro _ D ⟨rfl,t⟩;refine⟨_,i0,bC (λq=>?_) λq=>?_⟩
  ·rw[Ja c d q,f9 c];exact⟨i0,n.up t.aj⟩
  ·refine⟨i+1,js,⟨n.up t.aj,i4,λj f o=>?_⟩,i4⟩;rcases zr.1 o with h3|rfl
   ·exact d j f h3
   ·exact q
 ·have k:¬l.findIdx g<ii l:=by rw[wQ];rintro⟨x,w,m⟩;obtain⟨j,f,rfl⟩:=qK w;rw[d j f i4]at m;cases m
  rw[g0 k];exact⟨i0,n⟩
theorem Vu(s:Sl)(l:List (Int×Int))(b:FuncId)(a:Array Value)(g:Int×Int->Bool)(Q:f8->Prop)(E:C.fns[b]?=dB eL)(A:St B h0 As Q)(k:∀x h',Q h'->ac xB b ([Value.agg #[xq xx x.1,xq xx x.2]]++a.toList).toArray h' λv q=>v=xv (g x)/\Sp h' q [])(H:aa B h0 h (ak 332 s 2 fQ l::As))(J:ii l<=2^20):
  ac xB 268 #[s,.func (.func b) #[] a] h λv h'=>∃r:Sl,v=r/\aa B h0 h' (ak 332 r 2 fQ (l.filter λx=>!g x)::As):=by
 refine mK s (b,#[],a) ?_;unfold ja;refine(Xd s l b a g Q E A k H J).mono ?_;rintro _ P ⟨rfl,y⟩;have M:=(H.own 0 i0).len;have K:=(H.own 0 i0).cap;refine⟨_,i0,cy (λe=>?_) λe=>?_⟩
 ·have w:¬l.findIdx g<ii l:=λn=>by rw[f9 n]at e;omega
  exact⟨s,i0,by rw[filter_all w];exact y⟩
 ·have c:l.findIdx g<ii l:=by
   by_cases n:l.findIdx g<ii l
   ·exact n
   ·rw[g0 n]at e;exact absurd i0 e
  rw[f9 c];refine aA (λt:Nat×Nat×List (Int×Int)=>((t.1:Int),(t.2.1:Int))) (λt h'=>nc g l t.2.2 t.1 t.2.1/\t.2.1<=ii l/\aa B h0 h' (ak 332 s 2 fQ t.2.2::As)) (λt=>ii l-t.2.1) (l.findIdx g,l.findIdx g+1,l) js ⟨nc.start c i0,i6,y⟩ ?_;rintro⟨i,j,l'⟩ O ⟨M2,N,o⟩;dsimp only at*;have L:=M2.len;have F:=M2.le;refine ai (λI=>?_) (λI=>?_)
  ·have f:j<ii l:=i4
   refine(o.seq 0 i0 λ_=>rfl).eu (g:=fQ) j i0 i4 l[j] (by rw[M2.at_ f]) ?_;refine o.alloc af i0 λa5 h3 d=>?_;have d:=d.bA;refine d.storeAll af 0 i0 i0 (fQ l[j]) i0 i0 i0 i0 λz m=>?_;refine⟨l[j],(m.box 0 i0).aU _ i0,?_⟩;refine ff E ?_;refine(k l[j] z (A.at [_,_] m)).mono ?_;rintro _ R ⟨rfl,G⟩;have D:=m.up G.aj;have d:=D.oU;refine⟨_,i0,bo (λp=>?_) λp=>?_⟩
   ·refine⟨l[j],(D.box 0 i0).aU _ i0,?_⟩;refine d.set af 0 i0 (λ_=>rfl) i0 i i0 i4 l[j] i0 i0 i0 λz m=>?_;exact⟨(i+1,j+1,l'.set i l[j]),by dsimp only;rw[al _,al _];rfl,⟨M2.keep f o8,i6,m⟩,i6⟩
   ·exact⟨(i,j+1,l'),jj,⟨M2.skip f o8,i6,d⟩,i6⟩
  ·have u:j=ii l:=i4
   subst u;refine⟨⟨i4,i4⟩,?_⟩;rw[ql];refine o.py af 0 i0 ajq (λ_=>rfl) i0 i5 i i4 λh3 d=>⟨⟨i4,i4⟩,⟨s.ptr,i,s.cap⟩,i0,?_⟩
   have:=M2.pre;rw[qY]at this;rw[<-this];exact d
end
end Go.Qw
