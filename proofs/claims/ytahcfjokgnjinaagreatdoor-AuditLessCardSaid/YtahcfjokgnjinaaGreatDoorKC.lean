/- Lemmas for the proof of the law; no condition. -/
import Derived.Test.YtahcfjokgnjinaaGreatDoorKB
set_option linter.unusedVariables false
set_option maxHeartbeats 4000000
set_option linter.unusedSimpArgs false
open Go.Proofs.Tryz renaming prog -> xB
open Go.Value renaming agg -> xw, bool -> xv, int -> xq, pointer -> xt, slice -> xr, string -> xu
open Go.IntKind renaming bits -> qk, i64 -> xx, u32 -> xz, u8 -> xy, wrap -> qc
open List renaming drop -> xp, drop_length -> yL, eq_replicate_iff -> vP, map_set -> vM, range' -> zP, replicate -> qh, replicate_zero -> vx, zipWith -> zi
open Nat renaming le_of_ble_eq_true -> zL
open Prod renaming fst -> qI
open Option renaming some -> zR
open Bool renaming and_eq_false_iff -> vk, eq_iff_iff -> vB
open Go.Instr renaming makeSlice -> qF, storeAt -> qf
open BitVec renaming ofInt -> qD
set_option maxRecDepth 100000
open Option renaming some -> dB, none -> eH
open Bool renaming true -> eR, false -> eS
open Go renaming Addr -> f7
open Go.Vc renaming cellOf -> f8, Heap -> f9
open List renaming length -> i1
namespace Go.Qw
open Go Go.Vc Go.Proofs Wl
section
variable {B:aC} {h0 h:f9} {As:List HP} {a pw b:f7} {mc:bh} {offs:Int} {da:List aM} {w:Pow} {ds:aJ} {d:bs}
theorem tw{p:aC}(s:Sl)(l:aD)(x:Int)(h:f9)(g:Seq h p s 1 av l)(n:i1 l<=2^40:=by omega):ac xB 50 #[s,xq xx x] h λv h'=>v=xv (decide (x∈l))/\h'=h:=by
 refine mi s x ?_;unfold jJ;refine(nC s x (R:=λv h'=>(∃i:Int,v=xq xx i/\(decide (i>=0)=decide (x∈l)))/\h'=h) ?_).mono ?_
 ·unfold lB;have j:=g.len;refine aA (λi:Nat=>(i:Int)) (λi h'=>i<=i1 l/\x∉l.take i/\h'=h) (λi=>i1 l-i) 0 i4 ⟨i5,jj,i4⟩ ?_;rintro i m ⟨f,a,rfl⟩;refine aj (λe=>?_) (λe=>?_)
  ·have b:i<i1 l:=by have k:(i:Int)<(s.len:Int):=e;omega
   refine g.bG i i4 b l[i] i4 ?_;refine ck (λd=>⟨⟨i,i4,?_⟩,i4⟩) (λd=>?_)
   ·rw[hU (show(i:Int)>=0 by omega),hU (by rw[d];exact qg b)]
   ·refine⟨i+1,j0,⟨i5,λc=>?_,i4⟩,i5⟩;rw[aK _ _ b]at c;rcases qz.1 c with c|c
    ·exact a c
    ·exact d (qC.1 c)
  ·have k:¬(i:Int)<(s.len:Int):=e;rw[qi i5]at a;exact⟨⟨-1,i4,by rw[ii a];rfl⟩,i4⟩
 ·rintro _ m ⟨⟨i,rfl,f⟩,rfl⟩;exact⟨i,i4,by rw[f],i4⟩
theorem Ja(H:aa B h0 h (bp bz a pw mc offs da w ds::As)):ac xB 93 #[xt (dB a)] h λv h'=>v=xv (dO w offs)/\h'=h:=by refine RZ (dB a) ?_;unfold KA;refine bx (λe=>j1) λ_=>(tl H).mono ?_;rintro _ _ ⟨rfl,rfl⟩;exact⟨_,i4,i4,i4⟩
def iQ(slot cells:Int):Bool:=decide ((0<=slot/\slot<64)/\1<=cells/\cells<=512)
theorem Xd(slot cells:Int)(h:f9):ac xB 94 #[xq xx slot,xq xx cells] h λv h'=>v=xv (iQ slot cells)/\h'=h:=by
 refine Nb slot cells ?_;unfold Gi iQ;refine aj (λb=>aj (λc=>aj (λa=>⟨?_,i4⟩) λa=>⟨?_,i4⟩) λc=>⟨?_,i4⟩) λb=>⟨?_,i4⟩
 ·congr 1;rw[decide_eq_decide];omega
 all_goals (rw[ii i5])
theorem acT(n:Nat)(g:n<64)(x:bV)(H:aa B h0 h (jl pw b d::bp bz a pw (aY x) offs da w ds::As)):
  ac xB 95 #[xt (dB a),xq xx n,xt (dB b)] h λv h'=>v=.tuple #[]/\aa B h0 h' (bp bz a pw (aY x) offs (da.set n (dB b)) w (ds.set n (dB d))::As):=by
 refine sI (dB a) n (dB b) ?_;unfold ot;refine bx (λ_=>?_) λe=>j1
 refine aj (λ_=>aj (λ_=>?_) λe=>absurd (show(n:Int)<64 by omega) e) λe=>absurd (show(n:Int)>=0 by omega) e;refine⟨a,i4,⟨i5,i5⟩,?_⟩;rw[ql,z7];have j:aa B h0 h (bp bz a pw (aY x) offs da w ds::jl pw b d::As):=H.aX 2 [1,0];obtain⟨ok,i⟩:=Go.Vc.aa.pu j;have f:(a.add 10).add n=a.add (10+n):=by unfold Addr.add;simp[wX]
 rw[f];refine i.storeAt af 0 i4 i4 i4 i4 i4 (by simp[ok.la];omega) λh' c=>?_;rw[zq,Re ok.l8]at c;exact⟨i4,aa.afz ok g c⟩
theorem Vk(slot:Int)(x:bV)(m:aG)(k:dn h x m)(f:cR m)(H:aa B h0 h (bp bz a pw (aY x) offs da w ds::As))(b:dO w offs=eR∨slot∉aN ds m.drives):
  ac xB 45 #[xt (dB a),xq xx slot] h λv h'=>v=xq xx (if dO w offs then 14 else 5)/\Sp h h' []:=by
 refine DC (dB a) slot ?_;unfold AI;have i:=f.dr;refine(Ja H).mono ?_;rintro _ l ⟨rfl,rfl⟩;refine⟨_,i4,bx (λe=>⟨o0,Sp.refl _⟩) λe=>?_⟩;refine(gd x m k f H).mono ?_;rintro _ j ⟨r,rfl,c⟩;have g:i1 (aN ds m.drives)<=i1 m.drives:=qQ _ _;refine⟨r,i4,(tw r _ slot j (c.seq 0 i4 λ_=>rfl)).mono ?_⟩;rintro _ h3 ⟨rfl,rfl⟩;refine⟨_,i4,bo (λd=>⟨o0,.zip c.ai⟩) λd=>?_⟩;rcases b with b|b
 ·rw[e]at b;cases b
 ·exact absurd (i0 d) b
theorem ZX(H:aa B h0 h (jl pw b d::As)):ac xB 103 #[xt (dB b)] h λv h'=>v=.tuple #[]/\aa B h0 h' (jl pw b d.EB::As):=by
 refine Fc (dB b) ?_;unfold uv;obtain⟨ok,s,l,g⟩:=H.rT;refine bx (λ_=>?_) λe=>j1
 refine⟨b,i4,g.store af 0 i4 i4 6 [xv eR] i4 i4 i4 ln λn c=>?_⟩;refine⟨b,i4,c.store af 0 i4 i4 2 [xr eH 0 0] i4 i4 i4 ln λh3 j=>?_⟩;refine⟨b,i4,j.store af 0 i4 i4 3 [xq xx 0] i4 i4 i4 ln λo f=>?_⟩;refine⟨b,i4,f.store af 0 i4 i4 4 [xr eH 0 0] i4 i4 i4 ln λm i=>?_⟩;refine⟨b,i4,i.store af 0 i4 i4 5 [xv eS] i4 i4 i4 ln λk a=>⟨i4,?_⟩⟩;refine aa.AZ (s:=⟨eH,0,0⟩) (b:=⟨eH,0,0⟩) ⟨qm _,zy _,ok.room,by simp[bs.EB],zy _,by simp[bs.EB]⟩ ?_;exact((a.CH 71 5 1 aF).CH 71 5 1 aF).aX 5 [2,0,1]
theorem Xe(n:Nat)(x:bV)(m:aG)(z:dn h x m)(g:cR m)(H:aa B h0 h (bp bz a pw (aY x) offs da w ds::As))(A:dO w offs=eS)(E:(n:Int)∈aN ds m.drives)(q:ds[n]?=dB (dB d)):
  ac xB 45 #[xt (dB a),xq xx n] h λv h'=>v=xq xx 0/\aa B h0 h' (bp bz a pw (aY x) offs da w (ds.set n (dB d.EB))::As):=by
 refine DC (dB a) n ?_;unfold AI;have s:=g.dr;refine(Ja H).mono ?_;rintro _ G ⟨rfl,rfl⟩;refine⟨_,i4,bx (λe=>by rw[A]at e;cases e) λe=>?_⟩;refine(gd x m z g H).mono ?_;rintro _ y ⟨r,rfl,f⟩;have p:i1 (aN ds m.drives)<=i1 m.drives:=qQ _ _;refine⟨r,i4,(tw r _ (n:Int) y (f.seq 0 i4 λ_=>rfl)).mono ?_⟩;rintro _ h3 ⟨rfl,rfl⟩;refine⟨_,i4,bo (λj=>absurd E (of_decide_eq_false j)) λj=>?_⟩;have l:=H.up f.ai;obtain⟨ok,D⟩:=aa.cY l;refine(mW (n:Int) ok D).mono ?_;rintro _ I ⟨rfl,rfl⟩;obtain⟨b,c,u⟩:=Go.Vc.aa.jZ l q;have i:n<64:=by have:=(qn.1 c).1;rw[ok.la]at this;exact this
 have t:gN da (n:Int)=dB b:=by unfold gN;rw[g0 i5,ql,c];rfl
 rw[t];refine⟨_,i4,(ZX u).mono ?_⟩;rintro _ F ⟨rfl,o⟩;exact⟨(),i4,i4,Go.Vc.aa.tk (k:=bz) (n:=n) c o⟩
end
end Go.Qw
namespace Go.Vc
open Go Wl
section
variable {k:Kit} {B:aC} {h0 h:f9} {As:List HP} {a pw b:f7} {mc:bh} {offs:Int} {da:List aM} {w:Pow} {ds:aJ} {d:bs} {n:Nat}
theorem ZY(h8:i1 mc=8):(cQ mc pw offs da).set (10+n) (xt eH)=cQ mc pw offs (da.set n eH):=by unfold cQ;rw[qV _ _ i5,h8,show 10+n-8=n+1+1 by omega,zu,zu,vM]
theorem aa.afA(ok:gh mc da ds)(q:n<64)(H:aa B h0 h (au a k.tS (cQ mc pw offs (da.set n eH))::dl k.tP pw w::(gc k pw da ds++As))):aa B h0 h (bp k a pw mc offs (da.set n eH) w (ds.set n eH)::As):=by
 have f:=ok.la;have o:=ok.ls;have l:gh mc (da.set n eH) (ds.set n eH):=⟨ok.l8,n3,by simp[o],λi=>by
  by_cases c:n=i
  ·subst c;rw[qe,qe,zm i5,zm i5];rfl
  ·have:=ok.same i;rw[qe,qe]at this⊢;rw[zC c,zC c];exact this⟩
 have g:=Fp (k:=k) (pw:=pw) ok;have d:gc k pw (da.set n eH) (ds.set n eH)=(gc k pw da ds).set n emp:=by
  apply List.ext_getElem?;intro j;simp only[gc,q8,List.getElem?_zipWith,List.length_zipWith];by_cases e:n=j
  ·subst e;rw[g0 i4,g0 i5,g0 i4,g0 i5,g0 i4,g0 i5];rfl
  ·simp[e]
 refine aa.pV l ?_;rw[d];obtain⟨L,m⟩:∃L,L=gc k pw da ds:=⟨_,rfl⟩
 rw[<-m]at H g⊢;have b:n<i1 L:=i5
 have H:=H.fZ (n+2) (A:=L[n]) (D:=emp) (by rw[qw,qw,qo b,qd b]) λ_ _=>trivial;have p:(au a k.tS (cQ mc pw offs (da.set n eH))::dl k.tP pw w::(L++As)).set (n+2) emp=au a k.tS (cQ mc pw offs (da.set n eH))::dl k.tP pw w::(L.set n emp++As):=by rw[zu,zu,List.set_append_left _ _ b]
 rw[p]at H;exact H
end
end Go.Vc
namespace Go.Qw
open Go Go.Vc Go.Proofs Wl
def JV(m:aG)(l:aD):aG:={m with seq:=m.seq+1,drives:=l}
def ma(m:aG)(offs:Int)(w:Pow)(ds:aJ)(slot cells:Int):Int×aG×Pow×aJ:=
 if dO w offs then(14,m,w,ds)else if iQ slot cells=eS then(1,m,w,ds)else if slot∈m.drives then(4,m,w,ds)else if m.seq>=2147483647 then(7,m,w,ds)else
 let r:=cZ m offs w (ds.set slot.toNat (dB (bs.new cells.toNat))) (JV m (ic (m.drives++[slot])))
 (r.1,r.2.1,r.2.2.1,if r.1=7 then r.2.2.2.set slot.toNat eH else r.2.2.2)
section
variable {B:aC} {h0 h:f9} {As:List HP} {a pw b:f7} {offs:Int} {da:List aM} {w:Pow} {ds:aJ} {d:bs}
theorem Vl(n:Nat)(c:n<64)(x:bV)(H:aa B h0 h (bp bz a pw (aY x) offs da w ds::As)):
  ac xB 95 #[xt (dB a),xq xx n,xt eH] h λv h'=>v=.tuple #[]/\aa B h0 h' (bp bz a pw (aY x) offs (da.set n eH) w (ds.set n eH)::As):=by
 refine sI (dB a) n eH ?_;unfold ot;refine bx (λ_=>?_) λe=>j1
 refine aj (λ_=>aj (λ_=>?_) λe=>absurd (show(n:Int)<64 by omega) e) λe=>absurd (show(n:Int)>=0 by omega) e;refine⟨a,i4,⟨i5,i5⟩,?_⟩;rw[ql,z7];obtain⟨ok,d⟩:=Go.Vc.aa.pu H;have f:(a.add 10).add n=a.add (10+n):=by unfold Addr.add;simp[wX]
 rw[f];refine d.storeAt af 0 i4 i4 i4 i4 i4 (by simp[ok.la];omega) λh' b=>?_;rw[zq,ZY ok.l8]at b;exact⟨i4,aa.afA ok c b⟩
theorem On(x:bV)(m:aG)(q:dn h x m)(n:cR m)(H:aa B h0 h (bp bz a pw (aY x) offs da w ds::As)):
  ac xB 8 #[xt (dB a)] h λv h'=>∃(y:bV) (L:List (dT×Wl.cw)) (pool:List (Sl×aD)),v=fH y/\(y.1=m.seq/\y.2.1=m.next/\(y.2.2.1,y.2.2.2.1,y.2.2.2.2.1)=m.p/\y.2.2.2.2.2.1=m.extra)/\L.map Prod.snd=m.aH/\(∀p∈L,Fl pool p)/\
   Sp h h' [dN 1 av pool,an 3 y.2.2.2.2.2.2.1 1 av m.drives,an 94 y.2.2.2.2.2.2.2 4 bH (L.map qI)]:=by
 refine nz (dB a) ?_;unfold lA;obtain⟨ok,d⟩:=aa.cY H;refine(Sp.refl h).alloc af i4 λr l b=>?_;have c:=d.ai b.ai d.lt;refine bx (λe=>j1) λ_=>⟨a,i4,x,c.aV _ i4,(oa x m l (q.up b.ai) n).mono ?_⟩;rintro _ s ⟨y,L,pool,rfl,j,i,k,g⟩;have o:=b.comp g;refine⟨y,i4,?_⟩;refine o.store af 0 i4 i4 0 (aY y) i4 i4 i4 j8 λh3 f=>?_;exact⟨y,(f.box 0 i4).aV _ i4,y,L,pool,i4,j,i,k,f.cK [1,2,3]⟩
theorem acU(slot cells:Int)(x:bV)(m:aG)(Z:bR m=eR)(H:aa B h0 h (bp bz a pw (aY x) offs da w ds::ct x m::As)):
  ac xB 37 #[xt (dB a),xq xx slot,xq xx cells] h λv h'=>v=xq xx (ma m offs w ds slot cells).1/\
   ∃y O,aa B h0 h' (bp bz a pw (aY y) offs O (ma m offs w ds slot cells).2.2.1 (ma m offs w ds slot cells).2.2.2::ct y (ma m offs w ds slot cells).2.1::As):=by
 refine RS (dB a) slot cells ?_;unfold Kt;have K:=jx Z;have ad:=iC Z;obtain⟨g1,g2,g3,g4⟩:=(fF m).1 ((cL m).1 Z).1;refine(Ja H).mono ?_;rintro _ h1 ⟨rfl,rfl⟩;refine⟨_,i4,bx (λe=>?_) λN=>?_⟩
 ·have i:ma m offs w ds slot cells=(14,m,w,ds):=by unfold ma;rw[g0 e]
  rw[i];exact⟨i4,x,da,H⟩
 refine(On x m (H.at 1 i4) K H).mono ?_;rintro _ h2 ⟨y,L,pool,rfl,A,T,hL,R2⟩;have H2:=(H.comp R2).front;refine⟨y,i4,H2.alloc af i4 λa3 h3 H3=>?_⟩;have H3:=H3.bB;refine H3.storeAll af 0 i4 i4 (aY y) i4 i4 i4 i4 λh4 j=>?_;have j:aa B h0 h4 (au a3 29 (aY y)::dN 1 av pool::an 3 y.2.2.2.2.2.2.1 1 av m.drives::an 94 y.2.2.2.2.2.2.2 4 bH (L.map qI)::bp bz a pw (aY x) offs da w ds::ct x m::As):=j;refine(Xd slot cells h4).mono ?_;rintro _ h5 ⟨rfl,rfl⟩;refine⟨_,i4,bo (λz=>?_) λz=>?_⟩
 ·have i:ma m offs w ds slot cells=(1,m,w,ds):=by unfold ma;rw[g9 sz,g0 z]
  rw[i];exact⟨i4,x,da,j.aX 6 [4,5]⟩
 refine⟨y.2.2.2.2.2.2.1,(j.box 0 i4).cell i4,(tw _ m.drives slot h5 (j.seq 2 i4 λ_=>rfl)).mono ?_⟩;rintro _ h6 ⟨rfl,rfl⟩;refine⟨_,i4,bx (λV=>?_) λV=>?_⟩
 ·have i:ma m offs w ds slot cells=(4,m,w,ds):=by unfold ma;rw[g9 sz,g9 sL,g0 (i0 V)]
  rw[i];exact⟨i4,x,da,j.aX 6 [4,5]⟩
 have s:slot∉m.drives:=of_decide_eq_false V;refine⟨y.1,(j.box 0 i4).cell0 i4,aj (λF=>?_) λF=>?_⟩
 ·rw[A.1]at F;have i:ma m offs w ds slot cells=(7,m,w,ds):=by unfold ma;rw[g9 sz,g9 sL,g9 s,g0 F]
  rw[i];exact⟨i4,x,da,j.aX 6 [4,5]⟩
 rw[A.1]at F;have E:=i0 z;obtain⟨n,hn⟩:∃n:Nat,slot=n:=⟨slot.toNat,i5⟩
 have q:n<64:=i5
 have H5:aa B h0 h6 (bp bz a pw (aY x) offs da w ds::au a3 29 (aY y)::dN 1 av pool::an 3 y.2.2.2.2.2.2.1 1 av m.drives::an 94 y.2.2.2.2.2.2.2 4 bH (L.map qI)::ct x m::As):=j.aX 6 [4,0,1,2,3,5];refine(So H5).mono ?_;rintro _ h7 ⟨rfl,rfl⟩;refine⟨_,i4,(NM cells pw h7).mono ?_⟩;rintro _ h8 ⟨Q1,_⟩;obtain⟨b,rfl,R8⟩:=Q1 ⟨E.2.1,E.2.2⟩;have H8:=H5.cm R8;subst hn;refine⟨_,i4,(acT n q x H8).mono ?_⟩;rintro _ h9 ⟨rfl,J⟩;obtain⟨c,p⟩:∃c,c=ds.set n (dB (bs.new cells.toNat)):=⟨_,rfl⟩
 rw[<-p]at J;have J:aa B h0 h9 (au a3 29 (aY y)::an 3 y.2.2.2.2.2.2.1 1 av m.drives::dN 1 av pool::an 94 y.2.2.2.2.2.2.2 4 bH (L.map qI)::bp bz a pw (aY x) offs (da.set n (dB b)) w c::ct x m::As):=J.aX 6 [1,3,2,4,0,5];refine⟨(),i4,y.1,(J.box 0 i4).cell0 i4,?_⟩;dsimp only;rw[A.1,ak (m.seq+1)];refine J.kj af 0 i4 i4 [xq xx (m.seq+1)] i4 i4 i4 j8 λR k=>?_;have k:aa B h0 R (au a3 29 (xq xx (m.seq+1)::(aY y).drop 1)::an 3 y.2.2.2.2.2.2.1 1 av m.drives::dN 1 av pool::an 94 y.2.2.2.2.2.2.2 4 bH (L.map qI)::bp bz a pw (aY x) offs (da.set n (dB b)) w c::ct x m::As):=k;refine⟨_,(k.box 0 i4).cell i4,?_⟩;refine k.push af 1 i4 gM i4 i6 (λ_=>rfl) fD (n:Int) i4 i6 i5 λo am W=>?_;refine W.store af 0 i4 i4 6 [o] i4 i4 i4 j8 λI g=>?_;obtain⟨d,l⟩:∃d:bV,d=(m.seq+1,y.2.1,y.2.2.1,y.2.2.2.1,y.2.2.2.2.1,y.2.2.2.2.2.1,o,y.2.2.2.2.2.2.2):=⟨_,rfl⟩
 have ed:d.2.2.2.2.2.2.1=o:=n8
 have eo:d.2.2.2.2.2.2.2=y.2.2.2.2.2.2.2:=n8
 have g:aa B h0 I (au a3 29 (aY d)::an 3 d.2.2.2.2.2.2.1 1 av (m.drives++[(n:Int)])::dN 1 av pool::an 94 d.2.2.2.2.2.2.2 4 bH (L.map qI)::bp bz a pw (aY x) offs (da.set n (dB b)) w c::ct x m::As):=by rw[ed,eo,l];exact g
 refine⟨_,(g.box 0 i4).cell i4,(IE d.2.2.2.2.2.2.1 (m.drives++[(n:Int)]) I (g.own 1 i4) i9).mono ?_⟩;rintro _ D ⟨rfl,ab,Q⟩;have f:=g.nR 1 i4 Q ab;obtain⟨dr,t⟩:∃dr,dr=ic (m.drives++[(n:Int)]):=⟨_,rfl⟩
 rw[<-t]at f;have f:aa B h0 D (au a3 29 (aY d)::an 3 d.2.2.2.2.2.2.1 1 av dr::dN 1 av pool::an 94 d.2.2.2.2.2.2.2 4 bH (L.map qI)::bp bz a pw (aY x) offs (da.set n (dB b)) w c::ct x m::As):=f;refine⟨(),i4,d,(f.box 0 i4).aV _ i4,?_⟩;obtain⟨M,G⟩:∃M,M=JV m dr:=⟨_,rfl⟩
 have S:aa B h0 D (ct d M::bp bz a pw (aY x) offs (da.set n (dB b)) w c::ct x m::As):=aa.Fm (m:=M) (L:=L) (pool:=pool) (by rw[G,l];exact⟨i4,A.2.1,A.2.2.1,A.2.2.2⟩) (by rw[G];exact T) hL (by rw[G];exact f.aX 6 [2,1,3,4,5]);have P:cR M:=by rw[G];exact⟨by show dr.length<=_;rw[t,Hq];simp;omega,K.ob,K.nm⟩
 refine(KV x m d M (As:=ct d M::As) (St.eE 0 i4 λ_ hq=>hq) K P i5 (S.aX 3 [1,2,0])).mono ?_;rintro _ ah ⟨rfl,Y,u⟩;have i:ma m offs w ds n cells=((cZ m offs w c M).1,(cZ m offs w c M).2.1,(cZ m offs w c M).2.2.1,if(cZ m offs w c M).1=7 then(cZ m offs w c M).2.2.2.set n eH else(cZ m offs w c M).2.2.2):=by unfold ma;rw[g9 sz,g9 sL,g9 s,g9 F,G,t,p];rfl
 rw[i];obtain⟨r,hr⟩:∃r,r=cZ m offs w c M:=⟨_,rfl⟩
 rw[<-hr]at u⊢;refine⟨_,i4,bi (ck (λU=>?_) λU=>?_)⟩
 ·refine(Vl n q Y (u.aX 3 [0,1])).mono ?_;rintro _ ao ⟨rfl,X⟩;exact⟨(),i4,i4,Y,_,by rw[g0 U];exact X⟩
 ·exact⟨i4,Y,_,by rw[g9 U];exact u.aX 3 [0,1]⟩
end
section
variable {B:aC} {h0 h:f9} {As:List HP} {a pw:f7} {offs:Int} {da:List aM} {w:Pow} {ds:aJ} {mc:bh}
theorem Oo{k:Int}{d:bs}(e:bm ds k=dB d)(H:aa B h0 h (bp bz a pw mc offs da w ds::As)):∃(b:f7) (s g:Sl),gN da k=dB b/\cx h b 119 (fu pw d s g)/\fE h s 1 aF d.l/\gE d:=by
 obtain⟨ok,_⟩:=aa.cY H;rcases nG ok k with⟨h1,_⟩|⟨n,d',b,rfl,hn,h1,h2,h3,h4⟩
 ·rw[h1]at e;cases e
 ·rw[h2]at e;injection e with e
  subst e;obtain⟨m,c,j⟩:=Go.Vc.aa.jZ H h1;rw[h3]at c;injection c with c
  injection c with c
  subst c;obtain⟨f,s,g,i⟩:=aa.rT j;exact⟨b,s,g,h4,i.box 0 i4,(i.aX 2 [1,0]).FO λ_=>rfl,f⟩
theorem ajB{k:Int}(c:bm ds k=eH)(H:aa B h0 h (bp bz a pw mc offs da w ds::As)):gN da k=eH:=by
 obtain⟨ok,_⟩:=aa.cY H;rcases nG ok k with⟨_,h2⟩|⟨n,d',b,rfl,hn,h1,h2,h3,h4⟩
 ·exact h2
 ·rw[h2]at c;cases c
theorem Vm{k:Int}(H:aa B h0 h (bp bz a pw mc offs da w ds::As)):ac xB 23 #[xt (dB a),xq xx k] h λv h'=>v=.pointer (gN da k)/\h'=h:=by obtain⟨ok,b⟩:=aa.cY H;exact mW k ok b
theorem Vn{k:Int}{d:bs}{b:f7}(x:bV)(m:aG)(i:bm ds k=dB d)(n:gN da k=dB b)(j:dn h x m)(p:cR m)(H:aa B h0 h (bp bz a pw mc offs da w ds::As)):
  ac xB 122 #[xt (dB b),fH x] h λv h'=>v=xv (gB m d.l)/\Sp h h' []:=by
 obtain⟨q,s,f,c,g,e,o⟩:=Oo i H;rw[n]at c;injection c with c
 subst c;exact ZR b pw d s f x m h g e o j p
end
def El(a b c:Int):Int×Int×Int:=(1+a%6,1+b%3,1+c%9)
theorem ZZ(a b c:Int)(h:f9):ac xB 70 #[xq xx a,xq xx b,xq xx c] h λv h'=>v=kW (El a b c)/\Sp h h' []:=by refine AL a b c ?_;unfold oJ;refine(Sp.refl h).alloc af i4 λx f g=>?_;refine(ci a 6 f i6 i6).mono ?_;rintro v e ⟨rfl,rfl⟩;refine⟨_,i4,(ci b 3 e i6 i6).mono ?_⟩;rintro v h3 ⟨rfl,rfl⟩;refine⟨_,i4,(ci c 9 h3 i6 i6).mono ?_⟩;rintro v j ⟨rfl,rfl⟩;refine⟨_,i4,?_⟩;dsimp only;rw[ak _,ak _,ak _];refine g.storeAll af 0 i4 i4 [xq xx (1+a%6),xq xx (1+b%3),xq xx (1+c%9)] i4 i4 i4 i4 λi d=>?_;exact⟨El a b c,(d.box 0 i4).aV _ i4,i4,.zip d.ai⟩
theorem acV(a b c:Int):bO (El a b c)=eR:=by rw[co];unfold El;dsimp only;omega
def bC(a pw:f7)(b:List aM)(offs:Int)(w:Pow)(ds:aJ)(m:aG):HP:=HP.ex λx:bV=>(bp bz a pw (aY x) offs b w ds).sep (ct x m)
section
variable {B:aC} {h0 h:f9} {As:List HP} {a pw:f7} {offs:Int} {da:List aM} {w:Pow} {ds:aJ} {m:aG}
theorem gg(H:aa B h0 h (bC a pw da offs w ds m::As)):∃x,aa B h0 h (bp bz a pw (aY x) offs da w ds::ct x m::As):=by obtain⟨x,H⟩:=H.tQ;exact⟨x,H.uh.oC⟩
theorem lE{x:bV}(H:aa B h0 h (bp bz a pw (aY x) offs da w ds::ct x m::As)):aa B h0 h (bC a pw da offs w ds m::As):=
 aa.Am (F:=λx:bV=>(bp bz a pw (aY x) offs da w ds).sep (ct x m)) x H.oC.mu
end
section
variable {B:aC} {h0 h:f9} {As:List HP} {a pw:f7} {offs:Int} {da:List aM} {w:Pow} {ds:aJ} {m:aG}
theorem mQ(H:aa B h0 h (bC a pw da offs w ds m::As)):i1 ds=64/\∀k d,bm ds k=dB d->i1 d.l<=d.room/\d.room<=512/\gE d:=by obtain⟨x,H⟩:=gg H;obtain⟨ok,_⟩:=aa.cY H;refine⟨ok.ls,λk d e=>?_⟩;obtain⟨b,s,f,_,_,_,c⟩:=Oo e H;exact⟨c.len,c.room,c⟩
theorem Oq(p:Pm)(extra:Int)(s:Sl)(l:aD)(j:St B h0 As λh=>Rd h s 1 av l)(k:i1 l<=64)(d:tv p extra l=0)(g:w=Pow.new)(H:aa B h0 h (dl 121 pw w::As)):
  ac xB 32 #[kW p,xq xx extra,xt (dB pw),s] h λv h'=>∃(a:f7) (da:List aM) (D:aJ),v=.tuple #[xt (dB a),xq xx 0]/\D.length=64/\
   (∀s,bm D s=if s∈bt l l.length then dB ⟨(l.getD s.toNat 0).toNat,bu (cD p extra l),0,[],eS,eS⟩else eH)/\aa B h0 h' (bC a pw da 0 Pow.new D (cD p extra l)::As):=by
 subst g;obtain⟨D,i,f,e⟩:=acR (p:=p) (extra:=extra) (l:=l) k d;refine(WX p extra s l j i5 H).mono ?_;rintro _ h' ⟨_,b⟩;rw[i]at b;obtain⟨a,y,da,rfl,c⟩:=b rfl;exact⟨a,da,D,i4,f,e,lE c⟩
theorem ahW(name:ByteArray)(s:Sl)(b:bf)(k:St B h0 As λh=>Rd h s 1 aF b)(e:s.len<=s.cap)(i:name.size<=2^40)(c:bR m=eR)(d:i1 b<=2^20)(H:aa B h0 h (bC a pw da offs w ds m::As)):
  ac xB 35 #[xt (dB a),xu name,s] h λv h'=>v=xq xx (iK m offs w ds name b).1/\
   aa B h0 h' (bC a pw da offs (iK m offs w ds name b).2.2.1 (iK m offs w ds name b).2.2.2 (iK m offs w ds name b).2.1::As):=by
 obtain⟨x,H⟩:=gg H;obtain⟨l,n,g,j⟩:=(fF m).1 ((cL m).1 c).1;refine(afp x m name s b k e i (jx c) g j (lx c) (iC c) i5 i5 d H).mono ?_;rintro _ h' ⟨rfl,y,f⟩;exact⟨i4,lE f⟩
theorem ahX(slot cells:Int)(d:bR m=eR)(H:aa B h0 h (bC a pw da offs w ds m::As)):
  ac xB 37 #[xt (dB a),xq xx slot,xq xx cells] h λv h'=>v=xq xx (ma m offs w ds slot cells).1/\
   ∃b,aa B h0 h' (bC a pw b offs (ma m offs w ds slot cells).2.2.1 (ma m offs w ds slot cells).2.2.2 (ma m offs w ds slot cells).2.1::As):=by
 obtain⟨x,H⟩:=gg H;refine(acU slot cells x m d H).mono ?_;rintro _ h' ⟨rfl,y,b,c⟩;exact⟨i4,b,lE c⟩
theorem Bl(b:bR m=eR)(H:aa B h0 h (bC a pw da offs w ds m::As)):
  ac xB 9 #[xt (dB a)] h λv h'=>∃r:Sl,v=r/\Sp h h' [an 3 r 1 av (aN ds m.drives)]:=by
 obtain⟨x,H⟩:=gg H;exact gd x m (H.at 1 i4) (jx b) H
theorem LZ(b:bR m=eR)(H:aa B h0 h (bC a pw da offs w ds m::As)):
  ac xB 8 #[xt (dB a)] h λv h'=>∃y:bV,v=fH y/\Sp h h' [ct y m]:=by
 obtain⟨x,H⟩:=gg H;exact PU x m (H.at 1 i4) (jx b) H
theorem Cu(k:Int)(H:aa B h0 h (bC a pw da offs w ds m::As)):ac xB 23 #[xt (dB a),xq xx k] h λv h'=>v=.pointer (gN da k)/\h'=h:=by obtain⟨x,H⟩:=gg H;exact Vm H
theorem JW{k:Int}{d:bs}(c:bm ds k=dB d)(H:aa B h0 h (bC a pw da offs w ds m::As)):∃b,gN da k=dB b:=by obtain⟨x,H⟩:=gg H;obtain⟨b,_,_,e,_⟩:=Oo c H;exact⟨b,e⟩
theorem acW{k:Int}(b:bm ds k=eH)(H:aa B h0 h (bC a pw da offs w ds m::As)):gN da k=eH:=by obtain⟨x,H⟩:=gg H;exact ajB b H
theorem acX{k:Int}{d:bs}{b:f7}(z:bV)(n:aG)(c:bm ds k=dB d)(f:gN da k=dB b)(e:dn h z n)(g:cR n)(H:aa B h0 h (bC a pw da offs w ds m::As)):
  ac xB 122 #[xt (dB b),fH z] h λv h'=>v=xv (gB n d.l)/\Sp h h' []:=by
 obtain⟨x,H⟩:=gg H;exact Vn z n c f e g H
theorem Ma{k:Int}{d:bs}{b:f7}(i:bm ds k=dB d)(j:gN da k=dB b)(H:aa B h0 h (bC a pw da offs w ds m::As)):∃s e:Sl,cx h b 119 (fu pw d s e)/\fE h s 1 aF d.l/\gE d:=by
 obtain⟨x,H⟩:=gg H;obtain⟨o,s,e,c,g,f,n⟩:=Oo i H;rw[j]at c;injection c with c
 subst c;exact⟨s,e,g,f,n⟩
theorem Rq(o b:Int)(e:bR m=eR)(H:aa B h0 h (bC a pw da offs w ds m::As)):
  ac xB 11 #[xt (dB a),xq xx o,xq xx b] h λv h'=>∃r:Sl,v=r/\Sp h h' [dJ 22 r 3 1 av (dc m ds o b (aN ds m.drives))]:=by
 have c:=(mQ H).2;obtain⟨x,H⟩:=gg H;exact ZP x m o b (H.at 1 i4) (jx e) (iC e) (λk d f=>by have:=c k d f;omega) H
theorem Vo(H:aa B h0 h (bC a pw da offs w ds m::As)):ac xB 52 #[xt (dB a)] h λv h'=>v=xv (dO w offs)/\h'=h:=by obtain⟨x,H⟩:=gg H;exact tl H
end
end Go.Qw
namespace Wl
open Go Go.Qw Go.Vc
def dG(m:aG):aD->Pow->aJ->Int×Pow×aJ
 |[],w,ds=>(0,w,ds)
 |k::l,w,ds=>match bm ds k with
  |none=>dG m l w ds
  |some d=>if d.l=cv m d.l then dG m l w ds else
   if(d.rewrite w (cv m d.l)).1=0 then dG m l (d.rewrite w (cv m d.l)).2.1 (bQ ds k (d.rewrite w (cv m d.l)).2.2)
   else((d.rewrite w (cv m d.l)).1,(d.rewrite w (cv m d.l)).2.1,bQ ds k (d.rewrite w (cv m d.l)).2.2)
end Wl
namespace Go.Qw
open Go Go.Vc Go.Proofs Wl
theorem Xf(a b:Sl)(c d:cJ)(h:f9)(p:fE h a 1 aF c)(o:fE h b 1 aF d)(y:i1 c<=2^30):
  ac xB 63 #[a,b,.func (.func 64) #[] #[]] h λv h'=>v=xv (decide (c=d))/\h'=h:=by
 refine lI a b (64,#[],#[]) ?_;unfold hJ;have g:=p.len;have j:=o.len;refine bY (λe=>⟨?_,i4⟩) λe=>?_
 ·rw[ii λh=>e (by rw[g,j,h])]
 have t:i1 c=i1 d:=i5
 refine aA (λi:Nat=>(i:Int)) (λi h'=>i<=i1 c/\c.take i=d.take i/\h'=h) (λi=>i1 c-i) 0 i4 ⟨i5,jj,i4⟩ ?_;rintro i s ⟨x,l,rfl⟩;refine aj (λn=>?_) (λn=>?_)
 ·have f:i<i1 c:=by have q:(i:Int)<(a.len:Int):=n;omega
  refine p.get i i4 f λr u=>o.get i i4 i5 λw k=>fd ld ?_;refine(rV r w _ _ s u k).mono ?_;rintro _ _ ⟨rfl,rfl⟩;refine⟨_,i4,bo (λm=>⟨?_,i4⟩) λm=>?_⟩
  ·rw[ii λh=>of_decide_eq_false m (by simp only[h])]
  ·refine⟨i+1,j0,⟨i5,?_,i4⟩,i5⟩;rw[aK _ _ f,aK _ _ (show i<i1 d by omega),l,i0 m]
 ·have q:¬(i:Int)<(a.len:Int):=n;rw[qi i5,qi i5]at l;exact⟨by rw[hU l],i4⟩
abbrev de(a:f7)(y:bV)(b:Sl)(t most k:Int):bh:=xt (dB a)::(aY y++[xr b.ptr b.len b.cap,xq xx t,xq xx most,xq xx k])
section
variable {B:aC} {h0 h:f9} {As:List HP} {a pw:f7} {offs:Int} {da:List aM} {w:Pow} {ds:aJ} {m:aG}
theorem Xg{k:Int}{d:bs}{b:f7}(x:Sl)(l:cJ)(s:St B h0 As λh=>fE h x 1 aF l)(D:i1 l<=2^20)(i:∀c∈l,i1 c<=2^20)(f:bm ds k=dB d)(j:gN da k=dB b)(H:aa B h0 h (bC a pw da offs w ds m::As)):
  ac xB 65 #[xt (dB b),x] h λv h'=>v=xq xx (d.rewrite w l).1/\aa B h0 h' (bC a pw da offs (d.rewrite w l).2.1 (bQ ds k (d.rewrite w l).2.2) m::As):=by
 obtain⟨y,H⟩:=gg H;obtain⟨ok,_⟩:=aa.cY H;obtain⟨n,rfl,E⟩:=lc f;have z:ds[n]?=dB (dB d):=by
  unfold bm at f;rw[g0 i5,ql]at f;cases hX:ds[n]? with
  |none=>rw[hX]at f;cases f
  |some o=>rw[hX]at f;exact congrArg dB f
 obtain⟨q,g,u⟩:=Go.Vc.aa.jZ H z;have p:q=b:=by unfold gN at j;rw[g0 i5,ql,g]at j;injection j
 subst p;refine(IP x l u (λBs h' r=>(s.cons.cons) Bs h' r) D i).mono ?_;rintro _ h' ⟨rfl,t⟩;have A:=Go.Vc.aa.tk (k:=bz) (n:=n) g t;refine⟨i4,?_⟩;have e:bQ ds (n:Int) (d.rewrite w l).2.2=ds.set n (dB (d.rewrite w l).2.2):=by simp only[bQ,ql]
 rw[e];exact lE A
theorem Sx{m:aG}{l:cJ}(b:cR m)(d:i1 l<=512):i1 (cv m l)<=4000/\∀c∈cv m l,i1 c<=64:=by
 refine⟨?_,λc a=>?_⟩
 ·have:=ka m b;have:=xR m l;unfold cv;rw[qx];omega
 ·unfold cv at a;rcases qz.1 a with a|a
  ·exact Nat.le_of_eq (xE a)
  ·exact KR a
theorem aaa{c:f7}(y:bV)(P:Sl)(live:aD)(t most k:Int)(hm:bR m=eR)(hl:i1 live<=64)(r:∀k∈live,∃d,bm ds k=dB d)
  (hS:St B h0 As λh=>cx h c 104 (de a y P t most k)/\dn h y m/\Rd h P 1 av live) (H:aa B h0 h (bC a pw da offs w ds m::As)):
  ac xB 54 #[xt (dB c)] h λv h'=>v=xq xx (dG m live w ds).1/\aa B h0 h' (bC a pw da offs (dG m live w ds).2.1 (dG m live w ds).2.2 m::As):=by
 refine AJ (dB c) ?_;unfold oH;have hz:=jx hm;have D:=hS.at [_] H;have Y:=D.2.2.len;refine⟨c,i4,P,D.1.cell i4,?_⟩;refine aA (λt:Nat×Pow×aJ=>(t.1:Int)) (λt h'=>t.1<=i1 live/\(∀k∈live,∃d,bm t.2.2 k=dB d)/\dG m live w ds=dG m (live.drop t.1) t.2.1 t.2.2/\aa B h0 h' (bC a pw da offs t.2.1 t.2.2 m::As)) (λt=>i1 live-t.1) (0,w,ds) i4 ⟨i5,r,i4,H⟩ ?_;rintro⟨i,o,j⟩ h1 ⟨hi,f,n,p⟩;dsimp only at hi f n p⊢;obtain⟨z,hy,Q⟩:=hS.at [_] p;refine aj (λe=>?_) λe=>?_
 ·have u:i<i1 live:=i5
  obtain⟨d,q⟩:=f live[i] (qg u);obtain⟨b,N⟩:=JW q p;refine Q.bG i i4 u live[i] i4 ⟨c,i4,dB a,z.cell0 i4,(Cu _ p).mono ?_⟩;rintro _ h2 ⟨rfl,rfl⟩;rw[N];obtain⟨s,W,J,V,F⟩:=Ma q N p;have Z:=F.len;have O:=F.room;obtain⟨k1,k2⟩:=Sx hz (show d.l.length<=512 by omega);refine⟨_,i4,c,i4,y,z.cells 1 _ i4,(IQ s W y m J V F hy hz).mono ?_⟩;rintro _ h3 ⟨g,rfl,I⟩;refine⟨g,i4,(LP s W (J.ai I.ai J.lt) (V.up I.ai) F).mono ?_⟩;rintro _ U ⟨x,rfl,T⟩;have K:fE U g 1 aF (cv m d.l):=(I.FO λ_=>rfl).up T.ai;refine⟨x,i4,(Xf x g _ _ U (T.FO λ_=>rfl) K i5).mono ?_⟩;rintro _ h5 ⟨rfl,rfl⟩;have S:live.drop i=live[i]::live.drop (i+1):=qP u;have X:=(p.cm I).up T.ai;refine⟨_,i4,aj (λE=>?_) λE=>?_⟩
  ·refine⟨(i+1,o,j),js,⟨i7,f,?_,X.aX 1 []⟩,i7⟩;rw[n,S];show dG m (live[i]::live.drop (i+1)) o j=dG m (live.drop (i+1)) o j;rw[dG,q];dsimp only;rw[g0 E]
  ·obtain⟨rs,L⟩:=X.ZA λ_=>rfl;have L:aa B h0 h5 (bC a pw da offs o j m::cN (cz 1 aF) 1 bv g rs (cv m d.l)::As):=L.aX 2 [1,0];refine(Xg g (cv m d.l) (St.eE (A:=cN (cz 1 aF) 1 bv g rs (cv m d.l)) 0 i4 λh' R=>⟨rs,R.1,R.2.1,R.2.2⟩) i5 (λc hc=>by have:=k2 c hc;omega) q N L).mono ?_;rintro _ h6 ⟨rfl,G⟩;have G:=G.aX 2 [0];refine⟨_,i4,bY (λM=>?_) λM=>?_⟩
   ·have ec:dG m live w ds=((d.rewrite o (cv m d.l)).1,(d.rewrite o (cv m d.l)).2.1,bQ j live[i] (d.rewrite o (cv m d.l)).2.2):=by rw[n,S,dG,q];dsimp only;rw[g9 E,g9 M]
    rw[ec];exact⟨i4,G⟩
   ·refine⟨(i+1,(d.rewrite o (cv m d.l)).2.1,bQ j live[i] (d.rewrite o (cv m d.l)).2.2),js,⟨i7,λk hk=>?_,?_,G⟩,i7⟩
    ·dsimp only;rw[iw (mQ p).1 q];split
     ·exact⟨_,i4⟩
     ·exact f k hk
    ·dsimp only;rw[n,S,dG,q];dsimp only;rw[g9 E,g0 (by simpa using M)]
 ·have:i=i1 live:=i5
  subst this;rw[yL]at n;rw[n];exact⟨i4,p⟩
end
def ints(l:List Nat):aD:=l.map λx:Nat=>(x:Int)
theorem lF(l:List Nat):i1 (ints l)=i1 l:=by simp[ints]
theorem Mb{l:List Nat}{k:Nat}(h:k<i1 l):(ints l)[k]'(by rw[lF];exact h)=(l[k]:Int):=by simp[ints]
theorem Ys{n:Nat}:∀{j i:Nat},i<=j->2*j<=n->ch n i<=ch n j
 |0,i,h,_=>by
   have:i=0:=i5
   subst this;exact qm _
 |j+1,i,h,hj=>by
  by_cases a:i=j+1
  ·subst a;exact qm _
  ·exact zd (Ys i5 i5) (aka i5)
theorem Em(n t:Int)(h:f9):ac xB 111 #[xq xx n,xq xx t] h λv h'=>v=xv (decide (0<=n/\n<=64/\0<=t/\t<=n))/\h'=h:=by
 refine Pw n t ?_;unfold Ib;refine aj (λb=>aj (λa=>aj (λh3=>⟨?_,i4⟩) λh3=>⟨?_,i4⟩) λa=>⟨?_,i4⟩) (λb=>⟨?_,i4⟩)
 ·congr 1;exact decide_eq_decide.2 i5
 ·rw[ii i5]
 ·rw[ii i5]
 ·rw[ii i5]
theorem tz(n t:Int)(h:f9)(B:-(2^62)<=n/\n<=2^62)(D:-(2^62)<=t/\t<=2^62):ac xB 53 #[xq xx n,xq xx t] h λv h'=>v=xq xx (gT n t)/\h'=h:=by
 refine Pr n t ?_;unfold HW;refine(Em n t h).mono ?_;rintro v r ⟨rfl,rfl⟩;refine⟨_,i4,bo (λe=>?_) λe=>?_⟩
 ·have e:=of_decide_eq_false e;unfold gT;rw[g9 e];exact⟨i4,i4⟩
 ·have e:=i0 e;obtain⟨N,rfl⟩:∃N:Nat,n=N:=⟨n.toNat,i5⟩
  obtain⟨T,rfl⟩:∃T:Nat,t=T:=⟨t.toNat,i5⟩
  have p:gT N T=((min (ch N T) 4097:Nat):Int):=by unfold gT;rw[g0 e];rfl
  rw[p];obtain⟨m,q⟩:∃m,m=min T (N-T):=⟨_,rfl⟩
  have g:ch N m=ch N T:=by
   rw[q];rcases Nat.le_total T (N-T)with b|b
   ·rw[Nat.min_eq_left b]
   ·rw[Nat.min_eq_right b,<-TK N T i5]
  have a:(if qc xx ((N:Int)-T)<(T:Int)then qc xx ((N:Int)-T)else(T:Int))=(m:Int):=by rw[ak _];split<;>omega
  rw[a];refine aA (λi:Nat=>(((ch N i:Nat):Int),(i:Int))) (λi h'=>h'=r/\i<=m/\ch N i<=4096) (λi=>m-i) 0 (by rw[nS];rfl) ⟨i4,i5,by rw[nS];omega⟩ ?_;rintro i b ⟨rfl,A,c⟩;dsimp only;refine aj (λx=>?_) (λx=>?_)
  ·have z:i<m:=i5
   have E:N<=64:=i5
   have d:=Yc (n:=N) (k:=i) i5;have f:ch N i*(N-i)<=4096*64:=Nat.mul_le_mul c i5;have y:qc xx ((N:Int)-i)=((N-i:Nat):Int):=j4
   have w:qc xx (((ch N i:Nat):Int)*((N-i:Nat):Int))=((ch N i*(N-i):Nat):Int):=by rw[<-Int.natCast_mul,ak _]
   have o:qc xx ((i:Int)+1)=((i+1:Nat):Int):=j0
   have l:Int.tdiv ((ch N i*(N-i):Nat):Int) ((i+1:Nat):Int)=((ch N (i+1):Nat):Int):=by rw[<-d,<-Int.ofNat_tdiv,Nat.mul_div_cancel _ i5]
   have u:ch N (i+1)<=4096*64:=by have:ch N (i+1)*1<=ch N (i+1)*(i+1):=Nat.mul_le_mul_left _ i5;omega
   rw[y,w,o,l,ak _];refine⟨i5,aj (λs=>?_) λs=>?_⟩
   ·have:=Ys (n:=N) (j:=m) (i:=i+1) i5 i5;refine⟨?_,i4⟩;rw[show min (ch N T) 4097=4097 by omega];rfl
   ·exact⟨i+1,i4,⟨i4,i5,i5⟩,i5⟩
  ·have:i=m:=i5
   subst this;refine⟨?_,i4⟩;rw[show min (ch N T) 4097=ch N i by omega]
theorem index_spec(s:Sl)(l:aD)(x:Int)(h:f9)(g:Rd h s 1 av l)(o:i1 l<=2^30):ac xB 107 #[s,xq xx x] h λv h'=>(∃i:Int,v=xq xx i/\(0<=i↔x∈l)/\(0<=i->l[i.toNat]?=dB x/\∀j,j<i.toNat->l[j]?≠dB x)/\i<i1 l/\-1<=i)/\h'=h:=by
 refine nC s x ?_;unfold lB;have k:=g.len;refine aA (λi:Nat=>(i:Int)) (λi h'=>h'=h/\i<=i1 l/\∀j,j<i->l[j]?≠dB x) (λi=>i1 l-i) 0 i4 ⟨i4,i5,λj b=>i5⟩ ?_;rintro i n ⟨rfl,m,c⟩;refine aj (λe=>?_) (λe=>?_)
 ·have a:i<i1 l:=i5
  refine g.bG i i4 a _ i4 ?_;refine ck (λf=>?_) (λf=>?_)
  ·refine⟨⟨i,i4,⟨λ_=>f▸qg a,λ_=>i5⟩,λ_=>⟨by rw[ql,qd a,f],λj b=>c j i5⟩,i5,i5⟩,i4⟩
  ·refine⟨i+1,j0,⟨i4,i5,λj b=>?_⟩,i5⟩;rcases zo.1 b with b|rfl
   ·exact c j b
   ·rw[qd a];intro d;exact f (zR.inj d).symm
 ·refine⟨⟨-1,i4,⟨λd=>i5,λd=>?_⟩,λd=>i5,i5,i5⟩,i4⟩;obtain⟨j,b,rfl⟩:=qK d;exact absurd (qd b) (c j i5)
theorem uT(s:Sl)(l:aD)(x:Int)(h:f9)(c:Rd h s 1 av l)(b:i1 l<=2^30):ac xB 50 #[s,xq xx x] h λv h'=>v=xv (decide (x∈l))/\h'=h:=by refine mi s x ?_;unfold jJ;refine(index_spec s l x h c b).mono ?_;rintro v d ⟨⟨i,rfl,a,_⟩,rfl⟩;refine⟨i,i4,?_,i4⟩;congr 1;exact decide_eq_decide.2 a
theorem acY(n:Nat)(s:Sl)(l:List Nat){B:aC}{t h:f9}{As:List HP}(H:aa B t h As)(i:Nat)(m:As[i]?=dB (an 3 s 1 av (ints l)))(P:n<=64)(G:i1 l<=n)(M:∀x∈l,x<n):
  ac xB 179 #[s,xq xx n] h λv h'=>match kB n l with
   |some l'=>v=xv eR/\aa B t h' (As.set i (an 3 s 1 av (ints l')))
   |none=>v=xv eS/\h'=h:=by
 refine Sg s n ?_;unfold KF;have f:=(H.own i m).len;rw[lF]at f;refine aA (λk:Nat=>(k:Int)-1) (λk h'=>h'=h/\k<=i1 l/\kB n (l.drop k)=eH) (λk=>k) l.length (by rw[f,ak _]) ⟨i4,qm _,by rw[yL];rfl⟩ ?_;rintro k O ⟨rfl,R,c⟩;refine aj (λe=>?_) (λe=>?_)
 ·obtain⟨k,rfl⟩:∃j,k=j+1:=⟨k-1,i5⟩
  have b:k<i1 l:=i5
  have D:=H.seq i m λ_=>rfl;have d:(((k+1:Nat):Int)-1)=(k:Int):=i5
  have I:=M _ (qg b);have o:kB n (l.drop k)=if l[k]+(i1 l-k-1)+1<n then dB (zP (l[k]+1) (i1 l-k-1+1))else eH:=by rw[qP b];unfold kB;rw[c];simp[Nat.sub_sub]
  refine D.bG k d (by rw[lF];exact b) _ i4 ?_;rw[Mb b,d,ak ((n:Int)-((s.len:Nat):Int)),ak _];refine aj (λJ=>?_) (λJ=>?_)
  ·refine D.bG k i4 (by rw[lF];exact b) _ i4 ?_;rw[Mb b,ak _];rw[g0 i5]at o;have L:=TH k l _ i5 o;rw[L];dsimp only;refine H.set af i m (λ_=>rfl) i4 k i4 (by rw[lF];exact b) ((l[k]:Int)+1) i4 i4 i4 λQ z=>?_;let a:Nat->List Nat:=λj=>l.take k++zP (l[k]+1) (j+1)++l.drop (k+1+j);have g:(ints l).set k ((l[k]:Int)+1)=ints (a 0):=by
    have:a 0=l.set k (l[k]+1):=by simp only[a];rw[List.set_eq_take_append_cons_drop,g0 b];simp[List.range'_succ]
    rw[this];simp[ints,vM]
   rw[g]at z;refine aA (λj:Nat=>((k+1+j:Nat):Int)) (λj h'=>k+1+j<=i1 l/\aa B t h' (As.set i (an 3 s 1 av (ints (a j))))) (λj=>i1 l-j) 0 j0 ⟨i5,z⟩ ?_;rintro j h3 ⟨N,y⟩;have A:i1 (a j)=i1 l:=by simp[a];omega
   have w:i<i1 As:=(qn.1 m).1;have E:(As.set i (an 3 s 1 av (ints (a j))))[i]?=dB (an 3 s 1 av (ints (a j))):=zm w;refine aj (λF=>?_) (λF=>?_)
   ·have q:k+1+j<i1 l:=i5
    have r:(a j)[k+j]'(by omega)=l[k]+1+j:=by simp only[a,qp];rw[zZ i9,List.getElem_append_left i9];simp[List.getElem_range'];omega
    refine(y.seq i E λ_=>rfl).bG (k+j) j4 (by rw[lF];omega) _ i4 ?_;rw[Mb i5,r,ak _];refine y.set af i E (λ_=>rfl) i4 (k+1+j) i4 (by rw[lF];omega) (((l[k]+1+j:Nat):Int)+1) i4 i4 i4 λS u=>?_;refine⟨j+1,j4,⟨i5,?_⟩,i5⟩;rw[yt]at u;have:(ints (a j)).set (k+1+j) (((l[k]+1+j:Nat):Int)+1)=ints (a (j+1)):=by
     have K:(a j).set (k+1+j) (l[k]+1+j+1)=a (j+1):=by
      simp only[a];rw[qV _ _ i9];have:k+1+j-i1 (List.take k l++zP (l[k]+1) (j+1))=0:=i9
      rw[this,qP q,zq,List.range'_concat (n:=j+1)];simp[wX]
     rw[<-K];simp[ints,vM]
    rw[this]at u;exact u
   ·have p:k+1+j=i1 l:=i5
    refine⟨i4,?_⟩;have:l.take k++zP (l[k]+1) (i1 l-k-1+1)=a j:=by simp only[a];rw[p,yL,qN,show l.length-k-1+1=j+1 by omega]
    rw[this];exact y
  ·rw[g9 i5]at o;exact⟨k,by rw[ak _],⟨i4,i5,o⟩,i5⟩
 ·have:k=0:=i5
  subst this;rw[List.drop_zero]at c;rw[c];exact⟨i4,i4⟩
end Go.Qw
namespace Wl
open Go Go.Qw Go.Vc
end Wl
namespace Go.Qw
open Go Go.Vc Go.Proofs Wl
section
variable {B:aC} {h0 h:f9} {As:List HP} {a pw:f7} {offs:Int} {da:List aM} {w:Pow} {ds:aJ} {m:aG}
end
theorem ahY(h:f9)(x:UInt8):ac xB 250 #[xq xy x.toNat] h λv h'=>v=xv (x !=0)/\h'=h:=by
 refine PJ _ ?_;unfold Iv;refine⟨?_,i4⟩;congr 1;by_cases a:x=0
 ·subst a;rfl
 ·have:((x.toNat:Nat):Int)≠0:=λb=>a (Dc.1 b);rw[bne_iff_ne.2 a];exact bne_iff_ne.2 this
theorem Jb(a:Sl)(l:Row)(h:f9)(p:Rd h a 1 aF l)(u:i1 l<=2^30:=by omega):ac xB 183 #[a] h λv h'=>v=xq xx (if fk l<i1 l then(fk l:Int)else-1)/\h'=h:=by
 refine Uq a ?_;unfold Nw;refine(rO a (250,#[],#[]) (R:=λv h'=>v=xq xx (if fk l<i1 l then(fk l:Int)else-1)/\h'=h) ?_).mono ?_
 ·unfold lW;have q:=p.len;refine aA (λi:Nat=>(i:Int)) (λi h'=>h'=h/\i<=i1 l/\∀j (b:j<i1 l),j<i->l[j]=0) (λi=>i1 l-i) 0 i4 ⟨i4,i5,λj _ b=>i5⟩ ?_;rintro i o ⟨rfl,s,c⟩;refine aj (λe=>?_) (λe=>?_)
  ·have d:i<i1 l:=i5
   refine p.bG i i4 d _ i4 ?_;refine fd ld ?_;refine(ahY o l[i]).mono ?_;rintro v t ⟨rfl,rfl⟩;refine⟨_,i4,bx (λn=>?_) λn=>?_⟩
   ·have m:fk l=i:=by rw[fk,List.findIdx_eq d];exact⟨n,λj b=>by simp[c j i5 b]⟩
    rw[m,g0 d];exact⟨i4,i4⟩
   ·refine⟨i+1,j0,⟨i4,i5,λj b k=>?_⟩,i5⟩;rcases zo.1 k with h3|rfl
    ·exact c j b h3
    ·simpa using n
  ·have g:¬fk l<i1 l:=by rw[fk,wQ];rintro⟨x,r,f⟩;obtain⟨j,b,rfl⟩:=qK r;rw[c j b i5]at f;simp at f
   rw[g9 g];exact⟨i4,i4⟩
 ·rintro v o ⟨rfl,rfl⟩;exact⟨_,i4,i4,i4⟩
theorem afB(a b:Sl)(c d:Row)(h:f9)(l:Rd h a 1 aF c)(j:Rd h b 1 aF d)(A:i1 c=i1 d)(u:i1 c<=2^30):ac xB 306 #[a,b] h λv h'=>∃r:Sl,v=.tuple #[r,xv eR]/\Sp h h' [an 5 r 1 aF (zi (·^^^·) c d)]:=by
 refine WG a b ?_;unfold QW;have t:=l.len;have x:=j.len;refine bY (λe=>i5) λ_=>?_;refine(Sp.refl h).make af aF hO i6 0 i4 i4 c.length c.length i5 i5 (qm _) i5 λs h3 m q p=>?_;refine aA (λk:Nat=>(k:Int)) (λk h'=>k<=i1 c/\Sp h h' [an 5 s 1 aF (zi (·^^^·) (c.take k) (d.take k)++qh (i1 c-k) 0)]) (λk=>i1 c-k) 0 i4 ⟨i5,pa⟩ ?_;rintro k z ⟨y,g⟩;refine aj (λe=>?_) (λe=>?_)
 ·have f:k<i1 c:=i5
  refine(Seq.up l g.ai).bG k i4 f _ i4 ?_;refine(Seq.up j g.ai).bG k i4 i5 _ i4 ?_;rw[nH];refine g.set af 0 i4 (λ_=>rfl) i4 k i4 i9 (c[k]^^^d[k]) i4 i4 i4 λw o=>⟨trivial,?_⟩
  refine⟨k+1,j0,⟨i5,?_⟩,i5⟩;have i:i1 (zi (·^^^·) (c.take k) (d.take k))=k:=i9
  have n:(zi (·^^^·) (c.take k) (d.take k)++qh (i1 c-k) (0:UInt8)).set k (c[k]^^^d[k])=zi (·^^^·) (c.take (k+1)) (d.take (k+1))++qh (i1 c-(k+1)) 0:=by rw[qV _ _ i5,i,zc,show c.length-k=i1 c-(k+1)+1 by omega,yi,zq,aK _ _ f,aK _ _ (show k<i1 d by omega),yG i9,qp];rfl
  rw[<-n];exact o
 ·have:k=i1 c:=i5
  subst this;refine⟨s,i4,?_⟩;rw[qi (qm _),qi i5,zc,vx,qN]at g;exact g
theorem ahZ(c:UInt8)(a b:Row):zi (·^^^·) (scaleB c a) b=cV c a b:=by unfold scaleB cV;rw[List.zipWith_map_left];congr 1;funext x y;exact UInt8.xor_comm _ _
theorem acZ(f:f7)(c:UInt8)(a b:Sl)(d e:Row)(h:f9)(m:fN h f)(p:Rd h a 1 aF d)(o:Rd h b 1 aF e)(q:i1 d=i1 e)(k:i1 d<=2^30):
  ac xB 248 #[xt (dB f),xq xy c.toNat,a,b] h λv h'=>∃r:Sl,v=.tuple #[r,xv eR]/\Sp h h' [an 5 r 1 aF (cV c d e)]:=by
 refine Uv (dB f) _ a b ?_;unfold NG;refine(NY f c a d h m p k).mono ?_;rintro v n ⟨r,rfl,g⟩;refine⟨r,i4,(afB r b _ e n (g.seq 0 i4 λ_=>rfl) (Seq.up o g.ai) (by rw[pz];exact q) (by rw[pz];exact k)).mono ?_⟩;rintro v s ⟨w,rfl,l⟩;refine⟨(w,eR),i4,w,i4,?_⟩;rw[<-ahZ];exact(g.comp l).take 1 λi A j=>by cases i with|zero=>exact j|succ i=>simp at j
def gy(f:f7)(n:Nat)(a:Sl):bh:=[xt (dB f),xq xx n,a]
def iy(b f:f7)(n:Nat)(M:aR):HP:=.ex λa:Sl=>(au b 242 (gy f n a)).sep (ce 71 a 1 bv (cz 1 aF) M)
theorem ada(d f:f7)(n:Nat)(c r:Sl)(M:aR)(l:Row)(h:f9)(u:cx h d 242 (gy f n c))(G:fN h f)(F:dV (bK (cz 1 aF) 1 bv) h c M)(H:Rd h r 1 aF l)
  (T:i1 l=n) (V:n<=64) (q:ba n M) (z:∀x∈M,fk x<n) (P:i1 M<=2^30):
  ac xB 182 #[xt (dB d),r] h λv h'=>∃w:Sl,v=.tuple #[w,xv eR]/\Sp h h' [an 5 w 1 aF (eF M l)]:=by
 refine Im (dB d) r ?_;unfold AR;have L:=H.len;have K:=bK.len F;refine bi ?_;refine bx (λe=>j1) λ_=>?_;refine⟨d,i4,n,u.cell i4,bY (λe=>i5) λ_=>?_⟩;refine(eW r l h H i5).mono ?_;rintro v U ⟨w,rfl,B⟩;refine⟨w,i4,d,i4,c,(u.ai B.ai u.lt).cell i4,?_⟩;refine aA (λt:Sl×Nat=>(t.1,(t.2:Int))) (λt h'=>t.2<=i1 M/\Sp h h' [an 5 t.1 1 aF (eF (M.take t.2) l)]) (λt=>i1 M-t.2) (w,0) i4 ⟨jj,by simpa[eF]using B⟩ ?_;rintro⟨o,k⟩ R ⟨W,a⟩;dsimp only at*;refine aj (λe=>?_) (λe=>?_)
 ·have b:k<i1 M:=i5
  have O:M[k].length=n:=q _ (qg _);have E:=z _ (qg b);have p:ba n (M.take k):=λx y=>q x (zD y);have m:=Lr p T;have Q:=(a.own 0 i4).len;refine bK.oq (dV.up F a.ai) k i4 b λx y=>?_;refine(Jb x _ R y).mono ?_;rintro v h3 ⟨rfl,rfl⟩;refine⟨_,i4,?_⟩;dsimp only;rw[g0 i5];refine(a.seq 0 i4 λ_=>rfl).bG (fk M[k]) i4 i5 _ i4 ?_;have g:(eF (M.take k) l)[fk M[k]]'(by omega)=aS (eF (M.take k) l) (fk M[k]):=(Pj i5).symm;have s:eF (M.take (k+1)) l=cV (aS (eF (M.take k) l) (fk M[k])) M[k] (eF (M.take k) l):=by unfold eF;rw[aK _ _ b,zN];rfl
  rw[g];refine bY (λJ=>?_) (λJ=>?_)
  ·refine⟨d,i4,dB f,(u.ai a.ai u.lt).cell0 i4,?_⟩;refine(acZ f (aS (eF (M.take k) l) (fk M[k])) x o M[k] _ h3 (G.ai a.ai G.lt) y (a.seq 0 i4 λ_=>rfl) i5 i5).mono ?_;rintro v X ⟨I,rfl,N⟩;refine⟨(I,eR),i4,⟨(I,k+1),js,⟨i7,?_⟩,i7⟩⟩;dsimp only;rw[s];exact(a.comp N).take 1 λi A D=>by cases i with|zero=>exact D|succ i=>simp at D
  ·refine⟨(o,k+1),js,⟨i7,?_⟩,i7⟩;have S:aS (eF (M.take k) l) (fk M[k])=0:=Dc.1 J;have:eF (M.take (k+1)) l=eF (M.take k) l:=by rw[s,S];refine eJ (n:=n) (by rw[ca];exact m) m λj _=>?_;rw[cO i5,Gf.zero_mul,UInt8.xor_zero]
   dsimp only;rw[this];exact a
 ·refine⟨o,i4,?_⟩;rw[qi i5]at a;exact a
theorem Sy(f:f7)(n:Nat)(h:f9)(i:n<=64):ac xB 117 #[xt (dB f),xq xx n] h λv h'=>∃c:f7,v=xt (dB c)/\Sp h h' [iy c f n []]:=by refine Uj (dB f) n ?_;unfold Nj;refine bi ?_;refine aj (λe=>i5) λ_=>aj (λe=>i5) λ_=>?_;refine bi ?_;refine bx (λe=>j1) λ_=>?_;refine(Sp.refl h).boxed λa j d=>?_;refine⟨a,i4,?_⟩;have g:=(d.Hl 71 1 bv (cz 1 aF)).join 0 1 i6 i4 i4;exact(g.close' (F:=λb:Sl=>(au a 242 (gy f n b)).sep (ce 71 b 1 bv (cz 1 aF) [])) 0 ⟨eH,0,0⟩ i4).del 1
theorem iy.open{B:aC}{b h:f9}{As:List HP}{c f:f7}{n:Nat}{M:aR}(H:aa B b h (iy c f n M::As)):
  ∃a:Sl,aa B b h (ce 71 a 1 bv (cz 1 aF) M::au c 242 (gy f n a)::As):=by
 obtain⟨a,d⟩:=H.tQ;exact⟨a,d.uh⟩
theorem iy.close{B:aC}{c h:f9}{As:List HP}{b f:f7}{n:Nat}{M:aR}{a:Sl}(H:aa B c h (ce 71 a 1 bv (cz 1 aF) M::au b 242 (gy f n a)::As)):
  aa B c h (iy b f n M::As):=H.mu.Am (F:=λa:Sl=>(au b 242 (gy f n a)).sep (ce 71 a 1 bv (cz 1 aF) M)) a
theorem En(a f:f7)(n:Nat)(M:aR){B:aC}{d h:f9}{As:List HP}(H:aa B d h (iy a f n M::As)):ac xB 185 #[xt (dB a)] h λv h'=>v=xq xx M.length/\h'=h:=by refine Io (dB a) ?_;unfold AS;obtain⟨b,c⟩:=iy.open H;refine bx (λe=>j1) λ_=>?_;exact⟨a,i4,b,(c.box 1 i4).cell i4,by rw[(c.YP 0 i4).1],i4⟩
theorem GJ(d f:f7)(n:Nat)(M:aR)(r:Sl)(l:Row){B:aC}{o h:f9}{As:List HP}(H:aa B o h (iy d f n M::As))(G:St B o As λh=>fN h f)(V:Rd h r 1 aF l)
  (K:i1 l=n) (I:n<=64) (j:ba n M) (z:∀x∈M,fk x<n) (T:i1 M<=64):
  ac xB 119 #[xt (dB d),r] h λv h'=>(∃b,v=xv b)/\aa B o h' (iy d f n (TL M l)::As):=by
 refine Ke (dB d) r ?_;unfold Cg;obtain⟨m,s⟩:=iy.open H;have k:=Lr j K;refine(ada d f n m r M l h (s.box 1 i4) (G [_,_] h s) (s.Qu 0 i4 λ_=>rfl) V K I j z i5).mono ?_;rintro v R ⟨w,rfl,E⟩;have J:=s.cm E;have U:=E.seq 0 i4 λ_=>rfl;refine⟨(w,eR),i4,bi ?_⟩;refine bo (λe=>j1) λ_=>?_;refine(Jb w _ R U).mono ?_;rintro v Z ⟨rfl,rfl⟩;refine⟨_,i4,?_⟩;dsimp only;by_cases a:fk (eF M l)<i1 (eF M l)
 ·rw[g0 a];refine Ak (ii (Int.not_lt.2 (wb _))) ?_;have y:=J.MB 0 i4 λ_=>rfl;have c:=y.box 2 i4;refine⟨d,i4,dB f,c.cell0 i4,d,i4,m,c.cell i4,?_⟩;have p:ba n (M++[eF M l]):=nv j k;refine y.px af bv fM i4 [w] i4 (show 1*1<=2^20 by decide) i4 ⟨c.cell i4,c.cell0 i4,trivial⟩ ?_;refine y.tO af 1 0 i6 i4 i4 fM i4 i6 (λ_=>rfl) kl i4 i6 i5 λD t W=>?_;have g:aa B o t (ce 71 D 1 bv (cz 1 aF) (M++[eF M l])::au d 242 (gy f n m)::As):=W.oV;have u:=g.box 1 i4;refine⟨⟨u.cell0 i4,trivial⟩,?_⟩;refine(KQ f D _ n t (G [_,_] t g) (bK.tofE (g.Qu 0 i4 λ_=>rfl)) p I i9).mono ?_;rintro v Y ⟨q,rs,rfl,N,A,S,Q⟩;have i:=(hY p (eI (M++[eF M l]))).2;have P:Sp t Y [ce 71 ⟨q.ptr,cb (M++[eF M l]),q.cap⟩ 1 bv (cz 1 aF) (ny (M++[eF M l]))]:=by have:=aa.ahm (As:=[]) Q (by rw[i];exact A) (λ_=>rfl) (cb (M++[eF M l])) (by rw[i];omega);exact this
  have X:=g.cm P;refine⟨q,i4,trivial,d,i4,?_⟩;refine X.storeAt af 2 i4 i4 (off:=2) (v:=xr q.ptr q.len q.cap) i4 i4 i4 (by simp[gy]) λL F=>⟨trivial,⟨_,i4⟩,?_⟩
  have O:aa B o L (ce 71 ⟨q.ptr,cb (M++[eF M l]),q.cap⟩ 1 bv (cz 1 aF) (ny (M++[eF M l]))::ce 71 D 1 bv (cz 1 aF) (M++[eF M l])::au d 242 (gy f n ⟨q.ptr,cb (M++[eF M l]),q.cap⟩)::As):=by rw[show q.len=cb (M++[eF M l])from N]at F;exact F
  rw[TL,g0 a];exact iy.close O.rh
 ·rw[g9 a];refine Hd (hU i6) ⟨⟨_,i4⟩,?_⟩;rw[TL,g9 a];exact iy.close J.oV
theorem Sz(i f:f7)(n:Nat)(M:aR)(b:Sl)(h:f9)(z:cx h i 242 (gy f n b))(d:dV (bK (cz 1 aF) 1 bv) h b M)(m:i1 M<=64)(j:ba n M)(B:n<=64):
  ac xB 251 #[xt (dB i)] h λv h'=>∃r:Sl,v=r/\Sp h h' [ce 71 r 1 bv (cz 1 aF) M]:=by
 refine Iw (dB i) ?_;unfold AV;refine bx (λe=>j1) λ_=>?_;have l:=bK.len d;refine⟨i,i4,b,z.cell i4,?_⟩;refine aA (λt:Sl×Nat=>(t.1,(t.2:Int))) (λt h'=>t.2<=i1 M/\Sp h h' [ce 71 t.1 1 bv (cz 1 aF) (M.take t.2)]) (λt=>i1 M-t.2) (⟨eH,0,0⟩,0) i4 ⟨jj,(Sp.refl h).Hl 71 1 bv (cz 1 aF)⟩ ?_;rintro⟨s,k⟩ u ⟨D,g⟩;dsimp only at*;refine aj (λe=>?_) (λe=>?_)
 ·have a:k<i1 M:=i5
  have o:=j _ (qg a);refine bK.oq (dV.up d g.ai) k i4 a λx w=>?_;refine(eW x M[k] u w i5).mono ?_;rintro v h3 ⟨c,rfl,y⟩;have p:=(g.cm y).MB 0 i4 λ_=>rfl;refine⟨c,i4,?_⟩;refine p.tO af 1 0 i6 i4 i4 fM i4 i6 (λ_=>rfl) kl i4 i6 i9 λA E q=>?_;refine⟨(A,k+1),js,⟨i7,?_⟩,i7⟩;dsimp only;rw[aK _ _ a];exact q.oV
 ·rw[qi i5]at g;exact⟨s,i4,g⟩
theorem iy.rd{B:aC}{q h:f9}{As:List HP}{m f:f7}{n:Nat}{M:aR}(H:aa B q h As)(i:Nat)(o:As[i]?=dB (iy m f n M)):∃g:Sl,cx h m 242 (gy f n g)/\dV (bK (cz 1 aF) 1 bv) h g M:=by obtain⟨g,w,v,y,u,k,t,rs,z,a,b,c,d,e⟩:=H.at i o;exact⟨g,t.1,rs,a.seq (λ_=>rfl) λx j=>k x (b x j).1,d,λi r l p s=>(cz 1 aF).mono (e i r l p s) λx j=>k x (c x j)⟩
theorem Qa(b f:f7)(n:Nat)(M:aR)(c:Sl)(h:f9)(d:cx h b 242 (gy f n c))(l:dV (bK (cz 1 aF) 1 bv) h c M)(j:i1 M<=64)(k:ba n M)(q:n<=64):
  ac xB 184 #[xt (dB b)] h λv h'=>∃g:f7,v=xt (dB g)/\Sp h h' [iy g f n M]:=by
 refine GN (dB b) ?_;unfold vj;refine bx (λe=>j1) λ_=>?_;refine⟨b,i4,dB f,d.cell0 i4,b,i4,n,d.cell i4,?_⟩;have o:az.ok [(b.add 1,(xq xx (n:Int))),(b,(xt (dB f)))] h:=⟨d.cell i4,d.cell0 i4,trivial⟩
 refine(Sz b f n M c h d l j k q).mono ?_;rintro v u ⟨r,rfl,m⟩;have i:=kP m.ai o;refine⟨r,i4,i,m.boxed λa t p=>?_⟩;have s:Sp h t (au a 242 (gy f n r)::ce 71 r 1 bv (cz 1 aF) M::[]):=p.bB;refine⟨kP p.ai o,a,i4,?_⟩;exact iy.close s.oC
def di(p:Pm)(seed:Int)(a:aD):aR:=if bO p then(a.filter bX).map (pi (bJ p).toNat seed)else[]
theorem KW{p:Pm}{seed:Int}{a:aD}{k:Nat}(c:k<i1 a):di p seed (a.take (k+1))=di p seed (a.take k)++(if(bO p&&bX a[k])=eR then[pi (bJ p).toNat seed a[k]]else[]):=by
 unfold di;by_cases b:bO p=eR
 ·rw[g0 b,g0 b,pj c];by_cases h:bX a[k]=eR
  ·rw[g0 h,g0 (by rw[b,h];rfl),qW];rfl
  ·rw[g9 h,g9 sR,qN]
 ·rw[g9 b,g9 b,g9 m0];rfl
theorem Xh(p:Pm)(seed:Int)(b:aD):ba (bJ p).toNat (di p seed b):=λr a=>by
 unfold di at a;split at a
 ·obtain⟨i,_,rfl⟩:=qu.1 a;exact Tu _ _ _
 ·cases a
theorem Ot(p:Pm)(seed:Int)(a:aD):i1 (di p seed a)<=i1 a:=by
 unfold di;split
 ·rw[qy];exact qQ _ _
 ·simp
abbrev Jc:jp Sl aR:=bK (cz 1 aF) 1 bv
theorem adb(p:Pm)(seed:Int)(w:Sl)(W:cj)(h:f9)(S:dV (bK (cz 1 av) 1 bv) h w W)(hl:i1 W<=2^20)(N:∀l∈W,i1 l<=2^20):
  ac xB 120 #[kW p,xq xz seed,w] h λv h'=>∃r:Sl,v=r/\Sp h h' [ce 56 r 1 bv Jc (W.map (di p seed))]:=by
 refine Nl p seed w ?_;unfold Gk;obtain⟨T,y,Q,F⟩:=bK.kO S;have K:=y.len;refine(Sp.refl h).boxed λa V O=>?_;refine aA (λt:Sl×Nat=>(t.1,(t.2:Int))) (λt h'=>t.2<=i1 W/\Sp h h' [ce 56 t.1 1 bv Jc ((W.take t.2).map (di p seed)),au a 26 [xq xx p.1,xq xx p.2.1,xq xx p.2.2]]) (λt=>i1 W-t.2) (⟨eH,0,0⟩,0) i4 ⟨jj,(O.Hl 56 1 bv Jc).bB⟩ ?_;rintro⟨o,k⟩ X ⟨Y,z⟩;dsimp only at*;refine aj (λe=>?_) (λe=>?_)
 ·have m:k<i1 W:=i5
  have H:=N _ (qg m);have D:=F k i5 m;refine(Seq.up y z.ai).mv k i4 i5 ?_;generalize T[k]'(by omega)=x at D;have J:=Seq.len D;refine aA (λt:Sl×Nat=>(t.1,(t.2:Int))) (λt h'=>t.2<=W[k].length/\Sp h h' [ce 71 t.1 1 bv (cz 1 aF) (di p seed (W[k].take t.2)),ce 56 o 1 bv Jc ((W.take k).map (di p seed)),au a 26 [xq xx p.1,xq xx p.2.1,xq xx p.2.2]]) (λt=>W[k].length-t.2) (⟨eH,0,0⟩,0) i4 ⟨jj,by
    have:=(z.Hl 71 1 bv (cz 1 aF)).bB;have I:di p seed []=[]:=by unfold di;split<;>rfl
    dsimp only;rw[List.take_zero,I];exact this⟩ ?_
  rintro⟨s,j⟩ h3 ⟨U,q⟩;dsimp only at*;refine aj (λP=>?_) (λP=>?_)
  ·have g:j<W[k].length:=i5
   refine(Seq.up D q.ai).bG j i4 g _ i4 ?_;refine⟨p,(q.box 2 i4).aV _ i4,(UI p seed W[k][j] h3).mono ?_⟩;rintro v Z ⟨c,rfl,M,f⟩;refine⟨c,i4,?_⟩;have u:=(q.cm M).MB 0 i4 λ_=>rfl;have i:=Ot p seed (W[k].take j);rw[qY]at i;refine bo (λn=>?_) (λn=>?_)
   ·rw[f]at n;have d:(bO p&&bX W[k][j])=eR:=by simpa using n
    rw[d,g0 rfl]at u;refine u.tO af 1 0 i6 i4 i4 fM i4 i6 (λ_=>rfl) kl i4 i6 i5 λG R B=>?_;have A:=B.oV;refine⟨(G,j+1),js,⟨i7,?_⟩,i7⟩;dsimp only;rw[KW g,g0 d];exact A
   ·rw[f]at n;have d:¬(bO p&&bX W[k][j])=eR:=λL=>by rw[L]at n;cases n
    refine⟨(s,j+1),js,⟨i7,?_⟩,i7⟩;dsimp only;rw[KW g,g9 d,qN];exact u.oV
  ·rw[qi i5]at q;have u:=q.XS 0 i4 λ_=>rfl;refine u.tO af 1 0 i6 (E:=Jc) (a:=s) (b:=di p seed W[k]) i4 i4 (⟨_,_,i4,i4,i4,i4,i4,i4⟩:bZ C.toDr 55 56 1 [xr eH 0 0] 24) i4 i6 (λ_=>rfl) kl i4 i6 i9 λG R B=>?_;refine⟨(G,k+1),js,⟨i7,?_⟩,i7⟩;dsimp only;rw[aK _ _ m,qW];exact B.oV
 ·rw[qi i5]at z;exact⟨o,i4,z.rh⟩
def mb(R:List aR)(a:aD):Nat->aR
 |0=>[]
 |k+1=>mb R a k++if(k:Int)∈a then[]else R.getD k []
theorem Rr{n:Nat}{R:List aR}(c:∀m∈R,ba n m)(b:aD):∀k,ba n (mb R b k)
 |0=>λr a=>by cases a
 |k+1=>λr a=>by
  rcases qz.1 a with a|a
  ·exact Rr c b k r a
  ·split at a
   ·cases a
   ·rw[qe]at a;cases hg:R[k]? with
    |none=>rw[hg]at a;cases a
    |some m=>rw[hg]at a;exact c m (List.mem_of_getElem? hg) r a
theorem Vp(R:List aR)(a:aD):∀{j k:Nat},j<=k->∃X,mb R a k=mb R a j++X
 |j,0,h=>⟨[],by
   have:j=0:=i5
   subst this;simp⟩
 |j,k+1,h=>by
  by_cases b:j=k+1
  ·subst b;exact⟨[],jj⟩
  ·obtain⟨X,c⟩:=Vp R a (j:=j) (k:=k) i5;exact⟨X++if(k:Int)∈a then[]else R.getD k [],by rw[mb,c,qp]⟩
theorem afC{n:Nat}{m:aR}(c:ba n m)(h:cb m=n){b:aR}(a:ba n b)(d:∀r∈m,r∈b):cb b=n:=by have f:=lT a;have e:=Hz c a d;omega
theorem Xi(J f:f7)(n:Nat)(M A:aR)(w l g:Sl)(R:List aR)(a:aD)(h:f9)(hb:cx h J 242 (gy f n w))(N:dV Jc h w M)(Q:fN h f)(hl:dV (bK Jc 1 bv) h l R)(hg:Rd h g 1 av a)
  (V:n<=64) (i:EL n M A) (hR:∀m∈R,ba n m/\m.length<=2^20) (ab:i1 R<=2^20) (P:i1 a<=2^30):
  ac xB 121 #[xt (dB J),l,g,xq xx n] h λv h'=>v=xv (decide (cb (A++mb R a R.length)=n))/\Sp h h' []:=by
 refine Nm (dB J) l g n ?_;unfold Gl;obtain⟨ls,H,am,O⟩:=bK.kO hl;have ad:=H.len;have o:∀{p A':aR},EL n p A'->i1 p<=64:=λx=>by have:=x.len;have:=lT x.evenA;omega
 have L:St (λb=>b<h.size) h [] λh'=>fN h' f:=.base Q λh' hp=>Q.ai hp Q.lt;have S:ba n (A++mb R a R.length):=λr d=>(qz.1 d).elim (i.evenA r) (Rr (λm hm=>(hR m hm).1) a _ r);refine(Qa J f n M w h hb N (o i) i.even V).mono ?_;rintro v h1 ⟨s,rfl,R1⟩;refine⟨dB s,i4,?_⟩;refine aA (λk:Nat=>(k:Int)) (λk h'=>k<=i1 R/\∃p,EL n p (A++mb R a k)/\Sp h h' [iy s f n p]) (λk=>i1 R-k) 0 i4 ⟨i5,M,by simpa[mb]using i,R1⟩ ?_;rintro k h2 ⟨hk,M2,z,B⟩;refine aj (λe=>?_) (λe=>?_)
 ·have u:k<i1 R:=i5
  have hx:=O k i5 u;refine(Seq.up H B.ai).mv k i4 i5 ?_;generalize ls[k]'(by omega)=x at hx;have E:=hR _ (qg u);refine(uT g a k h2 (Seq.up hg B.ai) P).mono ?_;rintro v h3 ⟨rfl,rfl⟩;refine⟨_,i4,aj (λK=>?_) λq=>?_⟩
  ·refine⟨k+1,j0,⟨i5,M2,?_,B⟩,i5⟩;rw[mb,g0 K,qN];exact z
  ·obtain⟨xs,G,ah,T⟩:=bK.kO hx;have ap:=G.len;have F:R.getD k []=R[k]:=by rw[qe,qd u];rfl
   refine aA (λj:Nat=>(j:Int)) (λj h'=>j<=R[k].length/\∃p,EL n p ((A++mb R a k)++R[k].take j)/\Sp h h' [iy s f n p]) (λj=>R[k].length-j) 0 i4 ⟨i5,M2,by simpa using z,B⟩ ?_;rintro j h4 ⟨hj,I,c,D⟩;refine aj (λe2=>?_) (λe2=>?_)
   ·have t:j<R[k].length:=i5
    have U:=T j i5 t;refine(Seq.up G D.ai).mv j i4 i5 ?_;generalize xs[j]'(by omega)=y at U;refine(En s f n I D).mono ?_;rintro v h5 ⟨rfl,rfl⟩;refine⟨_,i4,ck (λW=>?_) λW=>?_⟩
    ·refine⟨?_,.zip D.ai⟩;have ao:((i1 I:Nat):Int)=(n:Int):=W;have Y:cb ((A++mb R a k)++R[k].take j)=n:=by have:=c.len;omega
     have h7:cb (A++mb R a R.length)=n:=by
      refine afC c.evenA Y S λr d=>?_;obtain⟨X,hX⟩:=Vp R a (j:=k+1) (k:=i1 R) i5;rw[hX,mb,g9 q,F];simp only[qz]at d⊢;rcases d with(d|d)|d
      ·exact .inl d
      ·exact .inr (.inl (.inl d))
      ·exact .inr (.inl (.inr (zD d)))
     rw[h7];simp
    ·refine(GJ s f n I y _ D L (Seq.up U D.ai) (E.1 _ (qg _)) V c.even c.lead (o c)).mono ?_;rintro v Y ⟨⟨b,rfl⟩,H6⟩;refine⟨b,i4,⟨j+1,j0,⟨i5,_,?_,H6⟩,i5⟩⟩;have:=abJ c (E.1 _ (qg t));rw[aK _ _ t,<-qp];exact this
   ·refine⟨k+1,j0,⟨i5,I,?_,D⟩,i5⟩;rw[qi i5]at c;rw[mb,g9 q,F,<-qp];exact c
 ·have:k=i1 R:=i5
  subst this;refine(En s f n M2 B).mono ?_;rintro v h5 ⟨rfl,rfl⟩;refine⟨_,i4,?_,.zip B.ai⟩;have:=z.len;congr 1;by_cases Z:cb (A++mb R a R.length)=n
  ·rw[hU Z];exact beq_iff_eq.2 (show((i1 M2:Nat):Int)=n by omega)
  ·rw[ii Z];exact beq_eq_false_iff_ne.2 (show((i1 M2:Nat):Int)≠n by omega)
def Cv(n t:Nat):cj:=(kR t 0 n).map ints
def Jd(n t:Int)(h:f9)(v:Value)(h':f9):Prop:=
 if 0<=n/\n<=64/\0<=t/\t<=n then
  if gT n t>4096 then v=.tuple #[xr eH 0 0,xq xx 13]/\h'=h
  else∃r:Sl,v=.tuple #[r,xq xx 0]/\Sp h h' [ce 22 r 1 bv (cz 1 av) (Cv n.toNat t.toNat)]
 else v=.tuple #[xr eH 0 0,xq xx 1]/\h'=h
theorem Vq(n t:Int)(h:f9)(hn:0<=n/\n<=2^30)(ht:(0:Int)<=0):ac xB 115 #[xq xx n,xq xx t] h (Jd n t h):=by
 refine Uh n t ?_;unfold Nh;refine(Em n t h).mono ?_;rintro v K ⟨rfl,rfl⟩;refine⟨_,i4,bo (λe=>?_) λe=>?_⟩
 ·show Jd n t K _ K;unfold Jd;rw[g9 (of_decide_eq_false e)];exact⟨i4,i4⟩
 ·have e:=i0 e;refine(tz n t K i5 i5).mono ?_;rintro v i ⟨rfl,rfl⟩;refine⟨_,i4,aj (λq=>?_) λq=>?_⟩
  ·show Jd n t i _ i;unfold Jd;rw[g0 e,g0 q];exact⟨i4,i4⟩
  ·refine(λP=>?_:(∀(v:Value) (h':f9),(∃r:Sl,v=.tuple #[r,xq xx 0]/\Sp i h' [ce 22 r 1 bv (cz 1 av) (Cv n.toNat t.toNat)])->Jd n t i v h')->_) (λv h' l=>by unfold Jd;rw[g0 e,g9 q];exact l);obtain⟨N,rfl⟩:∃N:Nat,n=N:=⟨n.toNat,i5⟩
   obtain⟨T,rfl⟩:∃T:Nat,t=T:=⟨t.toNat,i5⟩
   have U:i1 (kR T 0 N)<=4096:=by
    rw[Lq N T 0 i5];have:gT (N:Int) T=((min (ch N T) 4097:Nat):Int):=by unfold gT;rw[g0 e];rfl
    rw[this]at q;have ab:¬(((min (ch N T) 4097:Nat):Int)>4096):=q;simp;omega
   refine(Sp.refl i).make af av gM i6 0 i4 i4 T T i4 i4 (qm _) i5 λs h3 Z ao H3=>?_;refine aA (λk:Nat=>(k:Int)) (λk h'=>k<=T/\Sp i h' [an 3 s 1 av (ints (zP 0 k++qh (T-k) 0))]) (λk=>T-k) 0 i4 ⟨i5,by
    have H:ints (zP 0 0++qh (T-0) 0)=qh T 0:=by simp[ints]
    rw[H];exact H3⟩ ?_
   rintro k h4 ⟨hk,A⟩;refine aj (λe3=>?_) (λe3=>?_)
   ·have ad:k<T:=i5
    refine A.set af 0 i4 (λ_=>rfl) i4 k i4 (by simp[ints];omega) (k:Int) i4 i4 i4 λh5 B=>?_;refine⟨k+1,j0,⟨i5,?_⟩,i5⟩;have H:(ints (zP 0 k++qh (T-k) 0)).set k (k:Int)=ints (zP 0 (k+1)++qh (T-(k+1)) 0):=by
     have:(zP 0 k++qh (T-k) 0).set k k=zP 0 (k+1)++qh (T-(k+1)) 0:=by rw[qV _ _ jj,List.length_range',zc,show T-k=T-(k+1)+1 by omega,yi,zq,List.range'_concat];simp
     rw[<-this];simp[ints,vM]
    rw[H]at B;exact B
   ·have:k=T:=i5
    subst this;rw[zc,vx,qN]at A;refine(kg s _ h4 (A.seq 0 i4 λ_=>rfl) (by simp[ints];omega)).mono ?_;rintro v h5 ⟨c,rfl,R5⟩;have B:=(A.cm R5).MB 0 i4 λ_=>rfl;refine⟨c,i4,?_⟩;refine B.lit af bv (⟨_,_,i4,i4,i4,i4,i4,i4⟩:bZ C.toDr 37 22 1 [xr eH 0 0] 24) i4 [c] i4 (show 1*1<=2^20 by decide) i4 λo W H6=>?_;have Y:Sp i W (ce 22 o 1 bv (cz 1 av) [ints (zP 0 k)]::an 3 s 1 av (ints (zP 0 k))::[]):=(H6.aiz (E:=cz 1 av) (a:=c) (b:=ints (zP 0 k)) 2 0 i6 i4 i4).bB.rh;have F:=HI N k 0 i5;refine aA (λx:Sl×List (List Nat)×List Nat×List (List Nat)=>x.1) (λx h'=>x.2.1++x.2.2.2=kR k 0 N/\rz N x.2.2.1 x.2.2.2/\x.2.2.1.length=k/\(∀y∈x.2.2.1,y<N)/\Sp i h' [ce 22 x.1 1 bv (cz 1 av) ((x.2.1++[x.2.2.1]).map ints),an 3 s 1 av (ints x.2.2.1)]) (λx=>i1 x.2.2.2) (o,[],zP 0 k,kR k 0 N) i4 ⟨i4,F,jj,λy O=>by rw[List.mem_range'_1]at O;omega,by simpa using Y⟩ ?_;rintro⟨o,g,f,rest⟩ h8 ⟨w,z,ah,G,V⟩;dsimp only at*;refine(acY N s f V 1 i4 i5 i5 G).mono ?_;intro v p l;cases hs:kB N f with
    |none=>
     rw[hs]at l;obtain⟨rfl,rfl⟩:=l;refine⟨eS,i4,?_⟩;refine Ak i4 (P _ _ ⟨o,i4,?_⟩);rw[ql,ql];have:rest=[f]:=by
      cases z with
      |last _=>rfl
      |more h _=>rw[hs]at h;cases h
     rw[this]at w;unfold Cv;rw[<-w];exact V.rh
    |some cur'=>
     rw[hs]at l;obtain⟨rfl,Q⟩:=l;refine⟨eR,i4,Hd i4 ?_⟩;obtain⟨L,J,d⟩:∃L,rz N cur' L/\rest=f::L:=by
      cases z with
      |last h=>rw[hs]at h;cases h
      |more h h'=>rw[hs]at h;injection h with h;subst h;exact⟨_,h',i4⟩
     have j:Sp i p [ce 22 o 1 bv (cz 1 av) ((g++[f]).map ints),an 3 s 1 av (ints cur')]:=Q;have u:cur'∈kR k 0 N:=by
      rw[<-w,d];have:cur'∈L:=by cases J<;>simp
      simp[this]
     have m:=EK u;have am:i1 g+2<=i1 (kR k 0 N):=by
      rw[<-w,d];have:1<=i1 L:=by cases J<;>simp
      simp;omega
     refine(kg s _ p (j.seq 1 i4 λ_=>rfl) (by rw[lF];omega)).mono ?_;rintro v ap ⟨S,rfl,I⟩;have M:=(j.cm I).MB 0 i4 λ_=>rfl;refine⟨S,i4,?_⟩;refine M.tO af 1 0 i6 (E:=cz 1 av) (a:=S) (b:=ints cur') i4 i4 (⟨_,_,i4,i4,i4,i4,i4,i4⟩:bZ C.toDr 37 22 1 [xr eH 0 0] 24) i4 i6 (λ_=>rfl) kl i4 i6 i9 λo' X D=>?_;refine⟨(o',g++[f],cur',L),i4,⟨by dsimp only;rw[<-w,d];simp,J,m.1,λy O=>(m.2.1 y O).2,?_⟩,by dsimp only;rw[d];simp⟩;have R:=D.oV;dsimp only;rw[qW (l₁:=g++[f])];exact R
def sk(W:cj)(a:aD):Nat->aD
 |0=>[]
 |k+1=>sk W a k++if(k:Int)∈a then[]else W.getD k []
def nM(p:Pm)(seed:Int)(W:cj)(a:aD):Nat:=oX p seed (sk W a W.length)
theorem aab(p:Pm)(seed:Int)(a b:aD):di p seed (a++b)=di p seed a++di p seed b:=by unfold di;split<;>simp
theorem Rs(p:Pm)(seed:Int)(W:cj)(a:aD):∀k,mb (W.map (di p seed)) a k=di p seed (sk W a k)
 |0=>by simp[mb,sk,di]
 |k+1=>by
  rw[mb,sk,aab,Rs p seed W a k];congr 1;by_cases h:(k:Int)∈a
  ·rw[g0 h,g0 h];simp[di]
  ·rw[g9 h,g9 h,qe,qU,qe];cases W[k]? with
   |none=>simp[di]
   |some l=>rfl
theorem adc{p:Pm}(b:bO p=eR)(seed:Int)(a:aD):dR p seed a=bF p.1.toNat p.2.1.toNat++di p seed a:=by unfold dR di;rw[g0 b,g0 b]
def pc(p:Pm)(seed:Int)(W:cj)(t:Nat):Option (aD):=(Cv W.length t).find? λg=>decide ((nM p seed W g:Int)≠bJ p)
def fS(p:Pm)(seed:Int)(W:cj)(t:Int):aD×Bool×Int:=
 if bO p then
  if 0<=t/\t<=i1 W/\W.length<=64 then
   if gT W.length t>4096 then([],eS,13)
   else match pc p seed W t.toNat with
    |some g=>(g,eR,0)
    |none=>([],eS,0)
  else([],eS,1)
 else([],eS,1)
theorem Qb(K H:Nat):ba (K+H) (bF K H):=λr a=>by
 obtain⟨i,_,rfl⟩:=qu.1 a;exact Av _ _ _
theorem Ru{α:Type}(f:α->Bool)(l:List α){k:Nat}(b:k<i1 l)(a:(l.take k).find? f=eH):(l.take (k+1)).find? f=if f l[k]then dB l[k]else eH:=by rw[aK _ _ b,List.find?_append,a,Option.none_or,List.find?_cons];cases f l[k]<;>rfl
theorem ade{α:Type}(f:α->Bool)(l:List α){k:Nat}{x:α}(h:(l.take k).find? f=dB x):l.find? f=dB x:=by have:l=l.take k++l.drop k:=(qE k l).symm;rw[this,List.find?_append,h];rfl
theorem Cw(p:Pm)(seed:Int)(w:Sl)(W:cj)(t:Int)(h:f9)(hW:dV (bK (cz 1 av) 1 bv) h w W)(hl:i1 W<=2^20)(hr:∀l∈W,i1 l<=2^20)(ht:(0:Int)<=0):
  ac xB 57 #[kW p,xq xz seed,w,xq xx t] h λv h'=>∃r:Sl,v=.tuple #[r,xv (fS p seed W t).2.1,xq xx (fS p seed W t).2.2]/\Sp h h' [EA (cz 1 av) r (fS p seed W t).1]:=by
 refine MW p seed w t ?_;unfold Gc;have ax:=bK.len hW;have j:∀{Y:f9},bc (λb=>b<h.size) h Y->Sp h Y [EA (cz 1 av) ⟨eH,0,0⟩ []]:=λH=>.one H (Seq.nil _ _ _ _ _ _);refine(Sp.refl h).boxed λa Y H1=>?_;refine⟨p,(H1.box 0 i4).aV _ i4,(eK p Y).mono ?_⟩;rintro v h2 ⟨rfl,R2⟩;have H2:=H1.comp R2;refine⟨_,i4,bo (λe=>?_) λe=>?_⟩
 ·refine⟨⟨eH,0,0⟩,?_,?_⟩<;>(unfold fS;rw[g9 l6])
  exact j H2.ai
 ·have H:bO p=eR:=e;refine(Vq (w.len:Int) t h2 i5 ht).mono ?_;intro v h3 B;unfold Jd at B;rw[ax]at B;have N:(0<=((i1 W:Nat):Int)/\((i1 W:Nat):Int)<=64/\0<=t/\t<=((i1 W:Nat):Int))↔(0<=t/\t<=i1 W/\W.length<=64):=i5
  by_cases I:0<=t/\t<=i1 W/\W.length<=64
  ·rw[g0 (N.2 I)]at B;by_cases O:gT W.length t>4096
   ·rw[g0 O]at B;obtain⟨rfl,rfl⟩:=B;refine⟨(⟨eH,0,0⟩,13),i4,bY (λ_=>?_) λe=>j1⟩;refine⟨⟨eH,0,0⟩,?_,?_⟩<;>(unfold fS;rw[g0 H,g0 I,g0 O])
    exact j H2.ai
   ·rw[g9 O]at B;obtain⟨r,rfl,R3⟩:=B;refine⟨(r,0),i4,bY (λe=>absurd i4 e) λ_=>?_⟩;dsimp only;rw[ql]at R3;have wR:fS p seed W t=match pc p seed W t.toNat with|some g=>(g,eR,0)|none=>([],eS,0):=by unfold fS;rw[g0 H,g0 I,g9 O]
    obtain⟨L,Z⟩:∃L,L=Cv W.length t.toNat:=⟨_,rfl⟩
    rw[<-Z]at R3;have bd:i1 L<=4096:=by
     have h6:gT (i1 W:Int) t=((min (ch W.length t.toNat) 4097:Nat):Int):=by unfold gT;rw[g0 (N.2 I)];rfl
     rw[h6]at O;rw[Z,Cv,qy,Lq _ _ 0 i5,Nat.sub_zero];omega
    have H3:Sp h h3 [au a 26 [xq xx p.1,xq xx p.2.1,xq xx p.2.2],ce 22 r 1 bv (cz 1 av) L]:=H2.comp R3;have pp:=(co p).1 H;have ah:bJ p=p.1+p.2.1:=pq H;obtain⟨n,hn⟩:∃n:Nat,bJ p=n:=⟨(bJ p).toNat,i5⟩
    have z:n<=64:=i5
    refine⟨p,(H3.box 0 i4).aV _ i4,(kL p h3).mono ?_⟩;rintro v h4 ⟨rfl,R4⟩;have H4:=H3.up R4.ai;refine⟨_,i4,(se h4).mono ?_⟩;rintro v h5 ⟨f,rfl,R5⟩;have H5:=H4.cm R5;rw[hn];refine⟨dB f,i4,(Sy f n h5 z).mono ?_⟩;rintro v h6 ⟨P,rfl,R6⟩;have H6:Sp h h6 [iy P f n [],au f 238 db,au a 26 [xq xx p.1,xq xx p.2.1,xq xx p.2.2],ce 22 r 1 bv (cz 1 av) L]:=H5.cm R6;refine⟨dB P,i4,p,(H6.box 2 i4).aV _ i4,(uP p h6).mono ?_⟩;rintro v h7 ⟨ar,rfl,R7⟩;rw[g0 H]at R7;obtain⟨A,G⟩:∃A,A=bF p.1.toNat p.2.1.toNat:=⟨_,rfl⟩
    rw[<-G]at R7;have S:ba n A:=by have:=Qb p.1.toNat p.2.1.toNat;rw[G,show n=p.1.toNat+p.2.1.toNat by omega];exact this
    have bb:i1 A<=4:=by rw[G];simp[bF];omega
    have H7:Sp h h7 [iy P f n [],au f 238 db,au a 26 [xq xx p.1,xq xx p.2.1,xq xx p.2.2],ce 22 r 1 bv (cz 1 av) L,ce 71 ar 1 bv (cz 1 aF) A]:=(H6.comp R7).SG 4 i4;have U:∀{M' A':aR},EL n M' A'->i1 M'<=64:=λx=>by have:=x.len;have:=lT x.evenA;omega
    refine⟨ar,i4,?_⟩;refine aA (λk:Nat=>(k:Int)) (λk h'=>k<=i1 A/\∃M,EL n M (A.take k)/\Sp h h' [iy P f n M,au f 238 db,au a 26 [xq xx p.1,xq xx p.2.1,xq xx p.2.2],ce 22 r 1 bv (cz 1 av) L,ce 71 ar 1 bv (cz 1 aF) A]) (λk=>i1 A-k) 0 i4 ⟨i5,[],by simpa using aiM n,H7⟩ ?_;rintro k h8 ⟨hk,M,o,R⟩;have bk:=(R.YP 4 i4).1;refine aj (λe2=>?_) (λe2=>?_)
    ·have c:k<i1 A:=i5
     refine bK.oq (R.Qu 4 i4 λ_=>rfl) k i4 c λx hx=>?_;refine(GJ P f n M x _ R (St.eE 0 i4 λh' y=>y.1) hx (S _ (qg _)) z o.even o.lead (U o)).mono ?_;rintro v h9 ⟨⟨b,rfl⟩,H9⟩;refine⟨b,i4,⟨k+1,j0,⟨i5,_,?_,H9⟩,i5⟩⟩;rw[aK _ _ c];exact abJ o (S _ (qg c))
    ·rw[qi i5]at o;refine⟨p,(R.box 2 i4).aV _ i4,(adb p seed w W h8 (dV.up hW R.ai) hl hr).mono ?_⟩;rintro v h9 ⟨Q,rfl,R9⟩;have H9:=R.comp R9;refine⟨Q,i4,?_⟩;have a6:∀m∈W.map (di p seed),ba n m/\m.length<=2^20:=λm O=>by
      obtain⟨l,a3,rfl⟩:=qu.1 O;refine⟨?_,zd (Ot p seed l) (hr l a3)⟩;have:=Xh p seed l;rw[hn]at this;exact this
     let d:aD->Bool:=λg=>decide ((nM p seed W g:Int)≠bJ p);have wI:pc p seed W t.toNat=L.find? d:=by unfold pc;rw[<-Z]
     have a8:=(H9.YP 3 i4).1;refine aA (λk:Nat=>(k:Int)) (λk h'=>k<=i1 L/\(L.take k).find? d=eH/\Sp h h' [iy P f n M,au f 238 db,au a 26 [xq xx p.1,xq xx p.2.1,xq xx p.2.2],ce 22 r 1 bv (cz 1 av) L,ce 71 ar 1 bv (cz 1 aF) A,ce 56 Q 1 bv Jc (W.map (di p seed))]) (λk=>i1 L-k) 0 i4 ⟨i5,jj,H9⟩ ?_;rintro k ao ⟨a7,F,s⟩;refine aj (λe3=>?_) (λe3=>?_)
     ·have c:k<i1 L:=i5
      refine bK.akq (s.Qu 3 i4 λ_=>rfl) k i4 c λad x ap K hx=>?_;obtain⟨am,hb,a2⟩:=iy.rd s 0 rfl;have a4:L[k].length<=2^30:=by
       have ay:L[k]∈Cv W.length t.toNat:=by have h0:L[k]∈L:=qg c;generalize L[k]=y at h0;rw[Z]at h0;exact h0
       obtain⟨g,hg,a0⟩:=qu.1 ay;have:=(EK hg).1;rw[<-a0,lF,this];have:=I.2.1;have:=I.2.2;omega
      refine(Xi P f n M A am Q x (W.map (di p seed)) L[k] ao hb a2 (s.box 1 i4) (s.Qu 5 i4 λ_=>rfl) hx z o a6 i9 a4).mono ?_;rintro v a9 ⟨rfl,T⟩;have ab:(decide (cb (A++mb (W.map (di p seed)) L[k] (W.map (di p seed)).length)=n))=!d L[k]:=by
       rw[Rs,qy,G,<-adc H];show _=!decide ((nM p seed W L[k]:Int)≠bJ p);rw[hn];unfold nM oX;by_cases hh:cb (dR p seed (sk W L[k] W.length))=n
       ·simp[hh]
       ·rw[ii hh,hU i5];rfl
      rw[ab];have V:=s.up T.ai;refine⟨_,i4,bo (λe4=>?_) λe4=>?_⟩
      ·have J:d L[k]=eR:=by simpa using e4
       have X:=Ru d L c F;rw[g0 J]at X;have u:fS p seed W t=(L[k],eR,0):=by rw[wR,wI,ade d L X]
       refine⟨x,by rw[u],?_⟩;rw[u];have a1:=V.XS 3 i4 λ_=>rfl;have E:=pX K T.ai;have a5:=a1.fZ (D:=EA (cz 1 av) x L[k]) 3 i4 λq hq=>bK.pick hq k c ap E;exact a5.take 3 λi A' hi=>by cases i with|zero=>exact hi|succ i=>simp at hi
      ·have J:d L[k]=eS:=by simpa using e4
       have X:=Ru d L c F;rw[J]at X;exact⟨k+1,j0,⟨i5,X,V⟩,i5⟩
     ·rw[qi i5]at F;have u:fS p seed W t=([],eS,0):=by rw[wR,wI,F]
      refine⟨⟨eH,0,0⟩,by rw[u],?_⟩;rw[u];exact j s.ai
  ·rw[g9 λhh=>I (N.1 hh)]at B;obtain⟨rfl,rfl⟩:=B;refine⟨(⟨eH,0,0⟩,1),i4,bY (λ_=>?_) λe=>j1⟩;refine⟨⟨eH,0,0⟩,?_,?_⟩<;>(unfold fS;rw[g0 H,g9 I])
   exact j H2.ai
end Go.Qw
namespace Wl
open Go Go.Qw Go.Vc
def mE(W:cj)(id:Int):Bool:=W.any λl=>decide (id∈l)
def Dk(W:cj):Nat:=W.flatten.foldr (λx a=>max a x.toNat) 0
theorem Vr{x:Int}:∀{l:aD},x∈l->x.toNat<=l.foldr (λx a=>max a x.toNat) 0
 |[],h=>j9
 |y::l,h=>by
  rw[List.foldr_cons];rcases zb.1 h with rfl|h
  ·omega
  ·have:=Vr h;omega
theorem Qc{W:cj}{x:Int}(h:x∈W.flatten):x.toNat<=Dk W:=Vr h
theorem Qd{W:cj}{i:Nat}(h:mE W (i:Int)=eR):i<=Dk W:=by unfold mE at h;rw[List.any_eq_true]at h;obtain⟨l,b,a⟩:=h;have:=Qc (List.mem_flatten.2 ⟨l,b,i0 a⟩);omega
def sl(W:cj):Nat->Nat->Nat
 |0,i=>i
 |f+1,i=>if mE W (i:Int)then sl W f (i+1)else i
def eT(W:cj):Nat:=sl W (Dk W+1) 0
theorem Dl(W:cj):∀f i,Dk W<f+i->mE W (sl W f i:Int)=eS/\i<=sl W f i/\∀j,i<=j->j<sl W f i->mE W (j:Int)=eR
 |0,i,h=>by
  refine⟨?_,qm _,λj g d=>absurd d (by unfold sl;omega)⟩;cases e:mE W ((sl W 0 i:Nat):Int)with
  |false=>rfl
  |true=>have:=Qd e;unfold sl at this;omega
 |f+1,i,h=>by
  unfold sl;cases e:mE W (i:Int)with
  |false=>rw[g9 i6];exact⟨e,qm _,λj g d=>i5⟩
  |true=>
   rw[g0 rfl];obtain⟨a,b,c⟩:=Dl W f (i+1) i5;refine⟨a,i5,λj g d=>?_⟩;by_cases k:j=i
   ·rw[k];exact e
   ·exact c j i5 d
theorem adf(W:cj):mE W (eT W:Int)=eS:=(Dl W _ 0 i5).1
theorem Je{W:cj}{j:Nat}(h:j<eT W):mE W (j:Int)=eR:=(Dl W _ 0 i5).2.2 j (zy _) h
theorem aac{W:cj}{i:Nat}(b:mE W (i:Int)=eS)(a:∀j,j<i->mE W (j:Int)=eR):eT W=i:=by
 rcases Nat.lt_trichotomy (eT W) i with h|h|h
 ·have:=a _ h;rw[adf W]at this;cases this
 ·exact h
 ·have:=Je h;rw[b]at this;cases this
theorem Vs(W:cj):eT W<=Dk W+1:=by
 cases e:eT W with
 |zero=>omega
 |succ n=>have:=Qd (Je (W:=W) (j:=n) i5);omega
def gm(live:aD)(s:Int):Int:=match live.idxOf? s with|some k=>(k:Int)|none=>-1
def jE(m:aG)(c:bf)(w:Pow)(ds:aJ)(s:Int)(d:bs):Int×Pow×aJ:=
 let r:=gf m w d 1
 if r.1≠0 then(r.1,r.2.1,bQ ds s r.2.2)else
  let q:=r.2.2.append r.2.1 c
  (q.1,q.2.1,bQ (bQ ds s r.2.2) s q.2.2)
def gF(m:aG)(live set:aD)(order:aD)(c:bf)(id:Nat)(w:Pow)(ds:aJ):List Nat->(Int×Pow×aJ)×Int×Int
 |[]=>((7,w,ds),0,0)
 |i::l=>
  let s:=gj order ((id:Int)+i)
  match bm ds s with
  |none=>gF m live set order c id w ds l
  |some d=>if gm live s∈set∨iu m d 1=eS then gF m live set order c id w ds l
   else(jE m c w ds s d,gm live s,s)
structure jF where
 o:Int
 b:Int
 seed:Int
 M:aR
 W:cj
 got:aD
 deriving Inhabited
def jF.Ou(x:jF)(m:aG)(id:Nat):dj:=⟨x.o,x.b,id,m.p,x.seed,if bX id then fW m.p.2.2.toNat x.M (dv (bJ m.p).toNat x.seed id)else[]⟩
def jF.Dm(x:jF)(id:Nat)(k s:Int):jF:={x with W:=x.W.set k.toNat (x.W.getD k.toNat []++[(id:Int)]),got:=x.got++[s]}
def eZ(m:aG)(live set:aD)(w:Pow)(ds:aJ)(x:jF):Int×Pow×aJ×jF:=
 let id:=eT x.W;let o:=fw x.o x.b live;let r:=gF m live set o (dE (x.Ou m id)) id w ds (List.range o.length)
 (r.1.1,r.1.2.1,r.1.2.2,if r.1.1=0 then x.Dm id r.2.1 r.2.2 else x)
def dD(m:aG)(live:aD)(t most:Int):Nat->Pow->aJ->jF->Int×Pow×aJ×jF
 |0,w,ds,x=>(12,w,ds,x)
 |f+1,w,ds,x=>
  let r:=fS m.p x.seed x.W t
  if r.2.2≠0 then(r.2.2,w,ds,x)else if r.2.1=eS then(0,w,ds,x)else if(i1 x.got:Int)>=most then(12,w,ds,x)else
   let q:=eZ m live r.1 w ds x
   if q.1≠0 then q else dD m live t most f q.2.1 q.2.2.1 q.2.2.2
end Wl
namespace Go.Qw
open Go Go.Vc Go.Proofs Wl
theorem Qe(s:Sl)(l:Row)(c:UInt8)(h:f9)(p:Rd h s 1 aF l)(u:s.len<=s.cap)(y:i1 l<=2^30):
  ac xB 288 #[s,xq xy c.toNat] h λv h'=>∃k:Nat,v=xr s.ptr k s.cap/\k<=i1 l/\(∀j (f:j<i1 l),k<=j->l[j]=c)/\(∀(d:k-1<i1 l),0<k->l[k-1]≠c)/\h'=h:=by
 refine BH s _ ?_;unfold pT;have m:=p.len;refine bi ?_;refine aA (λk:Nat=>(⟨s.ptr,k,s.cap⟩:Sl)) (λk h'=>h'=h/\k<=i1 l/\∀j (f:j<i1 l),k<=j->l[j]=c) (λk=>k) l.length (by rw[<-m]) ⟨i4,qm _,λj f d=>i5⟩ ?_;rintro k w ⟨rfl,d,b⟩;dsimp only;refine bi (aj (λe=>?_) λe=>?_)
 ·have r:0<k:=i5
  rw[ak _];refine(p.take k d).bG (g:=λx:UInt8=>Value.int .u8 x.toNat) (k-1) i5 i9 (l[k-1]'(by omega)) (by simp[aF]) ?_|>λ⟨a,ha,x,hx,hK⟩=>⟨a,ha,x.toNat,hx,hK⟩
  refine ck (λo=>?_) (λo=>?_)
  ·have n:l[k-1]'(by omega)=c:=by
    have:(l[k-1]'(by omega)).toNat=c.toNat:=by exact_mod_cast o
    exact wL.1 this
   refine⟨⟨i5,i5⟩,k-1,by congr 1;omega,⟨i4,i5,λj f t=>?_⟩,i5⟩;by_cases i:j=k-1
   ·subst i;exact n
   ·exact b j f i5
  ·refine⟨k,i4,d,b,λ_ _ q=>o (by rw[q]),i4⟩
 ·exact⟨k,i4,d,b,λ_ h0=>i5,i4⟩
theorem SB(s:Sl)(l:Row)(c:UInt8)(h:f9)(p:Rd h s 1 aF l)(q:s.len<=s.cap)(E:i1 l<=2^30):
  ac xB 287 #[s,xq xy c.toNat] h λv h'=>(∃r:Sl,v=r/\(r.len=0↔∀x∈l,x=c))/\h'=h:=by
 refine CY s _ ?_;unfold rQ;have u:=p.len;refine bP (λr h'=>h'=h/\(r.len=0↔∀x∈l,x=c)) ?_ ?_
 ·refine aA (λt:Sl×Nat=>t.1) (λt h'=>h'=h/\t.2<=i1 l/\(∀j (d:j<i1 l),j<t.2->l[j]=c)/\Rd h t.1 1 aF (l.drop t.2)/\t.1.len<=t.1.cap) (λt=>i1 l-t.2) (s,0) i4 ⟨i4,jj,λj _ d=>i5,pa,q⟩ ?_;rintro⟨r,k⟩ z ⟨rfl,D,a,b,g⟩;dsimp only at*;have f:=b.len;rw[ze]at f;refine bi (aj (λe=>?_) λe=>?_)
  ·have i:k<i1 l:=i5
   refine b.bG 0 i4 l5 _ i4 ?_;have B:(l.drop k)[0]'(by rw[ze];omega)=l[k]:=jj
   rw[B];refine ck (λn=>?_) (λn=>?_)
   ·have m:l[k]=c:=by
     have:(l[k]).toNat=c.toNat:=by exact_mod_cast n
     exact wL.1 this
    refine⟨⟨i5,i5⟩,(⟨if r.cap=1 then r.ptr else r.ptr.map (·.add (1*1)),r.len-1,r.cap-1⟩,k+1),i4,⟨i4,i5,λj d o=>?_,?_,i7⟩,i7⟩
    ·rcases zo.1 o with h2|rfl
     ·exact a j d h2
     ·exact m
    ·have:=b.drop 1 g;rw[zH]at this;exact this
   ·refine⟨i4,⟨λh0=>i5,λy=>absurd ?_ n⟩⟩;rw[y _ (qg i)]
  ·have w:k=i1 l:=i5
   refine⟨i4,⟨λ_ x A=>?_,λ_=>by show r.len=0;omega⟩⟩;obtain⟨j,d,rfl⟩:=qK A;exact a j d i5
 ·rintro r z ⟨rfl,b⟩;refine ck (λe=>?_) (λe=>?_)
  ·exact⟨⟨⟨eH,0,0⟩,i4,by rw[<-b];exact⟨λ_=>i5,λ_=>rfl⟩⟩,i4⟩
  ·exact⟨⟨r,i4,b⟩,i4⟩
theorem Rv(s:Sl)(l:Row)(cut:ByteArray)(b:cut=⟨#[0]⟩)(h:f9)(d:Rd h s 1 aF l)(g:s.len<=s.cap)(t:i1 l<=2^30):
  ac xB 230 #[s,xu cut] h λv h'=>(∃r:Sl,v=r/\(r.len=0↔∀x∈l,x=0))/\h'=h:=by
 subst b;refine PH s _ ?_;unfold Is;have i:=d.len;refine ck (λe=>?_) (λe=>?_)
 ·refine⟨⟨⟨eH,0,0⟩,i4,⟨λ_ x a=>?_,λ_=>rfl⟩⟩,i4⟩;have:l=[]:=List.eq_nil_of_length_eq_zero i5;subst this;cases a
 ·refine Ak j5 (bi (Hd j5 ?_));refine⟨0,⟨i6,i4⟩,Hd i6 ?_⟩;refine⟨0,⟨i6,i4⟩,0,⟨i6,i4⟩,?_⟩;refine(Qe s l 0 h d g t).mono ?_;rintro v m ⟨k,rfl,q,o,h3,rfl⟩;refine⟨⟨s.ptr,k,s.cap⟩,i4,trivial,?_⟩;refine(SB ⟨s.ptr,k,s.cap⟩ (l.take k) 0 m (d.take k q) (by show k<=s.cap;omega) i9).mono ?_;rintro v u ⟨⟨r,rfl,n⟩,rfl⟩;refine⟨r,i4,trivial,⟨r,i4,n.trans ⟨λc x a=>?_,λc x a=>c x (zD a)⟩⟩,i4⟩;obtain⟨j,f,rfl⟩:=qK a;by_cases p:j<k
  ·exact c _ (by rw[List.mem_take_iff_getElem];exact⟨j,i5,i4⟩)
  ·exact o j f i5
def qv(x:Sl×Sl):bh:=[x.1,x.2]
theorem adg:∀x,∀c∈qv x,c.oneCell'=eR:=λx c a=>by
 simp only[qv,zb,List.not_mem_nil,or_false]at a;rcases a with rfl|rfl<;>rfl
def jO:jp (Sl×Sl) ft:=⟨λh q a e=>Seq h q a.1 1 av e.1/\Seq h q a.2 1 aF e.2,λa c=>⟨a.1.ai c,a.2.ai c⟩,λa b=>⟨a.1.mono b,a.2.mono b⟩⟩
abbrev sn:jp Sl (List ft):=bK jO 2 qv
abbrev akg:jp Sl aR:=bK (uI 1 aF) 1 bv
abbrev eQ:bZ C.toDr 287 289 2 [xr eH 0 0,xr eH 0 0] 48:=⟨_,_,i4,i4,i4,i4,i4,i4⟩
abbrev adh:bZ C.toDr 56 71 1 [xr eH 0 0] 24:=⟨_,_,i4,i4,i4,i4,i4,i4⟩
abbrev agY:bZ C.toDr 296 4 1 [xv eS] 1:=⟨_,_,i4,i4,i4,i4,i4,i4⟩
theorem sn.get{h:f9}{q:aC}{s:Sl}{L:List ft}(x:sn.p h q s L){i:Int}(n:Nat)(c:i=n)(b:n<i1 L){K:Sl×Sl->Prop}(d:∀r,jO.p h q r L[n]->K r):
  ∃a:f7,(s.ptr=dB a/\0<=i/\i<((s.len:Nat):Int))/\∃x:Sl×Sl,aq h (a.add (i.toNat*2)) 0 [x.1,x.2]/\K x:=by
 obtain⟨rs,e,f,h3⟩:=bK.kO x;exact e.eC (g:=qv) n c i5 (rs[n]'(by omega)) i4 (d _ (h3 n i5 b))
structure Bn (h:f9) (p:f7) (l k v:Sl) (L:List ft) (kn:List Bool) (vs:aR):Prop where
 box:cx h p 351 [l,k,v]
 eqs:dV sn h l L
 known:Rd h k 1 fh kn
 vals:dV akg h v vs
theorem Bn.up{h h':f9}{p:f7}{l k v:Sl}{L:List ft}{kn:List Bool}{vs:aR}(x:Bn h p l k v L kn vs)(a:bc (λb=>b<h.size) h h'):Bn h' p l k v L kn vs:=
 ⟨x.box.ai a x.box.lt,dV.up x.eqs a,Seq.up x.known a,dV.up x.vals a⟩
theorem Vt{kn:List Bool}{c:Int}(b:0<=c)(a:c.toNat<i1 kn):Wl.kn kn c=kn[c.toNat]:=by unfold Wl.kn;rw[qe,qd a];rfl
theorem mY{m:aR}{i:Nat}(h:i<i1 m):aE m i=m[i]:=bD h
theorem ke{α:Type}(f:α->Bool)(l:List α){k:Nat}(a:k<i1 l):(l.take (k+1)).filter f=(l.take k).filter f++if f l[k]then[l[k]]else[]:=by rw[aK _ _ a,zl,zp];cases f l[k]<;>rfl
theorem uE(V:aR)(a:Row)(l:aD)(c:Int):cT V a (l++[c])=cV 1 (aE V c.toNat) (cT V a l):=by unfold cT;rw[zN];rfl
theorem Yt(a t:Row):cV 1 a t=zi (λx y=>y^^^x) a t:=by unfold cV;congr 1;funext x y;rw[Gf.one_mul]
theorem Jf{a t:Row}(c:i1 a=i1 t){k:Nat}(b:k<i1 t:=by omega):(zi (λx y=>y^^^x) (a.take k) (t.take k)++t.drop k).set k (t[k]^^^(a[k]'(by omega)))=zi (λx y=>y^^^x) (a.take (k+1)) (t.take (k+1))++t.drop (k+1):=by
 have d:i1 (zi (λx y=>y^^^x) (a.take k) (t.take k))=k:=i9
 rw[qV _ _ i5,d,zc,qP b,zq,aK _ _ b,aK _ _ (show k<i1 a by omega),yG i9];simp
theorem Vu(p:f7)(l k v:Sl)(L:List ft)(kn:List Bool)(vs:aR)(n:Nat)(h:f9)(t:Bn h p l k v L kn vs)(I:i1 kn=n)(G:∀e∈L,∀c∈e.1,0<=c/\c<(n:Int))(S:i1 L<=2^30)(w:∀e∈L,i1 e.1<=2^30):
  ac xB 326 #[xt (dB p)] h λv h'=>(∃i:Int,v=xq xx i/\(0<=i->∃(F:i.toNat<i1 L),i1 ((L[i.toNat]).1.filter λc=>!Wl.kn kn c)=1))/\Sp h h' []:=by
 refine Fj (dB p) ?_;unfold uB;have K:=bK.len t.eqs;refine⟨p,i4,l,t.box.cell0 i4,?_⟩;refine aA (λi:Nat=>(i:Int)) (λi h'=>i<=i1 L/\Sp h h' []) (λi=>i1 L-i) 0 i4 ⟨i5,Sp.refl h⟩ ?_;rintro i J ⟨F,A⟩;refine aj (λe=>?_) λe=>⟨⟨-1,i4,λT=>i5⟩,A⟩;have g:i<i1 L:=i5
 refine sn.get (dV.up t.eqs A.ai) i i4 g λx O=>?_;refine(Sp.refl J).alloc af i4 λa U M=>?_;refine M.storeAll af 0 i4 i4 (qv x) i4 i4 i4 i4 λh3 u=>?_;have B:=up A.ai u.ai;have o:=t.up B;have r:=jO.mono (jO.loc O u.ai) λb Q=>qR Q u.ai.1;have D:=u.box 0 i4;refine⟨x.1,D.cell0 i4,?_⟩;have H:=r.1.len;have E:=w _ (qg g);let d:Nat->Nat:=λj=>i1 (((L[i]).1.take j).filter λc=>!Wl.kn kn c);refine aA (λj:Nat=>(((d j:Nat):Int),(j:Int))) (λj h'=>h'=h3/\j<=(L[i]).1.length) (λj=>(L[i]).1.length-j) 0 qb ⟨i4,i5⟩ ?_;rintro j V ⟨rfl,R⟩;dsimp only;have P:d j<=j:=zd (qQ _ _) i9;refine aj (λN=>?_) (λN=>?_)
 ·have f:j<(L[i]).1.length:=i5
  have z:=G _ (qg g) _ (qg f);refine r.1.bG j i4 f _ i4 ?_;refine⟨p,i4,k,o.box.cell i4,?_⟩;refine o.known.bG (L[i]).1[j].toNat i5 i5 _ i4 ?_;rw[ak ((j:Int)+1),ak _];have s:=Vt (kn:=kn) z.1 i5;refine bo (λm=>?_) (λm=>?_)
  ·refine⟨j+1,?_,⟨i4,i5⟩,i5⟩;have:d (j+1)=d j+1:=by simp only[d];rw[ke _ _ f,s,m];simp
   rw[this];rfl
  ·refine⟨j+1,?_,⟨i4,i5⟩,i5⟩;have:d (j+1)=d j:=by simp only[d];rw[ke _ _ f,s,m];simp
   rw[this];rfl
 ·have y:j=(L[i]).1.length:=i5
  subst y;have q:d (L[i]).1.length=i1 ((L[i]).1.filter λc=>!Wl.kn kn c):=by simp only[d];rw[q9]
  rw[q];refine ck (λm=>⟨⟨i,i4,λ_=>⟨i5,by exact_mod_cast m⟩⟩,.zip B⟩) λm=>?_;exact⟨i+1,j0,⟨i5,.zip B⟩,i5⟩
theorem Rw(p:f7)(l k v:Sl)(L:List ft)(kn:List Bool)(vs:aR)(n w:Nat)(x:Sl×Sl)(e:ft)(h:f9)(hP:Bn h p l k v L kn vs)(M:kt n w L kn vs)(X:dV jO h x e)(G:jh n w e)(hw:w<=2^20)(ah:i1 e.1<=2^20):
  ac xB 279 #[xt (dB p),xw #[x.1,x.2]] h λr h'=>∃a b:Sl,r=xw #[a,b]/\Sp h h' [an 3 a 1 av (fz kn vs e).1,an 5 b 1 aF (fz kn vs e).2]:=by
 refine Fi (dB p) x ?_;unfold uA;refine(Sp.refl h).boxed λO h1 H1=>?_;refine H1.alloc af i4 λW h2 S=>?_;have P2:=S.ai;refine⟨x.2,(S.box 0 i4).cell i4,(eW x.2 e.2 h2 (Seq.up X.2 P2) (by have:=G.len;omega)).mono ?_⟩;rintro vv h3 ⟨d,rfl,R3⟩;have H3:=S.comp R3;refine⟨d,i4,H3.alloc af i4 λa5 h4 H4=>?_⟩;refine H4.storeAll af 3 i4 i4 (qv (⟨eH,0,0⟩,d)) i4 i4 i4 i4 λh5 H5=>?_;have H6:Sp h h5 [au O 289 (qv x),au W 289 [xr eH 0 0,xr eH 0 0],an 5 d 1 aF e.2,au a5 289 (qv (⟨eH,0,0⟩,d)),an 3 ⟨eH,0,0⟩ 1 av []]:=H5.nil 3 1 av;refine⟨x.1,(H6.box 0 i4).cell0 i4,?_⟩;have ao:=X.1.len;have am:=M.klen;have ab:=M.vlen;refine aA (λt:Nat×Sl=>(t.1:Int)) (λt h'=>t.1<=i1 e.1/\Sp h h' [au O 289 (qv x),au W 289 [xr eH 0 0,xr eH 0 0],an 5 d 1 aF (cT vs e.2 ((e.1.take t.1).filter λc=>Wl.kn kn c)),au a5 289 (qv (t.2,d)),an 3 t.2 1 av ((e.1.take t.1).filter λc=>!Wl.kn kn c)]) (λt=>i1 e.1-t.1) (0,⟨eH,0,0⟩) i4 ⟨jj,by simpa[cT]using H6⟩ ?_;rintro⟨j,o⟩ h7 ⟨hj,q⟩;dsimp only at*;have s:i1 (cT vs e.2 ((e.1.take j).filter λc=>Wl.kn kn c))=w:=kr G.len λc hc=>by
  have E:=qJ.1 hc;have H:=zD E.1;exact M.HL (G.cW c H).1 (G.cW c H).2 E.2
 have ad:i1 ((e.1.take j).filter λc=>!Wl.kn kn c)<=j:=zd (qQ _ _) i9;refine aj (λe2=>?_) (λe2=>?_)
 ·have f:j<i1 e.1:=i5
  have z:=G.cW _ (qg f);have u:=hP.up q.ai;refine(Seq.up X.1 q.ai).bG j i4 f _ i4 ?_;refine⟨p,i4,k,u.box.cell i4,?_⟩;refine u.known.bG (e.1[j]).toNat i5 i5 _ i4 ?_;have J:=Vt (kn:=kn) z.1 i5;refine bo (λB=>?_) (λB=>?_)
  ·rw[<-J]at B;refine⟨o,(q.box 3 i4).cell0 i4,?_⟩;refine q.push af 4 i4 gM i4 i6 (λ_=>rfl) fD e.1[j] i4 i6 i5 λo' h8 g=>?_;refine g.kj af 3 i4 i4 [o'] i4 i4 i4 (by simp[qv]) λh9 N=>?_;refine⟨(j+1,o'),js,⟨i7,?_⟩,i7⟩;dsimp only;rw[ke _ _ f,ke _ _ f,B];simp only[Bool.not_false,if_true,zj,if_false,qN];exact N
  ·rw[<-J]at B;have I:=M.HL z.1 z.2 B;rw[mY i5]at I;refine⟨p,i4,v,u.box.cell i4,?_⟩;obtain⟨vr,R,ar,T⟩:=bK.kO hP.vals;have i:(e.1[j]).toNat<i1 vs:=i5
   refine(Seq.up R q.ai).mv (e.1[j]).toNat i5 i5 ?_;have K:=(T (e.1[j]).toNat i5 i).1;have F:=K.len;generalize vr[(e.1[j]).toNat]'(by omega)=y at K F⊢;obtain⟨A,Y⟩:∃A,A=vs[(e.1[j]).toNat]'i:=⟨_,rfl⟩
   obtain⟨D,Z⟩:∃D,D=cT vs e.2 ((e.1.take j).filter λc=>Wl.kn kn c):=⟨_,rfl⟩
   rw[<-Y]at I K F;rw[<-Z]at q s;refine aA (λm:Nat=>(m:Int)) (λm h'=>m<=w/\Sp h h' [au O 289 (qv x),au W 289 [xr eH 0 0,xr eH 0 0],an 5 d 1 aF (zi (λx y=>y^^^x) (A.take m) (D.take m)++D.drop m),au a5 289 (qv (o,d)),an 3 o 1 av ((e.1.take j).filter λc=>!Wl.kn kn c)]) (λm=>w-m) 0 i4 ⟨i5,oj⟩ ?_;rintro m h8 ⟨hm,g⟩;have Q:i1 (zi (λx y=>y^^^x) (A.take m) (D.take m))=m:=i9
   refine aj (λe4=>?_) (λe4=>?_)
   ·have ap:m<w:=i5
    refine(Seq.up K g.ai).bG m i4 i5 _ i4 ?_;refine⟨d,(g.box 3 i4).cell i4,?_⟩;refine(g.seq 2 i4 λ_=>rfl).bG m i4 i9 _ i4 ?_;have U:((zi (λx y=>y^^^x) (A.take m) (D.take m)++D.drop m)[m]'(by simp;omega))=D[m]'(by omega):=by rw[zZ i5];simp[Q]
    rw[U,nH];refine g.set af 2 i4 (λ_=>rfl) i4 m i4 i9 (D[m]'(by omega)^^^A[m]'(by omega)) i4 i4 i4 λh9 N=>?_;rw[Jf i5]at N;exact⟨m+1,j0,⟨i5,N⟩,i5⟩
   ·have V:m=w:=i5
    subst V;refine⟨(j+1,o),js,⟨i7,?_⟩,i7⟩;dsimp only;rw[ke _ _ f,ke _ _ f,B];simp only[Bool.not_true,if_true,zj,if_false,qN];rw[uE,mY i,<-Y,<-Z,Yt];rw[qi i5,qi i5,zf i5,qN]at g;exact g
 ·have P:j=i1 e.1:=i5
  subst P;rw[q9]at q;refine⟨(o,d),(q.box 3 i4).aV _ i4,?_⟩;refine q.storeAll af 1 i4 i4 (qv (o,d)) i4 i4 i4 i4 λh8 g=>?_;refine⟨(o,d),(g.box 1 i4).aV _ i4,o,d,i4,?_⟩;exact g.cK [4,2]
theorem aa.akx{B:aC}{c h:f9}{As:List HP}{e k:Nat}{α:Type}{f:α->bh}{s:Sl}{l:List α}(H:aa B c h As)(i:Nat)(d:As[i]?=dB (an e s k f l))(j:∀x,i1 (f x)=k)(m:l≠[]):aa B c h (As.set i (EA (uI k f) s l)):=
 H.fZ i d λq ⟨a,b⟩=>⟨a.seq j b,λg=>absurd g m⟩
theorem count_set{l:List Bool}:∀{i:Nat} (h:i<i1 l),l[i]=eS->((l.set i eR).count eS)+1=l.count eS:=by
 induction l with
 |nil=>intro i h;simp at h
 |cons a l ih=>
  intro i h b;cases i with
  |zero=>simp at b;subst b;simp
  |succ i=>
   have:=ih (i:=i) j6 k7;rw[zu,List.count_cons,List.count_cons];omega
theorem adi(p:f7)(l k v:Sl)(L:List ft)(n w:Nat)(y h:f9)(hE:dV sn y l L)(E:∀e∈L,jh n w e)(hn:n<=64)(Q:i1 L<=2^20)(V:1<=w/\w<=2^20)(q:∀e∈L,i1 e.1<=2^20)
  (H:Sp y h [au p 351 [l,k,v],an 4 k 1 fh (qh n eS),ce 71 v 1 bv (uI 1 aF) (qh n [])]):
  ac xB 278 #[xt (dB p)] h λr h'=>r=.tuple #[]/\∃kn vs,kt n w L kn vs/\Sp y h' [au p 351 [l,k,v],an 4 k 1 fh kn,ce 71 v 1 bv (uI 1 aF) vs]:=by
 refine GQ (dB p) ?_;unfold wd;refine aA (λ_:List Bool×aR=>()) (λt h'=>kt n w L t.1 t.2/\Sp y h' [au p 351 [l,k,v],an 4 k 1 fh t.1,ce 71 v 1 bv (uI 1 aF) t.2]) (λt=>t.1.count eS) (qh n eS,qh n []) i4 ⟨Zm n w L,H⟩ ?_;rintro⟨kn,vs⟩ N ⟨j,P⟩;dsimp only at*;have I:=j.klen;have X:=j.vlen;have mk:∀{A},Sp y A [au p 351 [l,k,v],an 4 k 1 fh kn,ce 71 v 1 bv (uI 1 aF) vs]->Bn A p l k v L kn vs:=λf=>
  ⟨f.box 0 i4,dV.up hE f.ai,f.seq 1 i4 λ_=>rfl,f.Qu 2 i4 λ_=>rfl⟩
 refine(Vu p l k v L kn vs n N (mk P) I (λe M=>(E e M).cW) i5 λe M=>by have:=q e M;omega).mono ?_;rintro _ A ⟨⟨i,rfl,R⟩,T⟩;refine⟨i,i4,?_⟩;have f:=P.up T.ai;refine aj (λe=>⟨i4,kn,vs,j,f⟩) λe=>?_;have F:0<=i:=Int.not_lt.1 e;obtain⟨o,u⟩:=R F;have g:=mk f;refine⟨p,i4,l,g.box.cell0 i4,?_⟩;refine sn.get g.eqs i.toNat i5 o λx Y=>?_;have d:=qg o;refine(Rw p l k v L kn vs n w x L[i.toNat] A g j Y (E _ d) V.2 (q _ d)).mono ?_;rintro _ h3 ⟨a,b,rfl,R3⟩;refine⟨(a,b),i4,?_⟩;obtain⟨c,D⟩:∃c,(fz kn vs L[i.toNat]).1=[c]:=by
  have N:(fz kn vs L[i.toNat]).1.length=1:=u
  match A:(fz kn vs L[i.toNat]).1,N with
  |[c],_=>exact⟨c,i4⟩
 have z:=j.Dv (E _ d);have J:=z.cW c (by rw[D];simp);have s:Wl.kn kn c=eS:=HM j L[i.toNat] c (by rw[D];simp);rw[Vt J.1 i5]at s;have O:=f.comp R3;rw[D]at O;refine O.alloc af i4 λa8 h4 W=>?_;refine W.storeAll af 5 i4 i4 (qv (a,b)) i4 i4 i4 i4 λh5 m=>?_;refine⟨p,i4,k,(m.box 0 i4).cell i4,a,(m.box 5 i4).cell0 i4,?_⟩;have B:=m.seq 3 i4 λ_=>rfl;refine B.bG 0 i4 jj c i4 ?_;refine⟨p,i4,v,(m.box 0 i4).cell i4,a,(m.box 5 i4).cell0 i4,?_⟩;refine B.bG 0 i4 jj c i4 ?_;refine⟨b,(m.box 5 i4).cell i4,?_⟩;refine m.set af 1 i4 (λ_=>rfl) i4 c.toNat i5 i5 eR i4 i4 i4 λh6 G=>?_;refine⟨⟨(G.box 5 i4).cell i4,(G.box 5 i4).cell0 i4,trivial⟩,?_⟩;have K:(fz kn vs L[i.toNat]).2≠[]:=λU=>by have:=z.len;rw[U]at this;simp at this;omega
 have S:=aa.akx G 4 i4 (λ_=>rfl) K;refine S.akp af 2 4 i6 i4 i4 (λ_=>rfl) i4 c.toNat i5 i5 i4 i4 i4 λh8 Z=>⟨trivial,?_⟩
 refine⟨(kn.set c.toNat eR,vs.set c.toNat (fz kn vs L[i.toNat]).2),i4,⟨abK j E d D,Z.cK [0,1,2]⟩,?_⟩;have:=count_set (l:=kn) (i:=c.toNat) i5 s;dsimp only;omega
theorem Xj(s:Sl)(l:Row)(h:f9)(d:Rd h s 1 aF l)(b:s.len<=s.cap)(c:i1 l<=2^30):
  ac xB 280 #[s] h λv h'=>v=xv (!(l.any (· !=0)))/\h'=h:=by
 refine NI s ?_;unfold GB;refine(Rv s l _ i4 h d b c).mono ?_;rintro _ e ⟨⟨r,rfl,a⟩,rfl⟩;refine⟨r,i4,?_,i4⟩;congr 1;rw[vB];simp only[beq_iff_eq,Bool.not_eq_true',List.any_eq_false,bne_iff_ne,ne_eq,Decidable.not_not];rw[<-a];omega
def Qf(l:aD):Prop:=∀i (h:i+1<i1 l),l[i]<l[i+1]
theorem SC(n:Nat)(l:Sl)(L:List ft)(w:Nat)(h:f9)(z:dV sn h l L)(B:∀e∈L,jh n w e/\Qf e.1)(hn:n<=64)(J:i1 L<=2^20)(q:∀e∈L,i1 e.1<=2^20):
  ac xB 277 #[xq xx n,l] h λv h'=>v=xv eR/\Sp h h' []:=by
 refine PK _ l ?_;unfold Ix;have S:=bK.len z;refine bi (aj (λe=>i5) λ_=>aj (λe=>i5) λ_=>?_);refine aA (λi:Nat=>(i:Int)) (λi h'=>i<=i1 L/\Sp h h' []) (λi=>i1 L-i) 0 i4 ⟨i5,Sp.refl h⟩ ?_;rintro i Q ⟨hi,u⟩;refine aj (λe=>?_) λe=>⟨i4,u⟩;have d:i<i1 L:=i5
 refine sn.get (dV.up z u.ai) i i4 d λx V=>?_;refine(Sp.refl Q).alloc af i4 λa h2 T=>?_;refine T.storeAll af 0 i4 i4 (qv x) i4 i4 i4 i4 λh3 p=>?_;have F:=up u.ai p.ai;have c:=jO.mono (jO.loc V p.ai) λb X=>qR X p.ai.1;have f:=p.box 0 i4;refine⟨x.1,f.cell0 i4,?_⟩;have P:=c.1.len;have H:=q _ (qg d);obtain⟨o,s⟩:=B _ (qg d);refine aA (λj:Nat=>(j:Int)) (λj h'=>h'=h3/\j<=(L[i]).1.length) (λj=>(L[i]).1.length-j) 0 i4 ⟨i4,i5⟩ ?_;rintro j G ⟨rfl,hj⟩;refine aj (λU=>?_) (λU=>?_)
 ·have m:j<(L[i]).1.length:=i5
  have O:=o.cW _ (qg m);refine c.1.bG j i4 m _ i4 ?_;refine aj (λe=>i5) λ_=>aj (λe=>i5) λ_=>?_;have D:∃t:Nat,qc xx ((j:Int)+1)=(t:Int)/\(G=G/\t<=(L[i]).1.length)/\(L[i]).1.length-t<(L[i]).1.length-j:=⟨j+1,j0,⟨i4,i5⟩,i5⟩
  refine aj (λW=>?_) λW=>D;refine⟨x.1,f.cell0 i4,?_⟩;rw[ak ((j:Int)-1)];refine c.1.bG (j-1) i5 i5 _ i4 ?_;have E:=s (j-1) i5;have I:(L[i]).1[j-1+1]'(by omega)=(L[i]).1[j]:=by congr 1;omega
  rw[I]at E;exact aj (λe=>absurd E i5) λ_=>D
 ·refine⟨x.2,f.cell i4,?_⟩;obtain⟨rs,M,h8,Y⟩:=bK.kO (dV.up z F);have r:=(Y 0 i5 i5).2.len;obtain⟨A,Z,y,R,N⟩:=M.eC (g:=qv) (i:=(0:Int)) 0 rfl i5 (rs[0]'(by omega)) rfl (K:=λy=>y.2.len=w) (by rw[r];exact(B _ (qg (show 0<i1 L by omega))).1.len);refine⟨A,Z,y.2,?_,?_⟩
  ·exact R.2.1
  have k:=c.2.len;rw[o.len]at k;refine bY (λe=>absurd (by rw[k,N]) e) λ_=>?_;exact⟨i+1,j0,⟨i5,.zip F⟩,i5⟩
theorem aa.adj{B:aC}{m h:f9}{As:List HP}{e k:Nat}{α β:Type}{E:jp α β}{f:α->bh}{s:Sl}{n:Nat}{a:α}{b:β}(H:aa B m h As)(i:Nat)(t:As[i]?=dB (an e s k f (qh n a)))(v:∀h,E.p h (λ_=>False) a b):aa B m h (As.set i (ce e s k f E (qh n b))):=
 H.fZ i t λq ⟨x,y⟩=>⟨_,λ_=>False,x,λc u=>⟨y c u,λh=>h⟩,λ_ h=>h.elim,jj,λj r l d g=>by
  rw[wh]at d g;split at d
  ·rename_i o;rw[g0 o]at g;cases d;cases g;exact v h
  ·cases d⟩
theorem aa.aky{B:aC}{k h:f9}{As:List HP}{e o:Nat}{a b:Sl}{l:aD}{r:Row}(H:aa B k h As)(i j:Nat)(c:i≠j)(n:As[i]?=dB (an e a 1 av l))(m:As[j]?=dB (an o b 1 aF r)):aa B k h ((As.set i (EA jO (a,b) (l,r))).set j emp):=
 H.merge i j c n m λq p _ g f=>⟨g.1.seq (λ_=>rfl) λx d=>.inl (g.2 x d),f.1.seq (λ_=>rfl) λx d=>.inr (f.2 x d)⟩
theorem adk(kn:List Bool)(vs:aR)(L:List ft){i:Nat}(a:i<i1 L):bn kn vs (L.take (i+1))=if(fz kn vs L[i]).1.isEmpty then bn kn vs (L.take i)else bn kn vs (L.take i)++[fz kn vs L[i]]:=by unfold bn;rw[aK _ _ a,qW,zl];cases h:(fz kn vs L[i]).1.isEmpty<;>simp[h]
theorem aad(kn:List Bool)(vs:aR)(L:List ft){i:Nat}(a:i<i1 L):kT kn vs (L.take (i+1))=(kT kn vs (L.take i)||((fz kn vs L[i]).1.isEmpty&&(fz kn vs L[i]).2.any (· !=0))):=by unfold kT;rw[aK _ _ a,qW,yF];simp
theorem aae{kn:List Bool}{vs:aR}{L:List ft}{i:Nat}(h:kT kn vs (L.take i)=eR):kT kn vs L=eR:=by rw[<-qE i L];unfold kT at*;rw[qW,yF,h];rfl
theorem adl(l:Sl)(L:List ft)(n w:Nat)(h:f9)(H:dV sn h l L)(P:∀e∈L,jh n w e/\Qf e.1)(hn:n<=64)(I:i1 L<=2^20)(hw:1<=w/\w<=2^20)(A:∀e∈L,i1 e.1<=2^20):
  ac xB 225 #[xq xx n,l] h λr h'=>∃kn vs,kt n w L kn vs/\((kT kn vs L=eR/\r=.tuple #[xr eH 0 0,xr eH 0 0,xr eH 0 0,xq xx 10]/\Sp h h' [])∨
   (kT kn vs L=eS/\∃k v s:Sl,r=.tuple #[k,v,s,xq xx 0]/\Sp h h' [an 4 k 1 fh kn,ce 71 v 1 bv (uI 1 aF) vs,ce 289 s 2 qv jO (bn kn vs L)])):=by
 refine Sj _ l ?_;unfold KI;have ad:=bK.len H;refine(SC n l L w h H P hn I A).mono ?_;rintro _ h1 ⟨rfl,R1⟩;refine⟨eR,i4,bo (λe=>j1) λ_=>?_⟩;refine bP (λs h'=>∃(p:f7) (k v:Sl),s=dB p/\Sp h h' [au p 351 [l,k,v],an 4 k 1 fh (qh n eS),ce 71 v 1 bv (uI 1 aF) (qh n [])]) ⟨?_,?_⟩ ?_
 ·refine R1.make af fh agY i6 eS i4 i4 n n i4 i4 (qm _) i5 λk h2 V Q R=>⟨trivial,?_⟩
  refine R.make af bv adh i6 ⟨eH,0,0⟩ i4 i4 n n i4 i4 (qm _) i5 λv h3 K Z H3=>⟨trivial,?_⟩
  refine H3.boxed λp O F=>⟨trivial,p,k,v,i4,?_⟩
  exact(aa.adj (E:=uI 1 aF) (b:=[]) F 1 i4 λh=>⟨Seq.nil _ _ _ _ _ _,λ_=>rfl⟩).cK [2,0,1]
 ·refine R1.make af bv adh i6 ⟨eH,0,0⟩ i4 i4 n n i4 i4 (qm _) i5 λv h3 K Z H3=>⟨trivial,?_⟩
  refine H3.make af fh agY i6 eS i4 i4 n n i4 i4 (qm _) i5 λk h2 V Q R=>⟨trivial,?_⟩
  refine R.boxed λp O F=>⟨trivial,p,k,v,i4,?_⟩
  exact(aa.adj (E:=uI 1 aF) (b:=[]) F 0 i4 λh=>⟨Seq.nil _ _ _ _ _ _,λ_=>rfl⟩).cK [2,1,0]
 rintro s O ⟨p,k,v,rfl,F⟩;refine(adi p l k v L n w h O H (λe he=>(P e he).1) hn I hw A F).mono ?_;rintro _ h5 ⟨rfl,kn,vs,J,H5⟩;refine⟨(),i4,?_⟩;refine aA (λt:Nat×Sl=>(t.2,(t.1:Int))) (λt h'=>t.1<=i1 L/\kT kn vs (L.take t.1)=eS/\Sp h h' [au p 351 [l,k,v],an 4 k 1 fh kn,ce 71 v 1 bv (uI 1 aF) vs,ce 289 t.2 2 qv jO (bn kn vs (L.take t.1))]) (λt=>i1 L-t.1) (0,⟨eH,0,0⟩) i4 ⟨jj,i4,H5.Hl 289 2 qv jO⟩ ?_;rintro⟨i,o⟩ h6 ⟨hi,y,B⟩;dsimp only at*;refine aj (λe=>?_) (λe=>?_)
 ·have m:i<i1 L:=i5
  obtain⟨rs,q1,q2,q3⟩:=bK.kO H;have hx:=q3 i i5 m;refine(Seq.up q1 B.ai).eC (g:=qv) i i4 i5 (rs[i]'(by omega)) i4 ?_;generalize rs[i]'(by omega)=x at hx⊢;refine B.alloc af i4 λa h7 H7=>?_;refine H7.storeAll af 4 i4 i4 (qv x) i4 i4 i4 i4 λh8 z=>?_;refine⟨x,(z.box 4 i4).aV _ i4,?_⟩;have M:Bn h8 p l k v L kn vs:=⟨z.box 0 i4,dV.up H z.ai,z.seq 1 i4 λ_=>rfl,z.Qu 2 i4 λ_=>rfl⟩
  obtain⟨D,-⟩:=P _ (qg m);have W:dV jO h8 x L[i]:=dV.up hx z.ai;refine(Rw p l k v L kn vs n w x L[i] h8 M J W D hw.2 (A _ (qg m))).mono ?_;rintro _ h9 ⟨c,d,rfl,R9⟩;refine⟨(c,d),i4,?_⟩;have H9:=z.comp R9;refine H9.alloc af i4 λa2 ah ab=>?_;refine ab.storeAll af 7 i4 i4 (qv (c,d)) i4 i4 i4 i4 λX f=>?_;refine⟨c,(f.box 7 i4).cell0 i4,?_⟩;have q:=(f.own 5 i4).len;have ao:i1 (bn kn vs (L.take i))<=i1 L:=by unfold bn;refine zd (qQ _ _) ?_;simp;omega
  have u:=adk kn vs L m;have j:=aad kn vs L m;refine aj (λe2=>?_) (λe2=>?_)
  ·have N:(fz kn vs L[i]).1.isEmpty=eS:=by
    cases hh:(fz kn vs L[i]).1 with
    |nil=>rw[hh]at q;simp at q;omega
    |cons a l=>rfl
   rw[N]at u j;refine⟨(c,d),(f.box 7 i4).aV _ i4,?_⟩;have T:=aa.aky f 5 6 i6 i4 i4;refine T.tO af 3 5 i6 i4 i4 eQ i4 i6 (λ_=>rfl) adg i4 i6 i5 λo' ap Y=>?_;refine⟨(i+1,o'),js,⟨i7,by dsimp only;rw[j,y];rfl,?_⟩,i7⟩;dsimp only;rw[u];exact Y.cK [0,1,2,3]
  ·have S:(fz kn vs L[i]).1.isEmpty=eR:=by
    cases hh:(fz kn vs L[i]).1 with
    |nil=>rfl
    |cons a l=>rw[hh]at q;simp at q;omega
   rw[S]at u j;refine⟨d,(f.box 7 i4).cell i4,?_⟩;refine(Xj d _ X (f.seq 6 i4 λ_=>rfl) (f.own 6 i4).cap (by have:=(J.Dv D).len;omega)).mono ?_;rintro _ am ⟨rfl,rfl⟩;refine⟨_,i4,bo (λG=>?_) λG=>?_⟩
   ·refine⟨kn,vs,J,.inl ⟨aae (i:=i+1) ?_,i4,f.cK []⟩⟩;rw[j];simp at G;simp[G]
   ·refine⟨(i+1,o),js,⟨i7,?_,?_⟩,i7⟩
    ·dsimp only;rw[j,y];simp at G;simp;exact G
    ·dsimp only;rw[u];exact f.cK [0,1,2,3]
 ·have U:i=i1 L:=i5
  subst U;rw[q9]at B y;refine⟨p,i4,k,(B.box 0 i4).cell i4,p,i4,v,(B.box 0 i4).cell i4,kn,vs,J,.inr ⟨y,k,v,o,i4,B.cK [1,2,3]⟩⟩
def lM(pool:List (Sl×Row)):HP:=⟨λh q=>∀x∈pool,Seq h q x.1 1 aF x.2,λa d x b=>(a x b).ai d,λa c x b=>(a x b).mono c⟩
theorem _root_.Go.Vc.aa.pool{B:aC}{c h:f9}{As:List HP}(H:aa B c h As)(i j:Nat)(a:i≠j){pool:List (Sl×Row)}{r:Sl}{l:Row}(e:As[i]?=dB (lM pool))(d:As[j]?=dB (uH r 1 aF l)):aa B c h ((As.set i (lM ((r,l)::pool))).set j emp):=
 H.merge i j a e d λm k _ g f x b=>by
  rcases zb.1 b with rfl|b
  ·exact Seq.mono f λ_ h=>.inr h
  ·exact(g x b).mono λ_ h=>.inl h
theorem _root_.Go.Vc.aa.Ov{B:aC}{b h:f9}{As:List HP}(H:aa B b h As)(i:Nat){pool:List (Sl×Row)}(a:As[i]?=dB (lM pool)){r:Sl}{l:Row}(c:(r,l)∈pool):Rd h r 1 aF l:=(H.at i a) _ c
theorem _root_.Go.Vc.aa.afD{B:aC}{e h:f9}{As:List HP}(H:aa B e h As)(i j:Nat)(c:i≠j){pool:List (Sl×Row)}{s:Sl}{rs:List Sl}{a:aR}(m:As[i]?=dB (an 71 s 1 bv rs))(g:As[j]?=dB (lM pool))
  (v:i1 rs=i1 a) (p:∀(k:Nat) r l,rs[k]?=dB r->a[k]?=dB l->(r,l)∈pool):aa B e h ((As.set i (fR 71 s 1 aF a)).set j emp):=
 H.merge i j c m g λw o u d n=>⟨rs,o,d.1,λb f=>⟨.inl (d.2 b f),u b (d.2 b f)⟩,λ_ h=>.inr h,v,λk r l q t=>n _ (p k r l q t)⟩
def iz(pool:List (Sl×Row))(g:Row->Row)(rs:List Sl)(m:aR):Prop:=i1 rs=i1 m/\∀(i:Nat) r l,rs[i]?=dB r->m[i]?=dB l->(r,g l)∈pool
theorem iz.get{pool:List (Sl×Row)}{g:Row->Row}{rs:List Sl}{m:aR}(h:iz pool g rs m){i:Nat}(a:i<i1 m):(rs[i]'(by rw[h.1];exact a),g m[i])∈pool:=
 h.2 i _ _ (qd _) (qd _)
theorem iz.mono{pool a:List (Sl×Row)}{g:Row->Row}{rs:List Sl}{m:aR}(h:iz pool g rs m)(d:∀x∈pool,x∈a):iz a g rs m:=⟨h.1,λi r l c b=>d _ (h.2 i r l c b)⟩
theorem iz.set{pool:List (Sl×Row)}{g:Row->Row}{rs:List Sl}{m:aR}(h:iz pool g rs m)(i:Nat){r:Sl}{l:Row}(e:(r,g l)∈pool):iz pool g (rs.set i r) (m.set i l):=by
 refine⟨by simp[h.1],λk f l' a b=>?_⟩;rw[q8]at a b;by_cases c:i=k
 ·subst c;rw[g0 rfl]at a b;split at a
  ·rename_i d;rw[g0 (by rw[<-h.1];exact d)]at b;cases a;cases b;exact e
  ·cases a
 ·rw[g9 c]at a b;exact h.2 k f l' a b
theorem _root_.Go.Vc.aa.FB{B:aC}{m h:f9}{As:List HP}(H:aa B m h As)(i j:Nat){pool:List (Sl×Row)}{e:Nat}{s:Sl}{rs:List Sl}{a:aR}(f:As[i]?=dB (an e s 1 bv rs))(d:As[j]?=dB (lM pool))
  (c:iz pool id rs a):ia h (λb=>b<h.size) s 1 aF a rs:=⟨H.seq i f λ_=>rfl,c.1,λk r l g n=>H.Ov j d (c.2 k r l g n)⟩
theorem Jg{B:aC}{r h:f9}{As:List HP}(s f:f7)(t:UInt8)(g a:Sl)(b c:Row)(H:aa B r h (an 5 a 1 aF c::As))(I:St B r As λh=>f8 h s=dB (xt (dB f))/\fN h f/\Rd h g 1 aF b)
  (O:i1 b=i1 c) (T:i1 b<=2^30) {K:f9->Prop} (S:∀h',aa B r h' (an 5 a 1 aF (cV t b c)::As)->K h'):
  aL (σ:=Int) (λd R i=>
 Br (decide (d<((g.len:Nat):Int)))
 (∃E:f7,(g.ptr=dB E/\0<=d/\d<((g.len:Nat):Int))/\
 ∃F:Int,f8 i (E.add (d.toNat*1))=dB (xq xy F)/\
 ∃u:f7,(a.ptr=dB u/\0<=d/\d<((a.len:Nat):Int))/\
 ∃z:Int,f8 i (u.add (d.toNat*1))=dB (xq xy z)/\
 ∃p:f7,(dB s=dB p)/\
 ∃q:aM,f8 i p=dB (.pointer q)/\
 ae xB 294 #[(.pointer q),(xq xy (t.toNat:Int)),(xq xy F)] (.one (.sc (.int .u8))) i λA D=>
 (az.ok [(u.add (d.toNat*1),(xq xy z))] D)/\
 ∃j:f7,(a.ptr=dB j/\0<=d/\d<((a.len:Nat):Int))/\
 ag xB (qf 5 (xt (dB (j.add (d.toNat*1)))) (xq xy (qc xy ((qD (qk xy) z^^^(qD (qk xy) A)).toNat:Nat)))) D λ_ h3=>
 (az.ok [] h3)/\
 R (qc xx (d+(1:Int))) h3) (K i)) (0:Int) h:=by
 have N:g.len=i1 b:=(I.at [an 5 a 1 aF c] H).2.2.len;refine aA (λk:Nat=>(k:Int)) (λk h'=>k<=i1 b/\aa B r h' (an 5 a 1 aF (zi (λx y=>y^^^Gf.mul t x) (b.take k) (c.take k)++c.drop k)::As)) (λk=>i1 b-k) 0 i4 ⟨i5,l7⟩ ?_;rintro k i ⟨L,o⟩;obtain⟨P,J,M⟩:=I.at [_] o;refine aj (λe=>?_) (λe=>?_)
 ·have w:k<i1 b:=i5
  have m:i1 (zi (λx y=>y^^^Gf.mul t x) (b.take k) (c.take k))=k:=i9
  have Q:i1 (zi (λx y=>y^^^Gf.mul t x) (b.take k) (c.take k)++c.drop k)=i1 c:=by rw[qx,m,ze];omega
  refine M.bG k i4 w _ i4 ?_;have n:(zi (λx y=>y^^^Gf.mul t x) (b.take k) (c.take k)++c.drop k)[k]'(by omega)=c[k]:=by rw[zZ i5];simp[m]
  refine(o.seq 0 i4 λ_=>rfl).SF k i4 i5 _ i4 λax l=>?_;rw[n]at l⊢;refine⟨s,i4,dB f,P,(LV f t b[k] i J).mono ?_⟩;rintro v D ⟨rfl,rfl⟩;refine⟨_,i4,⟨l,trivial⟩,?_⟩;rw[nH];refine o.set af 0 i4 (λ_=>rfl) i4 k i4 i5 _ i4 i4 i4 λh3 G=>⟨trivial,?_⟩
  rw[zq,Bd O i5]at G;exact⟨k+1,j0,⟨i5,G⟩,i5⟩
 ·have:k=i1 b:=i5
  subst this;rw[qi (qm _),qi i5,zf i5,qN]at o;exact S i o
def gG(f:f7)(p:Int×Int×Int)(v r d e a c b:Sl):bh:=[xt (dB f),xq xx p.1,xq xx p.2.1,xq xx p.2.2,v,r,d,e,a,c,b]
structure Eo (h:f9) (s f:f7) (wa mo:Sl) (wr mr:List Sl) (W M:aR):Prop where
 fld:f8 h s=dB (xt (dB f))
 way:f8 h (s.add 9)=dB (xr wa.ptr wa.len wa.cap)
 more:f8 h (s.add 10)=dB (xr mo.ptr mo.len mo.cap)
 field:fN h f
 rW:ia h (λb=>b<h.size) wa 1 aF W wr
 rM:ia h (λb=>b<h.size) mo 1 aF M mr
theorem Eo.of{h:f9}{s f:f7}{p:Int×Int×Int}{v r i l n c a:Sl}{e g:List Sl}{W M:aR}(d:cx h s 295 (gG f p v r i l n c a))(j:fN h f)(k:ia h (λb=>b<h.size) c 1 aF W e)(m:ia h (λb=>b<h.size) a 1 aF M g):Eo h s f c a e g W M:=
 ⟨d.cell0 i4,d.cell i4,d.cell i4,j,k,m⟩
theorem Jh{B:aC}{k h:f9}{As:List HP}(s f:f7)(t:UInt8)(c:Int)(b a z o:Sl)(w0 e:Row)(u y:List Sl)(W M:aR)(H:aa B k h (an 5 b 1 aF w0::an 5 a 1 aF e::As))(i:St B k As λh=>Eo h s f z o u y W M)
  (D:0<=c) (x:c.toNat<i1 W) (n:c.toNat<i1 M) (w:i1 (aE W c.toNat)=i1 w0) (r:i1 (aE M c.toNat)=i1 e) (E:i1 w0<=2^30) (F:i1 e<=2^30):
  ac xB 286 #[xt (dB s),xq xy t.toNat,xq xx c,b,a] h λv h'=>v=.tuple #[]/\aa B k h' (an 5 b 1 aF (cV t (aE W c.toNat) w0)::an 5 a 1 aF (cV t (aE M c.toNat) e)::As):=by
 refine DX (dB s) _ c b a ?_;unfold sO;have S:=i.at [_,_] H;refine⟨s,i4,z,S.way,?_⟩;rw[mY x]at w⊢;rw[mY n]at r⊢;have q:=S.rW;have A:=q.len;refine q.top.mv c.toNat i5 i5 ?_;refine Jg s f t (u[c.toNat]'(by omega)) b (W[c.toNat]) w0 H (St.mk' λh' j=>?_) w i5 λh3 g=>?_
 ·have d:=i.at [_] j;exact⟨d.fld,d.field,d.rW.row _ _ _ (qd _) (qd x)⟩
 have m:=i.at [_,_] g;refine⟨s,i4,o,m.more,?_⟩;have p:=m.rM;have l:=p.len;refine p.top.mv c.toNat i5 i5 ?_;refine Jg s f t (y[c.toNat]'(by omega)) a (M[c.toNat]) e g.oC (St.mk' λh' j=>?_) r i5 λh3 g=>⟨i4,g.oC⟩
 ·have d:=i.at [_] j;exact⟨d.fld,d.field,d.rM.row _ _ _ (qd _) (qd n)⟩
def fO:aD->Bool
 |[]=>eR
 |[_]=>eR
 |a::b::r=>decide (a<b)&&fO (b::r)
theorem Ow:∀(l:aD) (a b:Int),fO (l++[a,b])=(fO (l++[a])&&decide (a<b))
 |[],a,b=>by simp[fO]
 |[c],a,b=>by simp[fO]
 |c::d::r,a,b=>by
  have:=Ow (d::r) a b;simp only[zx]at this⊢;simp only[fO,this,Bool.and_assoc]
theorem adm{l r:aD}(h:fO l=eS):fO (l++r)=eS:=by
 induction l with
 |nil=>simp[fO]at h
 |cons a t ih=>
  cases t with
  |nil=>simp[fO]at h
  |cons b t=>
   simp only[fO,vk]at h;simp only[zx,fO,vk];rcases h with h|h
   ·exact .inl h
   ·exact .inr (ih h)
theorem afE(l:aD)(k:Nat)(h:k+1<i1 l):l.take (k+2)=l.take k++[l[k],l[k+1]]:=by have a:l.take (k+2)=l.take (k+1)++[l[k+1]]:=aK l (k+1) h;have b:=aK l k;rw[a,b,qp];rfl
def fP(n:Int)(r:aD):Bool:=r.all (λc=>decide (0<=c/\c<n))&&fO r
theorem adn{n:Int}{l r:aD}(h:fP n l=eS):fP n (l++r)=eS:=by
 simp only[fP,vk]at*;rcases h with h|h
 ·left;rw[yW,h];rfl
 ·right;exact adm h
theorem aaf{n:Int}{r:aD}(h:0<i1 r):fP n (r.take 1)=decide (0<=r[0]/\r[0]<n):=by
 cases r with
 |nil=>simp at h
 |cons a t=>simp[fP,fO]
theorem aag{n:Int}{r:aD}{k:Nat}(h:k+1<i1 r):fP n (r.take (k+2))=(fP n (r.take (k+1))&&decide (0<=r[k+1]/\r[k+1]<n)&&decide (r[k]<r[k+1])):=by
 have a:r.take (k+2)=r.take (k+1)++[r[k+1]]:=aK r (k+1) h;have b:fO (r.take (k+2))=(fO (r.take (k+1))&&decide (r[k]<r[k+1])):=by rw[afE r k h,Ow,aK r k]
 simp only[fP,b];rw[a,yW];simp only[List.all_cons,List.all_nil,Bool.and_true]
 cases(r.take (k+1)).all λc=>decide (0<=c/\c<n)<;>cases fO (r.take (k+1))<;>cases decide (0<=r[k+1]/\r[k+1]<n)<;>simp
theorem Bo{n:Int}{r:aD}{k:Nat}(h:fP n (r.take k)=eS):fP n r=eS:=by rw[<-qE k r];exact adn h
theorem aah{n:Int}{r:aD}{k:Nat}(c:k<i1 r)(h:fP n (r.take k)=eR):
  (r[k]<0->fP n r=eS)/\(n<=r[k]->fP n r=eS)/\(∀(h0:0<k),r[k]<=r[k-1]->fP n r=eS)/\
  (0<=r[k]->r[k]<n->(∀h0:0<k,r[k-1]<r[k])->fP n (r.take (k+1))=eR):=by
 cases k with
 |zero=>
  have e:=aaf (n:=n) c;refine⟨λa=>Bo (k:=1) ?_,λa=>Bo (k:=1) ?_,λh0=>i5,λa b _=>?_⟩
  ·rw[e,ii i5]
  ·rw[e,ii i5]
  ·rw[e,hU ⟨a,b⟩]
 |succ k=>
  have e:=aag (n:=n) c;refine⟨λa=>Bo (k:=k+2) ?_,λa=>Bo (k:=k+2) ?_,λh0 a=>Bo (k:=k+2) ?_,λa b h3=>?_⟩
  ·rw[e,ii (p:=0<=r[k+1]/\r[k+1]<n) i5];simp
  ·rw[e,ii (p:=0<=r[k+1]/\r[k+1]<n) i5];simp
  ·rw[e,ii (p:=r[k]<r[k+1]) j7];simp
  ·have d:r[k]<r[k+1]:=by simpa using h3 i5
   rw[e,h,hU (p:=0<=r[k+1]/\r[k+1]<n) ⟨a,b⟩,hU d];rfl
def kh(n:Int)(a:cj):Bool:=decide (0<=n/\n<=64)&&a.all (fP n)
theorem afF{α:Type}{f:α->Bool}{l:List α}{k:Nat}(a:k<i1 l)(h:(l.take k).all f=eR):(l.take (k+1)).all f=f l[k]:=by rw[aK _ _ a,yW,h];simp
theorem ajC{α:Type}{f:α->Bool}{l:List α}{k:Nat}(a:k<i1 l)(h:f l[k]=eS):l.all f=eS:=by rw[List.all_eq_false];exact⟨l[k],qg a,sR⟩
theorem Qg{p:aC}(n:Int)(a:Sl)(b:cj)(rs:List Sl)(h:f9)(A:ia h p a 1 av b rs)(I:i1 b<=2^40)(m:∀l∈b,i1 l<=2^40):
  ac xB 327 #[xq xx n,a] h λv h'=>v=xv (kh n b)/\h'=h:=by
 refine NJ n a ?_;unfold GC;have D:=A.Te;refine bP (λ_ h'=>h'=h/\0<=n/\n<=64) ?_ ?_
 ·refine aj (λj=>⟨?_,i4⟩) (λj=>aj (λf=>⟨?_,i4⟩) λf=>⟨i4,i5,i5⟩)
  ·rw[kh,ii i5];rfl
  ·rw[kh,ii i5];rfl
 ·rintro _ h' ⟨rfl,q,u⟩;have y:kh n b=b.all (fP n):=by rw[kh,hU ⟨q,u⟩];rfl
  refine aA (λk:Nat=>(k:Int)) (λk h0=>h0=h'/\k<=i1 b/\(b.take k).all (fP n)=eR) (λk=>i1 b-k) 0 i4 ⟨i4,i5,jj⟩ ?_;rintro i h0 ⟨rfl,H,d⟩;refine aj (λw=>?_) (λo=>?_)
  ·have e:i<i1 b:=i5
   refine A.get i i4 e λr s _=>?_;have B:=s.len;have E:=m _ (qg e);have c:fP n b[i]=eS->kh n b=eS:=λG=>by rw[y];exact ajC e G
   refine aA (λk:Nat=>(k:Int)) (λk f=>f=h0/\k<=b[i].length/\fP n (b[i].take k)=eR) (λk=>b[i].length-k) 0 i4 ⟨i4,i5,by simp[fP,fO]⟩ ?_;rintro k f ⟨rfl,J,t⟩;refine aj (λw=>?_) (λo=>?_)
   ·have g:k<b[i].length:=i5
    obtain⟨n1,n2,F,x⟩:=aah g t;refine s.bG k i4 g _ i4 ?_;refine aj (λj=>⟨by rw[c (n1 j)],i4⟩) λj=>?_;refine aj (λf=>⟨by rw[c (n2 f)],i4⟩) λf=>?_;rw[ak (k+1),ak (k-1)];refine aj (λh3=>?_) (λh3=>?_)
    ·refine s.bG (k-1) i5 i5 _ i4 ?_;refine aj (λz=>⟨by rw[c (F i5 z)],i4⟩) λz=>?_;exact⟨k+1,jj,⟨i4,i5,x i5 i5 λ_=>i5⟩,i5⟩
    ·exact⟨k+1,jj,⟨i4,i5,x i5 i5 λ_=>i5⟩,i5⟩
   ·rw[qi i5]at t;rw[ak (i+1)];exact⟨i+1,jj,⟨i4,i5,by rw[afF e d,t]⟩,i5⟩
  ·rw[qi i5]at d;exact⟨by rw[y,d],i4⟩
theorem Ox{p:aC}(a:Sl)(c:List Bool)(x:Bool)(h:f9)(i:Seq h p a 1 fh c)(n:i1 c<=2^40):
  ac xB 348 #[a,xv x] h λv h'=>∃r:Int,v=xq xx r/\(0<=r↔x∈c)/\h'=h:=by
 refine uM a x ?_;unfold nF;have l:=i.len;refine aA (λk:Nat=>(k:Int)) (λk h'=>h'=h/\k<=i1 c/\x∉c.take k) (λk=>i1 c-k) 0 i4 ⟨i4,i5,jj⟩ ?_;rintro k h' ⟨rfl,o,f⟩;refine aj (λm=>?_) (λj=>?_)
 ·have b:k<i1 c:=i5
  refine i.bG k i4 b _ i4 ?_;refine bx (λg=>⟨_,i4,⟨λ_=>?_,λ_=>i5⟩,i4⟩) (λd=>?_)
  ·rw[eq_of_beq g];exact qg b
  ·rw[ak _];refine⟨k+1,jj,⟨i4,i5,?_⟩,i5⟩;rw[aK _ _ b];simp only[qz,qC,not_or];exact⟨f,λe=>by rw[e]at d;simp at d⟩
 ·rw[qi i5]at f;exact⟨_,i4,⟨λh=>i5,λh=>absurd h f⟩,i4⟩
theorem Ji{p:aC}(a:Sl)(b:List Bool)(x:Bool)(h:f9)(d:Seq h p a 1 fh b)(e:i1 b<=2^40):
  ac xB 328 #[a,xv x] h λv h'=>v=xv (decide (x∈b))/\h'=h:=by
 refine sv a x ?_;unfold mq;refine(Ox a b x h d e).mono ?_;rintro v h' ⟨r,rfl,c,rfl⟩;refine⟨r,i4,?_,i4⟩;exact congrArg Value.bool (decide_eq_decide.2 c)
theorem Xk{α:Type}{f:α->Bool}{l:List α}{k:Nat}(a:k<i1 l):(l.take (k+1)).filter f=if f l[k]then(l.take k).filter f++[l[k]]else(l.take k).filter f:=by rw[aK _ _ a,zl];by_cases h:f l[k]=eR<;>simp[h]
theorem Oy{p q:aC}(i:f7)(o r:Sl)(op:List Bool)(row:aD)(h:f9)(w:f8 h (i.add 1)=dB (xr o.ptr o.len o.cap))(u:Seq h p o 1 fh op)(m:Seq h q r 1 av row)
  (j:∀c∈row,0<=c/\c<i1 op) (z:i1 row<=2^40):
  ac xB 349 #[xt (dB i),r] h λv h'=>
   v=.tuple #[xq xx ((df op row).getLast?.getD 0),xv (i1 (df op row)==1)]/\h'=h:=by
 refine AY (dB i) r ?_;unfold oO;have s:=m.len;refine aA (λk:Nat=>((df op (row.take k)).getLast?.getD 0,(i1 (df op (row.take k)):Int),(k:Int))) (λk h'=>h'=h/\k<=i1 row) (λk=>i1 row-k) 0 i4 ⟨i4,i5⟩ ?_;rintro k h' ⟨rfl,A⟩;dsimp only;refine aj (λx=>?_) (λt=>?_)
 ·have d:k<i1 row:=i5
  have y:=j _ (qg d);refine m.bG k i4 d _ i4 ?_;refine⟨i,i4,o,w,?_⟩;have a:row[k].toNat<i1 op:=i5
  refine u.bG row[k].toNat i5 a _ i4 ?_;have b:kE op row[k]=op[row[k].toNat]:=by simp[kE,qe,qd a]
  have g:=Xk (f:=kE op) d;have n:i1 (df op (row.take k))<=i1 row:=zd (qQ _ _) pt;rw[ak (k+1),ak _];refine bx (λl=>?_) (λl=>?_)
  ·refine⟨k+1,?_,⟨i4,i5⟩,i5⟩;have e:df op (row.take (k+1))=df op (row.take k)++[row[k]]:=by rw[df,g,b,l];rfl
   simp[e]
  ·refine⟨k+1,?_,⟨i4,i5⟩,i5⟩;have e:df op (row.take (k+1))=df op (row.take k):=by rw[df,g,b,l];rfl
   simp[e]
 ·have e:row.take k=row:=qi i5;refine⟨?_,i4⟩;simp only[e];congr 4;congr 1;rw[vB];simp;omega
structure Cx (h:f9) (p:aC) (a:f7) (l o u:Sl) (rows:cj) (rs:List Sl) (op us:List Bool):Prop where
 c0:f8 h a=dB (xr l.ptr l.len l.cap)
 c1:f8 h (a.add 1)=dB (xr o.ptr o.len o.cap)
 c2:f8 h (a.add 2)=dB (xr u.ptr u.len u.cap)
 fY:p a.block
 sRows:ia h p l 1 av rows rs
 sOp:Seq h p o 1 fh op
 sUs:Seq h p u 1 fh us
 ulen:i1 us=i1 rows
 cW:∀r∈rows,∀c∈r,0<=c/\c<i1 op
 short:∀r∈rows,i1 r<=64
theorem Cx.ai{h h':f9}{p:aC}{a:f7}{l o u:Sl}{rows:cj}{rs:List Sl}{op us:List Bool}(c:Cx h p a l o u rows rs op us)(k:bc p h h'):Cx h' p a l o u rows rs op us:=by
 have b:∀n,(a.add n).block=a.block:=λn=>by unfold Addr.add;split<;>rfl
 exact⟨k.cell c.fY c.c0,k.cell (by rw[b];exact c.fY) c.c1,k.cell (by rw[b];exact c.fY) c.c2,c.fY,c.sRows.ai k,c.sOp.ai k,c.sUs.ai k,c.ulen,c.cW,c.short⟩
theorem SD{p:aC}(a:f7)(l o u:Sl)(rows:cj)(rs:List Sl)(op us:List Bool)(h:f9)(y:Cx h p a l o u rows rs op us)(M:i1 rows<=2^40):
  ac xB 329 #[xt (dB a)] h λv h'=>bc (λ_=>True) h h'/\
   v=match ng rows op us with
    |some i=>.tuple #[xw #[xq xx i,xq xx (fl rows op i)],xv eR]
    |none=>.tuple #[xw #[xq xx 0,xq xx 0],xv eS]:=by
 refine CZ (dB a) ?_;unfold rR;refine BN af i4 λb H O s d K=>?_;have f:=y.ai (d.mono λ_ _ _=>trivial);refine⟨a,i4,l,f.c0,?_⟩;have I:=y.sRows.Te;refine aA (λk:Nat=>(k:Int)) (λk h'=>h'=H/\k<=i1 rows/\∀j,j<k->nf rows op us j=eS) (λk=>i1 rows-k) 0 i4 ⟨i4,i5,λj n=>i5⟩ ?_;rintro k h' ⟨rfl,P,B⟩;refine aj (λL=>?_) (λG=>?_)
 ·have e:k<i1 rows:=i5
  refine f.sRows.get k i4 e λr J _=>?_;refine⟨a,i4,u,f.c2,?_⟩;refine f.sUs.bG k i4 (by rw[y.ulen];exact e) _ i4 ?_;have E:us.getD k eS=us[k]'(by rw[y.ulen];exact e):=by rw[qe,qd];rfl
  have q:rows.getD k []=rows[k]:=by rw[qe,qd e];rfl
  rw[ak _];refine bx (λx=>?_) (λx=>?_)
  ·refine⟨k+1,jj,⟨i4,i5,λj n=>?_⟩,i5⟩;rcases zo.1 n with n|rfl
   ·exact B j n
   ·simp only[nf,E,x];rfl
  ·refine(Oy a o r op rows[k] h' f.c1 f.sOp J (y.cW _ (qg e)) (zd (y.short _ (qg e)) i5)).mono ?_;rintro v N ⟨rfl,rfl⟩;refine⟨(_,_),i4,?_⟩;have m:nf rows op us k=(i1 (df op rows[k])==1):=by simp only[nf,E,x,q];rfl
   refine bx (λw=>?_) (λw=>?_)
   ·have g:nf rows op us k=eR:=m.trans w;refine Ex af s i4 _ i4 i4 i4 (qm _) λh3 c t z=>?_;refine⟨(_,_),c.aV _ i4,d.then t (λF D _=>i5),?_⟩;have A:fl rows op k=(df op rows[k]).getLast?.getD 0:=by unfold fl;rw[q]
    rw[ng,abM e B g];show _=Value.tuple #[xw #[xq xx k,xq xx (fl rows op k)],xv eR];rw[A];rfl
   ·have g:nf rows op us k=eS:=m.trans w;refine⟨k+1,jj,⟨i4,i5,λj n=>?_⟩,i5⟩;rcases zo.1 n with n|rfl
    ·exact B j n
    ·exact g
 ·refine Ex af s i4 _ i4 i4 i4 (qm _) λh3 c t z=>?_;refine⟨(_,_),c.aV _ i4,d.then t (λF D _=>i5),?_⟩;rw[ng,abL λj n=>B j i5]
theorem Mc{l:List Bool}{i:Nat}(h:i<i1 l):l.getD i eS=l[i]:=by rw[qe,qd h];rfl
theorem Yu(op:List Bool)(a:aD):∀k,-1<=jd op a k/\jd op a k<k
 |0=>by simp[jd]
 |k+1=>by
  have:=Yu op a k;unfold jd;split<;>omega
theorem SE{p:aC}(a:f7)(l o u:Sl)(rows:cj)(rs:List Sl)(op us:List Bool)(h:f9)(y:Cx h p a l o u rows rs op us)(hs:i1 rows<=2^30)(a6:i1 op<=2^30):
  ac xB 330 #[xt (dB a)] h λv h'=>bc (λ_=>True) h h'/\v=xq xx (ik rows op us):=by
 refine Da (dB a) ?_;unfold rS;refine⟨a,i4,o,y.c1,?_⟩;have a1:=y.sOp.len;refine Go.Vc.run_make (f:=av) af ⟨_,_,i4,i4,i4,i4,i4,i4⟩ i6 0 i4 i4 op.length op.length i5 i5 (qm _) i5 λs h1 L V a7 n a2=>?_;have T:=y.ai (n.mono λ_ _ _=>trivial);refine⟨a,i4,l,T.c0,?_⟩;have ay:=y.sRows.Te;have B:∀b,s.on b->b=h.size:=by rintro b ⟨o',J⟩;rw[V]at J;cases J;rfl
 have ap:∀k,i1 ((λ_ r=>r:Nat->aD->aD) k (rows.getD k []))<=64:=λk=>by
  show(rows.getD k []).length<=64;by_cases hk:k<i1 rows
  ·rw[qe,qd hk];exact y.short _ (qg hk)
  ·rw[qe,List.getElem?_eq_none i5];simp
 let d:=lU (λ_ r=>r) rows us (qh op.length 0);have N:∀k,i1 (d k)=i1 op:=λk=>by rw[EM];simp
 have W:∀k,∀x∈d k,0<=x/\x<=64*k:=λk x hx=>TP (λ_ r=>r) ap k x hx;refine aA (λk:Nat=>(k:Int)) (λk h'=>bc (λb=>b<h.size) h h'/\k<=i1 rows/\Own h' 3 s 1 av (d k)) (λk=>i1 rows-k) 0 i4 ⟨n.mono λ_ _ _=>trivial,i5,L⟩ ?_;rintro i Z ⟨E,hi,q⟩;have t:Cx Z p a l o u rows rs op us:=y.ai (E.mono λb e _=>e);refine aj (λP=>?_) (λG=>?_)
 ·have g:i<i1 rows:=i5
  have I:rows.getD i []=rows[i]:=by rw[qe,qd g];rfl
  have hu:us.getD i eS=us[i]'(by rw[y.ulen];exact g):=Mc _;refine t.sRows.get i i4 g λr hr X=>?_;have a5:=hr.len;have Q:=y.short _ (qg g);refine aA (λk:Nat=>(k:Int)) (λk h'=>bc (λb=>b<h.size) h h'/\k<=rows[i].length/\Own h' 3 s 1 av (if us.getD i eS then d i else kU (d i) (rows[i].take k))) (λk=>rows[i].length-k) 0 i4
   ⟨E,i5,by simpa[kU]using q⟩ ?_
  rintro j h3 ⟨z,hj,c⟩;have w:Cx h3 p a l o u rows rs op us:=y.ai (z.mono λb e _=>e);refine aj (λP=>?_) (λG=>?_)
  ·have D:j<rows[i].length:=i5
   have S:=w.sRows.row i r _ X (qd g);have hc:=y.cW _ (qg g) _ (qg D);refine S.bG j i4 D _ i4 ?_;refine⟨a,i4,u,w.c2,?_⟩;refine w.sUs.bG i i4 (by rw[y.ulen];exact g) _ i4 ?_;rw[ak (j+1)];refine bo (λe=>?_) (λe=>?_)
   ·rw[hu,e]at c;simp only[zj,if_false]at c;have O:i1 (kU (d i) (rows[i].take j))=i1 op:=by rw[FT,N]
    have m:rows[i][j].toNat<i1 (kU (d i) (rows[i].take j)):=by rw[O];omega
    have a3:=HN (r:=rows[i].take j) (W i) _ (qg m);have a0:i1 (rows[i].take j)<=64:=pt
    have ao:Seq h3 (λ_=>True) s 1 av (kU (d i) (rows[i].take j)):=c.seq (λ_=>rfl) λ_ _=>trivial;refine ao.bG rows[i][j].toNat i5 m _ i4 ?_;rw[ak _];refine c.set af (λ_=>rfl) i4 rows[i][j].toNat i5 m _ i4 i4 i4 λh4 F Y ar=>?_;refine⟨j+1,jj,⟨z.then Y (λb e _=>λab=>by have:=B b ab;omega),i5,?_⟩,i5⟩;rw[hu,e];simp only[zj,if_false];rw[aK _ _ D,Wq,getD_lt m];exact F
   ·refine⟨j+1,jj,⟨z,i5,?_⟩,i5⟩;rw[hu,e]at c⊢;exact c
  ·rw[ak (i+1)];rw[qi i5]at c;refine⟨i+1,jj,⟨z,i5,?_⟩,i5⟩;have:d (i+1)=if us.getD i eS then d i else kU (d i) rows[i]:=by show lU _ _ _ _ (i+1)=_;rw[lU];simp only[I];rfl
   rw[this];exact c
 ·have ad:i=i1 rows:=i5
  subst ad;refine⟨a,i4,o,t.c1,?_⟩;have M:Seq Z (λ_=>True) s 1 av (d rows.length):=q.seq (λ_=>rfl) λ_ _=>trivial;have ax:=N rows.length;refine aA (λk:Nat=>(jd op (d rows.length) k,(k:Int))) (λk h'=>h'=Z/\k<=i1 op) (λk=>i1 op-k) 0 i4 ⟨i4,i5⟩ ?_;rintro k h3 ⟨rfl,hk⟩;dsimp only;have a4:=Yu op (d rows.length) k;refine aj (λP=>?_) (λG=>?_)
  ·have H:k<i1 op:=i5
   refine t.sOp.bG k i4 H _ i4 ?_;rw[ak (k+1)];have A:op.getD k eS=op[k]:=Mc H;refine bx (λe=>?_) (λe=>?_)
   ·refine aj (λK=>?_) (λR=>?_)
    ·refine⟨k+1,?_,⟨i4,i5⟩,i5⟩;rw[jd,g0 (by rw[A,e,hU K];rfl)];rfl
    ·refine M.bG k i4 i5 _ i4 ?_;refine M.bG (jd op (d rows.length) k).toNat i5 i5 _ i4 ?_;have e1:(d rows.length).getD k 0=(d rows.length)[k]:=getD_lt;have e2:(d rows.length).getD (jd op (d rows.length) k).toNat 0=(d rows.length)[(jd op (d rows.length) k).toNat]:=getD_lt;refine aj (λU=>?_) (λam=>?_)
     ·refine⟨k+1,?_,⟨i4,i5⟩,i5⟩;rw[jd,g0 (by rw[A,e,e1,e2,hU U];simp)];rfl
     ·refine⟨k+1,?_,⟨i4,i5⟩,i5⟩;rw[jd,g9 (by rw[A,e,e1,e2,ii am,ii R];simp)];rfl
   ·refine⟨k+1,?_,⟨i4,i5⟩,i5⟩;rw[jd,g9 (by rw[A,e];simp)];rfl
  ·have ah:k=i1 op:=i5
   subst ah;exact⟨E.mono λb e _=>e,i4⟩
def fQ(p:Int×Int):bh:=[xq xx p.1,xq xx p.2]
theorem afG:∀x,∀c∈fQ x,c.oneCell'=eR:=by intro x c a;simp only[fQ,zb,List.not_mem_nil,or_false]at a;rcases a with rfl|rfl<;>rfl
def FC(n:Int)(rows:cj):List (Int×Int)×aD×aD:=
 if kh n rows then((dM n.toNat rows).steps,(dM n.toNat rows).dead,fK (dM n.toNat rows).used rows.length)else([],[],[])
def ajD(b h:f9)(v:Value)(ok:Bool)(c:List (Int×Int))(e a:aD):Prop:=
 ∃s d f:Sl,v=.tuple #[xw #[s,d,f],xv ok]/\
  Sp b h [an 357 s 2 fQ c,an 3 d 1 av e,an 3 f 1 av a]
theorem aia{α β γ:Type}{q h:f9}{c:Nat->Nat}{w s u l t k:Nat}{r:α->bh}{o:β->bh}{m:γ->bh}{j p n:Sl}{l1:List α}{l2:List β}{g:List γ}(v:np q h c)(e:dQ h c 6 w j l r l1)(f:dQ h c 7 s p t o l2)(a3:dQ h c 8 u n k m g):
  Sp q h [an w j l r l1,an s p t o l2,an u n k m g]:=by
 refine⟨λ_ h=>h,v.ai,λb=>c b-5,λb a=>?_,λi A d=>?_⟩
 ·have:=v.bA b a;dsimp only;omega
 ·match i,d with
  |0,d=>simp at d;subst d;exact⟨e.own,λb a=>⟨e.own.lt a,by have:=e.bA b a;dsimp only;omega⟩⟩
  |1,d=>simp at d;subst d;exact⟨f.own,λb a=>⟨f.own.lt a,by have:=f.bA b a;dsimp only;omega⟩⟩
  |2,d=>simp at d;subst d;exact⟨a3.own,λb a=>⟨a3.own.lt a,by have:=a3.bA b a;dsimp only;omega⟩⟩
  |i+3,d=>simp at d
theorem aib{n:Int}{rows:cj}(h:kh n rows=eR):0<=n/\n<=64/\∀r∈rows,fP n r=eR:=by simp only[kh,qB,decide_eq_true_eq,qZ]at h;exact⟨h.1.1,h.1.2,h.2⟩
theorem Md{n:Int}{r:aD}(h:fP n r=eR):∀c∈r,0<=c/\c<n:=by simp only[fP,qB,qZ,decide_eq_true_eq]at h;exact h.1
theorem Rx:∀{r:aD} {a n:Int},fO r=eR->(∀c∈r,a<=c/\c<n)->(i1 r:Int)<=max 0 (n-a)
 |[],a,n,_,_=>i9
 |[x],a,n,_,h=>by have:=h x jj;simp;omega
 |x::y::t,a,n,hr,h=>by
  simp only[fO,qB,decide_eq_true_eq]at hr;have g:=h x jj;have f:=h y jj;have d:∀(l:aD) (z:Int),fO (z::l)=eR->∀c∈l,z<c:=by
   intro l
   induction l with
   |nil=>intro z _ c b;simp at b
   |cons w t ih=>
    intro z e c b;simp only[fO,qB,decide_eq_true_eq]at e;rcases zb.1 b with rfl|b
    ·exact e.1
    ·have:=ih w e.2 c b;omega
  have:=Rx (r:=y::t) (a:=x+1) (n:=n) hr.2 λc b=>⟨by
   rcases zb.1 b with rfl|b
   ·omega
   ·have:=d t y hr.2 c b;omega,(h c (by simp only[zb]at b⊢;exact .inr b)).2⟩
  simp only[List.length_cons]at this⊢;omega
theorem ado{n:Int}{r:aD}(h:fP n r=eR)(c:n<=64):i1 r<=64:=by have b:=Md h;simp only[fP,qB]at h;have:=Rx (a:=0) h.2 b;omega
theorem afH(n k:Nat)(h:k<n):(qh k eR++qh (n-k) eS).set k eR=qh (k+1) eR++qh (n-(k+1)) eS:=by
 have e:n-k=(n-(k+1))+1:=i5
 rw[qV _ _ jj,e,yi];simp only[List.length_replicate,zc,zq];rw[List.replicate_succ' (n:=k)];simp
theorem Vv{h f:f9}{c:Nat->Nat}{a:f7}{l o u:Sl}{rows:cj}{rs:List Sl}{op us:List Bool}(n:ia f (λb=>b<f.size) l 1 av rows rs)(k:np f h c)(e:lp h c 2 a 399 [l,o,u])
  (p:dQ h c 3 4 o 1 fh op) (m:dQ h c 4 4 u 1 fh us) (i:i1 us=i1 rows) (q:i1 op<=64) (j:∀r∈rows,fP op.length r=eR):Cx h (λb=>b<h.size) a l o u rows rs op us:=
 ⟨e.box.cell0 i4,e.box.cell i4,e.box.cell i4,e.box.lt,(n.ai k.ai).mono λb g=>qR g k.ai.1,p.YN λ_=>rfl,m.YN λ_=>rfl,i,λr d=>Md (j r d),λr d=>ado (j r d) i5⟩
theorem adp(n:Int)(l:Sl)(rows:cj)(rs:List Sl)(h:f9)(hl:ia h (λb=>b<h.size) l 1 av rows rs)(hs:i1 rows<=2^30)(d1:∀r∈rows,i1 r<=2^40):
  ac xB 281 #[xq xx n,l] h λv h'=>ajD h h' v (kh n rows) (FC n rows).1 (FC n rows).2.1 (FC n rows).2.2:=by
 refine PL n l ?_;unfold Iy;have eo:=hl.Te;refine ww af (np.refl h) 1 i4 λa1 h1 b6 dr=>?_;have E:=(np.refl h).keep (m:=1) dr i6;refine(Qg n l rows rs h1 (hl.ai E.ai) i5 d1).mono ?_;rintro v h2 ⟨rfl,rfl⟩;refine⟨_,i4,?_⟩;refine bo (λhr=>?_) (λhr=>?_)
 ·refine b6.kj af i4 _ i4 i4 i4 (qm _) λh3 am B=>?_;refine⟨(⟨eH,0,0⟩,⟨eH,0,0⟩,⟨eH,0,0⟩),am.box.aV _ i4,?_⟩;refine⟨⟨eH,0,0⟩,⟨eH,0,0⟩,⟨eH,0,0⟩,by rw[hr],?_⟩;simp only[FC,hr,zj,if_false];exact(((Sp.zip (E.keep (m:=1) B i6).ai).nil 357 2 fQ).nil 3 1 av).nil 3 1 av
 ·obtain⟨et,ew,cd⟩:=aib hr;obtain⟨N,rfl⟩:∃N:Nat,n=N:=⟨n.toNat,i5⟩
  have hN:N<=64:=i5
  refine bP (λs h'=>∃c a o u,s=dB a/\np h h' c/\lp h' c 1 a1 293 [xr eH 0 0,xr eH 0 0,xr eH 0 0]/\lp h' c 2 a 399 [l,xr o.ptr o.len o.cap,xr u.ptr u.len u.cap]/\
   dQ h' c 3 4 o 1 fh (qh N eS)/\dQ h' c 4 4 u 1 fh (qh rows.length eS)) ⟨?_,?_⟩ ?_
  ·refine BO af E 3 fh ⟨_,_,i4,i4,i4,i4,i4,i4⟩ i6 eS i4 i4 N i4 i4 i5 λo h3 ho B=>?_;refine⟨trivial,?_⟩;refine BO af (E.keep (m:=3) B i6) 4 fh ⟨_,_,i4,i4,i4,i4,i4,i4⟩ i6 eS i4 i4 rows.length i5 i5 i5 λu h4 hu G=>?_;refine⟨trivial,?_⟩;refine Th _ ((E.keep (m:=3) B i6).keep (m:=4) G i6) 2 λa h5 ha A=>?_;exact⟨trivial,_,a,o,u,i4,((E.keep B i6).keep G i6).keep A i6,((b6.keep B i6).keep G i6).keep A i6,ha,(ho.keep G i6).keep A i6,hu.keep A i6⟩
  ·refine BO af E 4 fh ⟨_,_,i4,i4,i4,i4,i4,i4⟩ i6 eS i4 i4 rows.length i5 i5 i5 λu h3 hu B=>?_;refine⟨trivial,?_⟩;refine BO af (E.keep (m:=4) B i6) 3 fh ⟨_,_,i4,i4,i4,i4,i4,i4⟩ i6 eS i4 i4 N i4 i4 i5 λo h4 ho G=>?_;refine⟨trivial,?_⟩;refine Th _ ((E.keep (m:=4) B i6).keep (m:=3) G i6) 2 λa h5 ha A=>?_;exact⟨trivial,_,a,o,u,i4,((E.keep B i6).keep G i6).keep A i6,((b6.keep B i6).keep G i6).keep A i6,ha,ho.keep A i6,(hu.keep G i6).keep A i6⟩
  ·rintro s h3 ⟨c,a,o,u,rfl,cs,a8,am,ad,cl⟩;refine⟨a,i4,o,am.box.cell i4,?_⟩;have es:o.len=N:=by rw[ad.own.len];simp
   refine aA (λt:Nat×(Nat->Nat)=>(t.1:Int)) (λt h'=>t.1<=N/\np h h' t.2/\lp h' t.2 1 a1 293 [xr eH 0 0,xr eH 0 0,xr eH 0 0]/\lp h' t.2 2 a 399 [l,o,u]/\
    dQ h' t.2 3 4 o 1 fh (qh t.1 eR++qh (N-t.1) eS)/\dQ h' t.2 4 4 u 1 fh (qh rows.length eS)) (λt=>N-t.1) (0,c) i4 ⟨jj,cs,a8,am,by simpa using ad,cl⟩ ?_
   rintro⟨k,c⟩ h4 ⟨hk,a9,cc,bb,bq,br⟩;dsimp only at*;refine aj (λeh=>?_) (λda=>?_)
   ·have dk:k<N:=i5
    refine⟨a,i4,o,bb.box.cell i4,?_⟩;refine bq.set af (λ_=>rfl) i4 k i4 i9 eR i4 i4 i4 λh5 bl A=>?_;rw[ak _];rw[afH _ _ dk]at bl;exact⟨(k+1,_),jj,⟨i9,a9.keep A i6,cc.keep A i6,bb.keep A i6,bl,br.keep A i6⟩,i9⟩
   ·have du:k=N:=i5
    subst du;simp only[zc,vx,qN]at bq;refine ww af a9 5 i4 λap h5 ea A=>?_;have eb:=a9.keep (m:=5) A i6;have d9:=cc.keep (m:=5) A i6;have d2:=bb.keep (m:=5) A i6;have bl:=bq.keep (m:=5) A i6;have ec:=br.keep (m:=5) A i6;clear a9 cc bb bq br cs a8 am ad cl;generalize grow c h4.size 5=c5 at*;refine aA (τ:=Nat×List Bool×List Bool×(List (Int×Int))×aD×(Nat->Nat)×Sl×Sl) (λ_=>())
     (λ⟨f,op,us,st,dd,c,ss,ds⟩ h'=>i1 op=k/\us.length=i1 rows/\op.count eR<=f/\f<=k/\st.length<=k-f/\dd.length<=k-f/\
      (∃r,cH rows f op us=r/\dM k rows=⟨st++r.steps,dd++r.dead,r.used⟩)/\np h h' c/\
      lp h' c 1 a1 293 [xr eH 0 0,xr eH 0 0,xr eH 0 0]/\lp h' c 2 a 399 [l,o,u]/\
      dQ h' c 3 4 o 1 fh op/\dQ h' c 4 4 u 1 fh us/\
      lp h' c 5 ap 293 [ss,ds,xr eH 0 0]/\dQ h' c 6 357 ss 2 fQ st/\dQ h' c 7 3 ds 1 av dd)
     (λt=>t.1) (k,qh k eR,qh rows.length eS,[],[],c5,⟨eH,0,0⟩,⟨eH,0,0⟩) i4
     ⟨jj,jj,jj,jj,jj,jj,⟨_,i4,by simp[dM]⟩,eb,d9,d2,bl,ec,ea,dQ.nil _ _ _ _ _ _,dQ.nil _ _ _ _ _ _⟩ ?_
    rintro⟨f,op,us,st,dd,c,ss,ds⟩ h6 ⟨ah,J,el,er,ei,ej,⟨r,ay,bk⟩,K,ar,T,ab,O,I,L,M⟩;dsimp only at*;have H:∀r∈rows,fP op.length r=eR:=by rw[ah];exact cd
    have a7:=Vv hl K T ab O J i5 H;refine⟨a,i4,o,T.box.cell i4,?_⟩;refine(Ji o op eR h6 (ab.YN λ_=>rfl) i5).mono ?_;rintro v h7 ⟨rfl,rfl⟩;refine⟨_,i4,?_⟩;refine bo (λhc=>?_) (λhc=>?_)
    ·have Z:op.contains eR=eS:=by simpa using hc
     have a8:r=⟨[],[],us⟩:=by rw[<-ay];exact BY Z f
     subst a8;simp only[qN]at bk;refine⟨a,i4,u,T.box.cell i4,?_⟩;have e0:u.len=i1 rows:=by rw[O.own.len,J]
     refine aA (λt:Nat×(Nat->Nat)×Sl=>(t.1:Int)) (λ⟨j,c,fs⟩ h'=>j<=i1 rows/\np h h' c/\
      lp h' c 1 a1 293 [xr eH 0 0,xr eH 0 0,xr eH 0 0]/\dQ h' c 4 4 u 1 fh us/\
      lp h' c 5 ap 293 [ss,ds,fs]/\dQ h' c 6 357 ss 2 fQ st/\dQ h' c 7 3 ds 1 av dd/\dQ h' c 8 3 fs 1 av (fK us j)) (λt=>i1 rows-t.1) (0,c,⟨eH,0,0⟩) i4
      ⟨jj,K,ar,O,I,L,M,dQ.nil _ _ _ _ _ _⟩ ?_
     rintro⟨j,c,fs⟩ h8 ⟨hj,bd,b0,b1,V,a0,ao,a5⟩;dsimp only at*;refine aj (λeh=>?_) (λda=>?_)
     ·have en:j<i1 rows:=i5
      have eq:i1 (fK us j)<=j:=JQ us j;refine(b1.YN λ_=>rfl).bG j i4 i5 _ i4 ?_;have c0:us.getD j eS=us[j]:=Mc i5;rw[ak _];refine bo (λhb=>?_) (λhb=>?_)
      ·refine⟨fs,V.box.cell i4,?_⟩;refine Lf af bd 9 av ⟨_,_,i4,i4,i4,i4,i4,i4⟩ i4 [(j:Int)] i4 (zL i4) i4 λv h9 d4 p=>?_;refine(a5.keep (m:=9) p i6).append af ⟨_,_,i4,i4,i4,i4,i4,i4⟩ ⟨_,_,i4,i4⟩ i4 i6 (λ_=>rfl) (d4.seq λ_=>rfl) fD i9 λdy b3 b4 g=>?_;refine((V.keep (m:=9) p i6).keep (m:=8) g i6).store af i4 2 _ i4 i4 i4 (zL i4) λc2 cf d=>?_;refine⟨(j+1,_,dy),jj,⟨i9,((bd.keep p i6).keep g i6).keep d i6,((b0.keep p i6).keep g i6).keep d i6,((b1.keep p i6).keep g i6).keep d i6,cf,
        ((a0.keep p i6).keep g i6).keep d i6,((ao.keep p i6).keep g i6).keep d i6,?_⟩,i9⟩
       have e:fK us (j+1)=fK us j++[(j:Int)]:=by rw[fK,c0,hb];rfl
       rw[e];exact b4.keep d i6
      ·have e:fK us (j+1)=fK us j:=by rw[fK,c0,hb];rfl
       exact⟨(j+1,c,fs),jj,⟨i9,bd,b0,b1,V,a0,ao,by rw[e];exact a5⟩,i9⟩
     ·have c8:j=i1 rows:=i5
      subst c8;refine⟨(ss,ds,fs),V.box.aV _ i4,?_⟩;refine b0.kj af i4 _ i4 i4 i4 (qm _) λh9 eg p=>?_;refine⟨(ss,ds,fs),eg.box.aV _ i4,?_⟩;refine⟨ss,ds,fs,by rw[hr],?_⟩;simp only[FC,hr,if_true,ql,bk];exact aia (bd.keep (m:=1) p i6) (a0.keep (m:=1) p i6) (ao.keep (m:=1) p i6) (a5.keep (m:=1) p i6)
    ·have Z:op.contains eR=eR:=by simpa using hc
     obtain⟨f',rfl⟩:∃f',f=f'+1:=by obtain⟨j,hj,e⟩:=HO Z;have:=ly e;exact⟨f-1,i5⟩
     refine bi ?_;refine(SD a l o u rows rs op us h7 a7 i5).mono ?_;rintro v h8 ⟨z,rfl⟩;have z:=z.bA c 9;cases hst:ng rows op us with
     |some i=>
      obtain⟨hi,d5⟩:=xJ hst;obtain⟨ep,dx,ad⟩:=EN d5;have cq:rows.getD i []=rows[i]:=by rw[qe,qd hi];rfl
      have ek:=Md (H _ (qg hi)) _ (cq▸dx);refine⟨((i,fl rows op i),eR),i4,?_⟩;dsimp only;refine ww af (K.keep (m:=9) z i6) 9 i4 λax h9 has p=>?_;refine has.kj af i4 _ i4 i4 i4 (qm _) λb3 R g=>?_;refine Hd i4 ?_;have F:=((K.keep (m:=9) z i6).keep (m:=9) p i6).keep (m:=9) g i6;have a4:=((ar.keep (m:=9) z i6).keep (m:=9) p i6).keep (m:=9) g i6;have X:=((T.keep (m:=9) z i6).keep (m:=9) p i6).keep (m:=9) g i6;have Y:=((ab.keep (m:=9) z i6).keep (m:=9) p i6).keep (m:=9) g i6;have W:=((O.keep (m:=9) z i6).keep (m:=9) p i6).keep (m:=9) g i6;have D:=((I.keep (m:=9) z i6).keep (m:=9) p i6).keep (m:=9) g i6;have Q:=((L.keep (m:=9) z i6).keep (m:=9) p i6).keep (m:=9) g i6;have P:=((M.keep (m:=9) z i6).keep (m:=9) p i6).keep (m:=9) g i6;clear K ar T ab O I L M z p has a7;generalize grow (grow (grow c h7.size 9) h8.size 9) h9.size 9=c10 at*;refine⟨ss,D.box.cell0 i4,(_,_),R.box.aV _ i4,?_⟩;dsimp only;refine Lf af F 10 fQ ⟨_,_,i4,i4,i4,i4,i4,i4⟩ i4 [((i:Int),fl rows op i)] i4 (zL i4) i4 λv c2 cp d=>?_;refine(Q.keep (m:=10) d i6).append af ⟨_,_,i4,i4,i4,i4,i4,i4⟩ ⟨_,_,i4,i4⟩ i4 i6 (λ_=>rfl) (cp.seq λ_=>rfl) afG i9 λd7 d8 b9 q=>?_;refine((D.keep (m:=10) d i6).keep (m:=6) q i6).kj af i4 _ i4 i4 i4 (zL i4) λef b5 x=>?_;have S:=((R.keep (m:=10) d i6).keep (m:=6) q i6).keep (m:=5) x i6;have a2:=((X.keep (m:=10) d i6).keep (m:=6) q i6).keep (m:=5) x i6;have c4:=((W.keep (m:=10) d i6).keep (m:=6) q i6).keep (m:=5) x i6;have c6:=((Y.keep (m:=10) d i6).keep (m:=6) q i6).keep (m:=5) x i6;refine⟨a,i4,u,a2.box.cell i4,(i:Int),S.box.cell0 i4,a,i4,o,a2.box.cell i4,fl rows op i,S.box.cell i4,?_⟩;refine c4.set af (λ_=>rfl) i4 i i4 i5 eR i4 i4 i4 λd6 cn y=>?_;have a6:=S.keep (m:=4) y i6;have U:=a2.keep (m:=4) y i6;refine⟨⟨a6.box.cell i4,trivial⟩,?_⟩;refine(c6.keep (m:=4) y i6).set af (λ_=>rfl) i4 (fl rows op i).toNat i5 i5 eS i4 i4 i4 λc9 a3 w=>?_;have dp:=a6.keep (m:=3) w i6;have c1:=U.keep (m:=3) w i6;refine⟨trivial,?_⟩;have ed:=ly (op:=op) (j:=(fl rows op i).toNat) ad;rw[pC Z hst]at ay;refine⟨(f',op.set (fl rows op i).toNat eS,us.set i eR,st++[((i:Int),fl rows op i)],dd,_,d7,ds),i4,⟨by simp[ah],by simp[J],i7,i7,i9,i7,⟨_,i4,?_⟩,
       ((((F.keep d i6).keep q i6).keep x i6).keep y i6).keep w i6,
       ((((a4.keep d i6).keep q i6).keep x i6).keep y i6).keep w i6,
       c1,a3,cn.keep w i6,(b5.keep y i6).keep w i6,((b9.keep x i6).keep y i6).keep w i6,
       ((((P.keep d i6).keep q i6).keep x i6).keep y i6).keep w i6⟩,i7⟩
      rw[bk,<-ay];simp
     |none=>
      have d3:=ui (rows:=rows) (us:=us) Z;refine⟨((0,0),eS),i4,?_⟩;dsimp only;refine ww af (K.keep (m:=9) z i6) 9 i4 λax h9 has p=>?_;refine has.kj af i4 _ i4 i4 i4 (qm _) λb3 R g=>?_;refine Ak i4 ?_;have F:=((K.keep (m:=9) z i6).keep (m:=9) p i6).keep (m:=9) g i6;have a4:=((ar.keep (m:=9) z i6).keep (m:=9) p i6).keep (m:=9) g i6;have X:=((T.keep (m:=9) z i6).keep (m:=9) p i6).keep (m:=9) g i6;have Y:=((ab.keep (m:=9) z i6).keep (m:=9) p i6).keep (m:=9) g i6;have W:=((O.keep (m:=9) z i6).keep (m:=9) p i6).keep (m:=9) g i6;have D:=((I.keep (m:=9) z i6).keep (m:=9) p i6).keep (m:=9) g i6;have Q:=((L.keep (m:=9) z i6).keep (m:=9) p i6).keep (m:=9) g i6;have P:=((M.keep (m:=9) z i6).keep (m:=9) p i6).keep (m:=9) g i6;clear K ar T ab O I L M z p has a7;generalize grow (grow (grow c h7.size 9) h8.size 9) h9.size 9=c10 at*;have a7:=Vv hl F X Y W J i5 H;refine(SE a l o u rows rs op us b3 a7 i5 i5).mono ?_;rintro v c2 ⟨d,rfl⟩;have d:=d.bA c10 9;refine⟨_,i4,?_⟩;refine⟨ds,(D.keep (m:=9) d i6).box.cell i4,?_⟩;refine Lf af (F.keep (m:=9) d i6) 10 av ⟨_,_,i4,i4,i4,i4,i4,i4⟩ i4 [ik rows op us] i4 (zL i4) i4 λv d8 cr q=>?_;refine((P.keep (m:=9) d i6).keep (m:=10) q i6).append af ⟨_,_,i4,i4,i4,i4,i4,i4⟩ ⟨_,_,i4,i4⟩ i4 i6 (λ_=>rfl) (cr.seq λ_=>rfl) fD i9 λd0 ef b7 x=>?_;refine(((D.keep (m:=9) d i6).keep (m:=10) q i6).keep (m:=7) x i6).store af i4 1 _ i4 i4 i4 (zL i4) λd6 b2 y=>?_;have U:=(((X.keep (m:=9) d i6).keep (m:=10) q i6).keep (m:=7) x i6).keep (m:=5) y i6;have c7:=(((Y.keep (m:=9) d i6).keep (m:=10) q i6).keep (m:=7) x i6).keep (m:=5) y i6;refine⟨a,i4,o,U.box.cell i4,?_⟩;refine c7.set af (λ_=>rfl) i4 (ik rows op us).toNat i5 i5 eS i4 i4 i4 λc9 a3 w=>?_;have ed:=ly (op:=op) (j:=(ik rows op us).toNat) d3.2.2;rw[pD Z hst]at ay;refine⟨(f',op.set (ik rows op us).toNat eS,us,st,dd++[ik rows op us],_,ss,d0),i4,⟨by simp[ah],J,i7,i7,i7,i9,⟨_,i4,?_⟩,
       ((((F.keep d i6).keep q i6).keep x i6).keep y i6).keep w i6,
       ((((a4.keep d i6).keep q i6).keep x i6).keep y i6).keep w i6,
       U.keep w i6,a3,((((W.keep d i6).keep q i6).keep x i6).keep y i6).keep w i6,b2.keep w i6,
       ((((Q.keep d i6).keep q i6).keep x i6).keep y i6).keep w i6,
       (b7.keep y i6).keep w i6⟩,i7⟩
      rw[bk,<-ay];simp
theorem Oz(pool:List (Sl×Row))(d:(⟨eH,0,0⟩,[])∈pool)(n:Nat):iz pool id (qh n ⟨eH,0,0⟩) (qh n []):=
 ⟨jj,λi r l a b=>by
  rw[wh]at a b;split at a
  ·rename_i c;rw[g0 c]at b;cases a;cases b;exact d
  ·cases a⟩
theorem aa.aic{B:aC}{b h:f9}{As:List HP}(H:aa B b h As)(i:Nat){pool:List (Sl×Row)}(c:As[i]?=dB (lM pool)):aa B b h (As.set i (lM ((⟨eH,0,0⟩,[])::pool))):=
 H.fZ i c λq d x a=>by
  rcases zb.1 a with rfl|a
  ·exact Seq.nil _ _ _ _ _ _
  ·exact d x a
structure aai (h:f9) (f:f7) (r st dd lf:Sl) (rr:List (Sl×Sl)) (R:List ft) (ST:List (Int×Int)) (D L:aD):Prop where
 field:fN h f
 rest:oD jO 2 qv h r rr R
 steps:Rd h st 2 fQ ST
 dead:Rd h dd 1 av D
 left:Rd h lf 1 av L
abbrev SA(s:f7)(a:bh):HP:=au s 295 a
abbrev HA(s:Sl)(rs:List Sl):HP:=an 71 s 1 bv rs
abbrev RA(s:Sl)(l:Row):HP:=an 5 s 1 aF l
theorem Ry{R:cj}:∀{l1 l2:List (Int×Int)} {D:Int->Prop},uk R D (l1++l2)->uk R D l1/\uk R (λx=>D x∨∃i,(i,x)∈l1) l2
 |[],l2,D,h=>⟨trivial,by
  have:(λx=>D x∨∃i,(i,x)∈([]:List (Int×Int)))=D:=by funext x;simp
  rw[this];exact h⟩
 |(i,c)::l1,l2,D,h=>by
  obtain⟨a,b,f,d,e⟩:=h;obtain⟨g,k⟩:=Ry e;refine⟨⟨a,b,f,d,g⟩,?_⟩;have:(λx=>D x∨∃j,(j,x)∈(i,c)::l1)=λx=>(D x∨x=c)∨∃j,(j,x)∈l1:=by
   funext x;simp only[zb,Prod.mk.injEq,eq_iff_iff];constructor
   ·rintro(h|⟨j,⟨_,h⟩|h⟩)
    ·exact .inl (.inl h)
    ·exact .inl (.inr h)
    ·exact .inr ⟨j,h⟩
   ·rintro((h|h)|⟨j,h⟩)
    ·exact .inl h
    ·exact .inr ⟨i,.inl ⟨i4,h⟩⟩
    ·exact .inr ⟨j,.inr h⟩
  rw[this];exact k
section
variable {B:aC} {h0 h:f9} {As:List HP}
theorem Xl(s f:f7)(p:Int×Int×Int)(v r V W Y N P:Sl)(n:Nat)(pool:List (Sl×Row))(H:aa B h0 h (SA s (gG f p v r V W Y N P)::lM pool::As))(l:v.len=n)(hn:n<=64){K:Unit->f9->Prop}
  (R:∀j d h',j.len=n->d.len=n->aa B h0 h' (SA s (gG f p v r V W Y j d)::HA j (qh n ⟨eH,0,0⟩)::HA d (qh n ⟨eH,0,0⟩)::lM pool::As)->K () h'):(λ(c:aM) (Q:Unit->f9->Prop)=>
 ∃a3:f7,(c=dB a3)/\
 ∃b:Sl,f8 h (a3.add 4)=dB (xr b.ptr b.len b.cap)/\
 ∃a5:f7,(c=dB a5)/\
 ∃a:Sl,f8 h (a5.add 4)=dB (xr a.ptr a.len a.cap)/\
 (aB xB (qF 56 (xq xx ((b.len:Nat):Int)) (xq xx ((b.len:Nat):Int))) (.one (.sc .slc)) h λy D=>
 (az.ok [(a5.add 4,(xr a.ptr a.len a.cap)),(a3.add 4,(xr b.ptr b.len b.cap))] D)/\
 ∃O:f7,(c=dB O)/\
 (aB xB (qF 56 (xq xx ((a.len:Nat):Int)) (xq xx ((a.len:Nat):Int))) (.one (.sc .slc)) D λv9 I=>
 (az.ok [(a5.add 4,(xr a.ptr a.len a.cap)),(a3.add 4,(xr b.ptr b.len b.cap))] I)/\
 ag xB (qf 56 (xt (dB (O.add 9))) (xr y.ptr y.len y.cap)) I λ_ h3=>
 (az.ok [] h3)/\
 ∃J:f7,(c=dB J)/\
 ag xB (qf 56 (xt (dB (J.add 10))) (xr v9.ptr v9.len v9.cap)) h3 λ_ q=>
 (az.ok [] q)/\
 Q () q)/\(ag xB (qf 56 (xt (dB (O.add 9))) (xr y.ptr y.len y.cap)) D λ_ X=>
 (az.ok [] X)/\
 aB xB (qF 56 (xq xx ((a.len:Nat):Int)) (xq xx ((a.len:Nat):Int))) (.one (.sc .slc)) X λw T=>
 (az.ok [] T)/\
 ∃L:f7,(c=dB L)/\
 ag xB (qf 56 (xt (dB (L.add 10))) (xr w.ptr w.len w.cap)) T λ_ U=>
 (az.ok [] U)/\
 Q () U))/\(aB xB (qF 56 (xq xx ((a.len:Nat):Int)) (xq xx ((a.len:Nat):Int))) (.one (.sc .slc)) h λu h8=>
 (az.ok [(a5.add 4,(xr a.ptr a.len a.cap)),(a3.add 4,(xr b.ptr b.len b.cap))] h8)/\
 aB xB (qF 56 (xq xx ((b.len:Nat):Int)) (xq xx ((b.len:Nat):Int))) (.one (.sc .slc)) h8 λt h9=>
 (az.ok [(a5.add 4,(xr a.ptr a.len a.cap)),(a3.add 4,(xr b.ptr b.len b.cap))] h9)/\
 ∃z:f7,(c=dB z)/\
 ag xB (qf 56 (xt (dB (z.add 9))) (xr t.ptr t.len t.cap)) h9 λ_ M=>
 (az.ok [] M)/\
 ∃A:f7,(c=dB A)/\
 ag xB (qf 56 (xt (dB (A.add 10))) (xr u.ptr u.len u.cap)) M λ_ E=>
 (az.ok [] E)/\
 Q () E)) (dB s) K:=by
 have Z:=H.box 0 i4;refine⟨s,i4,v,Z.cell i4,s,i4,v,Z.cell i4,?_,?_⟩
 ·refine H.make af bv fM i6 ⟨eH,0,0⟩ i4 i4 n n n8 n8 (qm _) i5 λj D o S m=>?_;have m:=m.bB;have k:=m.box 1 i4;refine⟨⟨k.cell i4,k.cell i4,trivial⟩,s,i4,?_,?_⟩
  ·refine m.make af bv fM i6 ⟨eH,0,0⟩ i4 i4 n n n8 n8 (qm _) i5 λd I i F g=>?_;have g:=g.bB;have e:=g.box 2 i4;refine⟨⟨e.cell i4,e.cell i4,trivial⟩,?_⟩;refine g.store af 2 i4 i4 9 [j] i4 i4 i4 nq λh3 x=>⟨trivial,s,i4,?_⟩
   refine x.store af 2 i4 i4 10 [d] i4 i4 i4 nq λq G=>⟨trivial,?_⟩
   exact R j d q o i (G.aX 4 [2,1,0,3])
  ·refine m.store af 1 i4 i4 9 [j] i4 i4 i4 nq λI g=>⟨trivial,?_⟩
   refine g.make af bv fM i6 ⟨eH,0,0⟩ i4 i4 n n n8 n8 (qm _) i5 λd h3 i F x=>⟨trivial,s,i4,?_⟩
   have x:=x.bB;refine x.store af 2 i4 i4 10 [d] i4 i4 i4 nq λq G=>⟨trivial,?_⟩
   exact R j d q o i (G.aX 4 [2,1,0,3])
 ·refine H.make af bv fM i6 ⟨eH,0,0⟩ i4 i4 n n n8 n8 (qm _) i5 λd D o S m=>?_;have m:=m.bB;have k:=m.box 1 i4;refine⟨⟨k.cell i4,k.cell i4,trivial⟩,?_⟩;refine m.make af bv fM i6 ⟨eH,0,0⟩ i4 i4 n n n8 n8 (qm _) i5 λj I i F g=>?_;have g:=g.bB;have e:=g.box 2 i4;refine⟨⟨e.cell i4,e.cell i4,trivial⟩,s,i4,?_⟩;refine g.store af 2 i4 i4 9 [j] i4 i4 i4 nq λh3 x=>⟨trivial,s,i4,?_⟩
  refine x.store af 2 i4 i4 10 [d] i4 i4 i4 nq λq G=>⟨trivial,?_⟩
  exact R j d q i o (G.aX 4 [2,0,1,3])
end
section
variable {B:aC} {h0 h:f9} {As:List HP}
theorem adq(n nd w:Nat)(d:aD):(gb n nd w d).1.length=n/\(gb n nd w d).2.length=n:=by
 unfold gb;have:∀(l:List (Int×Nat)) (s:aR×aR),(l.foldl (λs p=>(s.1.set p.1.toNat (oY nd p.2),s.2.set p.1.toNat (aO w))) s).1.length=i1 s.1/\(l.foldl (λs p=>(s.1.set p.1.toNat (oY nd p.2),s.2.set p.1.toNat (aO w))) s).2.length=i1 s.2:=by
  intro l
  induction l with
  |nil=>intro s;exact⟨i4,i4⟩
  |cons a l ih=>intro s;rw[zA];have:=ih (s.1.set a.1.toNat (oY nd a.2),s.2.set a.1.toNat (aO w));simpa using this
 have:=this d.zipIdx (qh n [],qh n []);simpa using this
abbrev Told(s f:f7)(p:Int×Int×Int)(v r h i g b a:Sl)(d e:List Sl)(c:List (Sl×Row)):List HP:=[SA s (gG f p v r h i g b a),HA b d,HA a e,lM c]
theorem aaj(s f:f7)(p:Int×Int×Int)(v r st V lf wa T:Sl)(I mr:List Sl)(pl:List (Sl×Row))(c:Int)(nd w:Nat)(H:aa B h0 h (Told s f p v r st V lf wa T I mr pl++As))(ax:0<=c)(hw:c.toNat<i1 I)(hm:c.toNat<i1 mr)(Y:p.2.2=w)(hd:V.len=nd)(ar:nd<=64)(M:w<=2^20){K:Unit->f9->Prop}
  (hk:∀a b h',aa B h0 h' (RA a (aO nd)::RA b (aO w)::(Told s f p v r st V lf wa T (I.set c.toNat a) (mr.set c.toNat b) pl++As))->K () h'):(λ(U:aM) (K3:Unit->f9->Prop)=>
 ∃l:f7,(U=dB l)/\
 ∃g:Sl,f8 h (l.add 9)=dB (xr g.ptr g.len g.cap)/\
 ∃a25:f7,(U=dB a25)/\
 ∃d:Sl,f8 h (a25.add 10)=dB (xr d.ptr d.len d.cap)/\
 ∃L:f7,(U=dB L)/\
 ∃j:Int,f8 h ((L.add 1).add 2)=dB (xq xx j)/\
 (aB xB (qF 71 (xq xx ((V.len:Nat):Int)) (xq xx ((V.len:Nat):Int))) (.one (.sc .slc)) h λo Q=>
 (az.ok [((L.add 1).add 2,(xq xx j)),(a25.add 10,(xr d.ptr d.len d.cap)),(l.add 9,(xr g.ptr g.len g.cap))] Q)/\
 ∃P:f7,(g.ptr=dB P/\0<=c/\c<((g.len:Nat):Int))/\
 (aB xB (qF 71 (xq xx j) (xq xx j)) (.one (.sc .slc)) Q λO Z=>
 (az.ok [(a25.add 10,(xr d.ptr d.len d.cap)),(l.add 9,(xr g.ptr g.len g.cap))] Z)/\
 ag xB (qf 71 (xt (dB (P.add (c.toNat*1)))) (xr o.ptr o.len o.cap)) Z λ_ y=>
 (az.ok [] y)/\
 ∃t:f7,(d.ptr=dB t/\0<=c/\c<((d.len:Nat):Int))/\
 ag xB (qf 71 (xt (dB (t.add (c.toNat*1)))) (xr O.ptr O.len O.cap)) y λ_ A=>
 (az.ok [] A)/\
 K3 () A)/\(ag xB (qf 71 (xt (dB (P.add (c.toNat*1)))) (xr o.ptr o.len o.cap)) Q λ_ z=>
 (az.ok [] z)/\
 aB xB (qF 71 (xq xx j) (xq xx j)) (.one (.sc .slc)) z λk q=>
 (az.ok [] q)/\
 ∃E:f7,(d.ptr=dB E/\0<=c/\c<((d.len:Nat):Int))/\
 ag xB (qf 71 (xt (dB (E.add (c.toNat*1)))) (xr k.ptr k.len k.cap)) q λ_ u=>
 (az.ok [] u)/\
 K3 () u))/\(aB xB (qF 71 (xq xx j) (xq xx j)) (.one (.sc .slc)) h λR ab=>
 (az.ok [(a25.add 10,(xr d.ptr d.len d.cap)),(l.add 9,(xr g.ptr g.len g.cap))] ab)/\
 aB xB (qF 71 (xq xx ((V.len:Nat):Int)) (xq xx ((V.len:Nat):Int))) (.one (.sc .slc)) ab λS ad=>
 (az.ok [(a25.add 10,(xr d.ptr d.len d.cap)),(l.add 9,(xr g.ptr g.len g.cap))] ad)/\
 ∃ah:f7,(g.ptr=dB ah/\0<=c/\c<((g.len:Nat):Int))/\
 ag xB (qf 71 (xt (dB (ah.add (c.toNat*1)))) (xr S.ptr S.len S.cap)) ad λ_ am=>
 (az.ok [] am)/\
 ∃ao:f7,(d.ptr=dB ao/\0<=c/\c<((d.len:Nat):Int))/\
 ag xB (qf 71 (xt (dB (ao.add (c.toNat*1)))) (xr R.ptr R.len R.cap)) am λ_ ap=>
 (az.ok [] ap)/\
 K3 () ap)) (dB s) K:=by
 have hb:=H.box 0 i4;have mk:∀{X:f9} {Cs:List HP} (m:Nat) (hm:m<=2^20) {z1 z2:Int},z1=(m:Int)->z2=(m:Int)->aa B h0 X Cs->∀{K:Sl->f9->Prop},(∀a h',aa B h0 h' (RA a (aO m)::Cs)->K a h')->
   aB xB (qF 71 (xq xx z1) (xq xx z2)) (.one (.sc .slc)) X K:=by
  intro X Cs m hm z1 z2 e1 e2 G K hK;subst e1;subst e2;exact G.make af aF hO i6 0 i4 i4 m m i4 i4 (qm _) i5 λa h' _ _ H'=>hK a h' H'.bB
 refine⟨s,i4,wa,hb.cell i4,s,i4,T,hb.cell i4,s,i4,p.2.2,show f8 h (s.add 3)=_ from hb.cell i4,?_,?_⟩
 ·refine mk nd i5 (by rw[hd]) (by rw[hd]) H λa X G=>?_;have n:=G.box 1 i4;refine⟨⟨show f8 X (s.add 3)=_ from n.cell i4,n.cell i4,n.cell i4,trivial⟩,?_⟩;have F:∀{h2:f9} {Cs:List HP} {I:List Sl} (i:Nat) (a:Sl) {s':Sl},aa B h0 h2 Cs->Cs[i]?=dB (HA s' I)->c.toNat<i1 I->∀{K:f9->Prop},(∀h',aa B h0 h' (Cs.set i (HA s' (I.set c.toNat a)))->K h')->∃x:f7,(s'.ptr=dB x/\0<=c/\c<((s'.len:Nat):Int))/\ag xB (qf 71 (xt (dB (x.add (c.toNat*1)))) (xr a.ptr a.len a.cap)) h2 λ_ h'=>K h':=by intro h2 Cs I i a s' N hi hl K hK;exact N.set af i hi (λ_=>rfl) i4 c.toNat i5 hl a i4 i4 i4 λh3 W=>hK h3 W
  obtain⟨x,hx,-⟩:=F (K:=λ_=>True) 2 a G rfl hw λ_ _=>trivial;refine⟨x,hx,?_,?_⟩
  ·refine mk w M Y Y G λb h2 N=>?_;have D:=N.box 2 i4;refine⟨⟨D.cell i4,D.cell i4,trivial⟩,?_⟩;obtain⟨x',J,hr⟩:=F (K:=λy=>az.ok [] y/\∃t:f7,(T.ptr=dB t/\0<=c/\c<((T.len:Nat):Int))/\
 ag xB (qf 71 (xt (dB (t.add (c.toNat*1)))) (xr b.ptr b.len b.cap)) y λ_ A=>(az.ok [] A)/\K () A) 3 a N i4 hw λh3 W=>⟨trivial,F 4 b W i4 hm λh4 H4=>⟨trivial,hk a b h4 (H4.aX 6 [1,0,2,3,4,5])⟩⟩
   have e:x=x':=zR.inj (hx.1.symm.trans J.1);subst e;exact hr
  ·obtain⟨x',J,hr⟩:=F (K:=λz=>az.ok [] z/\aB xB (qF 71 (xq xx p.2.2) (xq xx p.2.2)) (.one (.sc .slc)) z λk q=>
 (az.ok [] q)/\
 ∃E:f7,(T.ptr=dB E/\0<=c/\c<((T.len:Nat):Int))/\
 ag xB (qf 71 (xt (dB (E.add (c.toNat*1)))) (xr k.ptr k.len k.cap)) q λ_ u=>
 (az.ok [] u)/\K () u) 2 a G i4 hw λh3 W=>⟨trivial,mk w M Y Y W λb h4 H4=>⟨trivial,F 4 b H4 i4 hm λh5 H5=>⟨trivial,hk a b h5 (H5.aX 6 [1,0,2,3,4,5])⟩⟩⟩
   have e:x=x':=zR.inj (hx.1.symm.trans J.1);subst e;exact hr
 ·refine mk w M Y Y H λb X G=>?_;have n:=G.box 1 i4;refine⟨⟨n.cell i4,n.cell i4,trivial⟩,?_⟩;refine mk nd i5 (by rw[hd]) (by rw[hd]) G λa h2 N=>?_;have D:=N.box 2 i4;refine⟨⟨D.cell i4,D.cell i4,trivial⟩,?_⟩;refine N.set af 3 i4 (λ_=>rfl) i4 c.toNat i5 hw a i4 i4 i4 λh3 W=>⟨trivial,?_⟩
  refine W.set af 4 i4 (λ_=>rfl) i4 c.toNat i5 hm b i4 i4 i4 λh4 H4=>⟨trivial,hk a b h4 (H4.aX 6 [0,1,2,3,4,5])⟩
end
section
variable {B:aC} {h0 h:f9} {As:List HP}
theorem Vw{h:f9}{Cs:List HP}(x:Sl)(m:Row)(nd:Nat)(z:Int)(H:aa B h0 h Cs)(D:z=nd)(v:nd<=64)(E:i1 m<=2^20){L L2:az}(y:L.ok h)(p:L2.ok h)(t:St B h0 Cs λh=>Rd h x 1 aF m){K:Sl->Sl->f9->Prop}
  (u:∀a b h',bc (λb=>b<h.size) h h'->aa B h0 h' (RA a (aO nd)::RA b m::Cs)->K a b h'):
  (aB xB (qF 71 (xq xx z) (xq xx z)) (.one (.sc .slc)) h λj e=>
 (az.ok L e)/\
 ae xB 101 #[(xr x.ptr x.len x.cap)] (.one (.sc .slc)) e λg f=>K j g f)/\(ae xB 101 #[(xr x.ptr x.len x.cap)] (.one (.sc .slc)) h λn d=>
 (az.ok L2 d)/\
 aB xB (qF 71 (xq xx z) (xq xx z)) (.one (.sc .slc)) d λl k=>K l n k):=by
 subst D;constructor
 ·refine H.SH af aF hO i6 0 i4 i4 nd nd i4 i4 (qm _) i5 λa r _ s c=>⟨kP s y,?_⟩
  have c:=c.bB;refine(eW x m r (t.at [_] c) i5).mono ?_;rintro _ o ⟨b,rfl,q⟩;exact⟨b,i4,u a b o (up s q.ai) ((c.cm q).oC)⟩
 ·refine(eW x m h (t.at [] H) i5).mono ?_;rintro _ r ⟨b,rfl,i⟩;have c:=H.cm i;refine⟨b,i4,kP i.ai p,?_⟩;refine c.SH af aF hO i6 0 i4 i4 nd nd i4 i4 (qm _) i5 λa o _ w A=>?_;exact u a b o (up i.ai w) A.bB
structure mR (pool pl:List (Sl×Row)) (wr mr:List Sl) (W M:aR):Prop where
 sub:∀x∈pool,x∈pl
 way:iz pl id wr W
 more:iz pl id mr M
theorem mR.step{pool f:List (Sl×Row)}{e g:List Sl}{W M:aR}(x:mR pool f e g W M)(c:Nat)(a b:Sl)(l m:Row):mR pool ((b,m)::(a,l)::f) (e.set c a) (g.set c b) (W.set c l) (M.set c m):=
 ⟨λy d=>by simp[x.sub y d],(x.way.mono λy d=>qb).set c jj,(x.more.mono λy d=>qb).set c jj⟩
theorem aak(s f:f7)(p:Int×Int×Int)(v r u o G a8 a2:Sl)(rr:List (Sl×Sl))(R:List ft)(ST:List (Int×Int))(D L:aD)(n nd w:Nat)(pool:List (Sl×Row))(H:aa B h0 h (SA s (gG f p v r u o G a8 a2)::lM pool::As))(hS:St B h0 As λh=>aai h f r u o G rr R ST D L)
  (hv:v.len=n) (hn:n<=64) (hp:p.2.2=w) (hw:w<=2^20) (bd:i1 D=nd) (ab:nd<=64) (hR:∀e∈R,jh n w e) (hD:∀c∈D,0<=c/\c<(n:Int)) (b2:D.Nodup) (hg:uk (R.map qI) (·∈D) ST) (cd:i1 ST<=2^20) (bl:∀e∈R,i1 e.1<=2^20) (a5:(⟨eH,0,0⟩,[])∈pool):
  ac xB 227 #[xt (dB s)] h λv' h'=>v'=.tuple #[]/\∃d l z A N,aa B h0 h' (Told s f p v r u o G d l z A N++As)/\mR pool N z A (ST.foldl (il R nd) (gb n nd w D)).1 (ST.foldl (il R nd) (gb n nd w D)).2:=by
 refine BF (dB s) ?_;unfold pR;have hb:=H.box 0 i4;have bb:o.len=nd:=by rw[(hS.at [_,_] H).dead.len,bd]
 refine⟨s,i4,o,show f8 h (s.add 7)=_ from hb.cell i4,?_⟩;refine bP (λ_ h'=>∃d l,d.len=n/\l.len=n/\aa B h0 h' (Told s f p v r u o G d l (qh n ⟨eH,0,0⟩) (qh n ⟨eH,0,0⟩) pool++As)) ?_ ?_
 ·exact Xl (K:=λ_ h'=>∃d l,d.len=n/\l.len=n/\aa B h0 h' (Told s f p v r u o G d l (qh n ⟨eH,0,0⟩) (qh n ⟨eH,0,0⟩) pool++As)) s f p v r u o G a8 a2 n pool H hv hn λd l h' h1 h2 O=>⟨d,l,h1,h2,O⟩
 rintro-h1 ⟨d,l,cp,cn,H1⟩;have b9:=H1.box 0 i4;refine⟨s,i4,o,show f8 h1 (s.add 7)=_ from b9.cell i4,?_⟩;refine aA (λt:Nat×List Sl×List Sl×List (Sl×Row)=>(t.1:Int)) (λt h'=>t.1<=nd/\aa B h0 h' (Told s f p v r u o G d l t.2.1 t.2.2.1 t.2.2.2++As)/\mR pool t.2.2.2 t.2.1 t.2.2.1 (gb n nd w (D.take t.1)).1 (gb n nd w (D.take t.1)).2) (λt=>nd-t.1)
  (0,qh n ⟨eH,0,0⟩,qh n ⟨eH,0,0⟩,pool) i4 ⟨i5,H1,⟨λ_ h=>h,Oz pool a5 n,Oz pool a5 n⟩⟩ ?_
 rintro⟨i,z,A,N⟩ h2 ⟨hi,H2,T2⟩;dsimp only at*;have br:=adq n nd w (D.take i);have Q:=T2.way.1;have V:=T2.more.1;refine aj (λe=>?_) (λe=>?_)
 ·have Y:i<nd:=i5
  have P:=hD _ (qg (show i<i1 D by omega));refine(hS.at [_,_,_,_] H2).dead.bG i i4 i5 _ i4 ?_;refine bP (λ_ h'=>∃a b,aa B h0 h' (RA a (aO nd)::RA b (aO w)::(Told s f p v r u o G d l (z.set D[i].toNat a) (A.set D[i].toNat b) N++As))) ?_ ?_
  ·exact aaj (K:=λ_ h'=>∃a b,aa B h0 h' (RA a (aO nd)::RA b (aO w)::(Told s f p v r u o G d l (z.set D[i].toNat a) (A.set D[i].toNat b) N++As))) s f p v r u o G d l z A N D[i] nd w H2 P.1 i5 i5 hp bb ab hw λa b h' O=>⟨a,b,O⟩
  rintro-h3 ⟨a,b,H3⟩;refine⟨s,i4,d,(H3.box 2 i4).cell i4,?_⟩;refine(H3.seq 3 i4 λ_=>rfl).mv D[i].toNat i5 i9 ?_;rw[ym];refine H3.set af 0 i4 (λ_=>rfl) i4 i i4 (by simp[aO];omega) 1 i4 i4 i4 λh4 H4=>?_;have H5:=(H4.freeze 0 i4 λ_=>rfl).pool 5 0 i6 i4 i4;have H6:=(H5.freeze 1 i4 λ_=>rfl).pool 5 1 i6 i4 i4;refine⟨(i+1,z.set D[i].toNat a,A.set D[i].toNat b,_),js,⟨i7,H6.aX 6 [2,3,4,5],?_⟩,i7⟩;dsimp only;have e1:D.take (i+1)=D.take i++[D[i]]:=aK _ _;have e2:i1 (D.take i)=i:=i9
  rw[e1,MN,e2];exact T2.step D[i].toNat a b (oY nd i) (aO w)
 have ao:i=i1 D:=i5
 subst ao;rw[q9]at T2 br Q V;refine⟨s,i4,u,(H2.box 0 i4).cell i4,?_⟩;have cc:=(hS.at [_,_,_,_] H2).steps.len;refine aA (λt:Nat×List Sl×List Sl×List (Sl×Row)=>(t.1:Int)) (λt h'=>t.1<=i1 ST/\aa B h0 h' (Told s f p v r u o G d l t.2.1 t.2.2.1 t.2.2.2++As)/\mR pool t.2.2.2 t.2.1 t.2.2.1 ((ST.take t.1).foldl (il R nd) (gb n nd w D)).1 ((ST.take t.1).foldl (il R nd) (gb n nd w D)).2) (λt=>i1 ST-t.1)
  (0,z,A,N) i4 ⟨jj,H2,T2⟩ ?_
 clear Q V T2 H2 hi e;rintro⟨i,z,A,N⟩ h3 ⟨hi,H3,T3⟩;dsimp only at*;obtain⟨dk,-⟩:=Pn (nd:=nd) (w:=w) hD b2 D.length (qm _);rw[q9]at dk;have a1:=Ry (l1:=ST.take i) (l2:=ST.drop i) (by rw[qE];exact hg);obtain⟨a4,-⟩:=Lu hR a1.1 dk;obtain⟨W,hW⟩:∃W,W=((ST.take i).foldl (il R nd) (gb n nd w D)).1:=⟨_,rfl⟩
 obtain⟨M,hM⟩:∃M,M=((ST.take i).foldl (il R nd) (gb n nd w D)).2:=⟨_,rfl⟩
 have ah:(ST.take i).foldl (il R nd) (gb n nd w D)=(W,M):=by rw[hW,hM]
 have I:WOk n nd w (λc=>c∈D∨∃j,(j,c)∈ST.take i) W M:=by rw[hW,hM];exact a4
 rw[<-hW,<-hM]at T3;clear a4 hW hM;have cs:=I.wl;have cr:=I.ml;have Q:=T3.way.1;have V:=T3.more.1;refine aj (λe=>?_) (λe=>?_)
 ·have Y:i<i1 ST:=i5
  have am:=a1.2;rw[qP Y]at am;obtain⟨row,bA,ap⟩:∃row bA,ST[i]=(row,bA):=⟨_,_,rfl⟩
  rw[ap]at am;obtain⟨g1,g2,g3,g4,-⟩:=am;have m:row.toNat<i1 R:=by have:=g1.2;rw[qy]at this;omega
  obtain⟨k,U⟩:∃k,k=R[row.toNat]:=⟨_,rfl⟩
  have er:R.getD row.toNat ([],[])=k:=by rw[qe,qd m,U];rfl
  have b0:(R.map qI).getD row.toNat []=k.1:=by rw[qe,qU,qd m,U];rfl
  rw[b0]at g3 g4;have J:=hR k (U▸qg m);have cl:=bl k (U▸qg m);have c0:=J.cW bA g3;have G3:=hS.at [_,_,_,_] H3;have hF:=G3.rest.2.1;refine G3.steps.eC (g:=fQ) i i4 Y ST[i] i4 ?_;rw[ap];refine H3.Hn af i4 λa50 h4 P4 H4=>?_;have H4:=H4.bB;refine H4.storeAll af 0 i4 i4 (fQ (row,bA)) i4 i4 i4 i4 λh5 H5=>?_;have b5:row.toNat<i1 rr:=by rw[hF];exact m
  obtain⟨y,hy⟩:∃y,y=rr[row.toNat]:=⟨_,rfl⟩
  have E:∀{h'},oD jO 2 qv h' r rr R->jO.p h' (λb=>b<h'.size) y k:=λhh=>by rw[hy,U];exact Fix.row hh m
  refine bP (λa' h'=>aa B h0 h' (au a' 289 (qv y)::au a50 357 (fQ (row,bA))::(Told s f p v r u o G d l z A N++As))) ?_ ?_
  ·have a7:=H5.box 1 i4;have G5:=hS.at [_,_,_,_,_] H5;refine⟨s,i4,r,a7.cell i4,row,(H5.box 0 i4).cell0 i4,?_⟩;obtain⟨bq,ha,x,P,rfl⟩:=G5.rest.1.eC (g:=qv) (i:=row) row.toNat i5 b5 y (by rw[hy]) (K:=λx=>x=y) rfl;refine⟨bq,ha,_,P,?_⟩;refine H5.Hn af i4 λX h6 P6 H6=>⟨⟨pX P.1 P6,pX P.2.1 P6,pX ((H5.box 0 i4).cell0 i4) P6,pX (a7.cell i4) P6,trivial⟩,?_⟩
   have H6:=H6.bB;refine H6.storeAll af 0 i4 i4 (qv x) i4 i4 i4 i4 λh7 H7=>⟨trivial,H7⟩
  intro X h7 H7;refine bP (λt h'=>aa B h0 h' (RA t.1 (aO nd)::RA t.2 k.2::au X 289 (qv y)::au a50 357 (fQ (row,bA))::(Told s f p v r u o G d l z A N++As))) ?_ ?_
  ·have a0:=H7.box 0 i4;refine⟨y.2,a0.cell i4,?_⟩;exact Vw (L:=[(X.add 1,xr y.2.ptr y.2.len y.2.cap)]) (K:=λa b h'=>az.ok [] h'/\aa B h0 h' (RA a (aO nd)::RA b k.2::au X 289 (qv y)::au a50 357 (fQ (row,bA))::(Told s f p v r u o G d l z A N++As))) y.2 k.2 nd _ H7 (by rw[bb]) ab (by rw[J.len];exact hw) ⟨a0.cell i4,trivial⟩ (L2:=[]) trivial (St.mk' λh' O=>(E (hS.at [_,_,_,_,_,_] O).rest).2) λa b h' _ O=>⟨trivial,O⟩
  rintro⟨T,q⟩ h8 H8;dsimp only at H8;refine⟨y.1,(H8.box 2 i4).cell0 i4,?_⟩;have cf:=(E (hS.at [_,_,_,_,_,_,_,_] H8).rest).1.len;let F:Nat->aD:=λj=>(k.1.take j).filter λc=>!decide (c=bA);refine aA (λj:Nat=>(j:Int)) (λj h'=>j<=i1 k.1/\aa B h0 h' (RA T (cT W (aO nd) (F j))::RA q (cT M k.2 (F j))::au X 289 (qv y)::au a50 357 (fQ (row,bA))::(Told s f p v r u o G d l z A N++As))) (λj=>i1 k.1-j) 0 i4 ⟨i5,by simpa[F,cT]using H8⟩ ?_;rintro j h9 ⟨hj,H9⟩;have told:∀c∈F j,i1 (aE W c.toNat)=nd/\(aE M c.toNat).length=w:=λc P=>by
   have ar:=qJ.1 P;have hm:=zD ar.1;exact I.rw_ c (g4 c hm (by simpa using ar.2)) (J.cW c hm).1 (J.cW c hm).2
  have a6:i1 (cT W (aO nd) (F j))=nd:=kr k8 λc P=>(told c P).1;have a3:i1 (cT M k.2 (F j))=w:=kr J.len λc P=>(told c P).2;refine aj (λe2=>?_) (λe2=>?_)
  ·have S:j<i1 k.1:=i5
   have ad:=J.cW _ (qg S);refine(E (hS.at [_,_,_,_,_,_,_,_] H9).rest).1.bG j i4 S _ i4 ?_;refine⟨bA,(H9.box 3 i4).cell i4,?_⟩;refine bY (λax=>?_) (λb7=>?_)
   ·have tc:=I.rw_ k.1[j] (g4 _ (qg S) ax) ad.1 ad.2;refine(Jh s f 1 k.1[j] T q d l _ _ z A W M H9 (St.mk' λh' O=>?_) ad.1 i5 i5 (by rw[tc.1,a6]) (by rw[tc.2,a3]) i5 i5).mono ?_
    ·exact Eo.of (O.box 2 i4) (hS.at [_,_,_,_,_,_] O).field (O.FB 3 5 i4 i4 T3.way) (O.FB 4 5 i4 i4 T3.more)
    rintro _ b1 ⟨rfl,Z⟩;have e3:F (j+1)=F j++[k.1[j]]:=by simp only[F];rw[ke _ _ S];simp[ax]
    exact⟨(),i4,j+1,j0,⟨i5,by rw[e3,uE,uE];exact Z⟩,i5⟩
   ·have e3:F (j+1)=F j:=by simp only[F];rw[ke _ _ S];simp[b7]
    exact⟨j+1,j0,⟨i5,by rw[e3];exact H9⟩,i5⟩
  ·have bk:j=i1 k.1:=i5
   subst bk;have a9:=H9.box 3 i4;have ay:=H9.box 4 i4;refine⟨s,i4,d,ay.cell i4,bA,a9.cell i4,s,i4,l,ay.cell i4,bA,a9.cell i4,?_⟩;refine H9.set af 5 i4 (λ_=>rfl) i4 bA.toNat i5 i5 T i4 i4 i4 λb1 Z=>⟨⟨(Z.box 3 i4).cell i4,trivial⟩,?_⟩
   refine Z.set af 6 i4 (λ_=>rfl) i4 bA.toNat i5 i5 q i4 i4 i4 λcq b4=>⟨trivial,?_⟩
   have b3:=(b4.freeze 0 i4 λ_=>rfl).pool 7 0 i6 i4 i4;have b6:=(b3.freeze 1 i4 λ_=>rfl).pool 7 1 i6 i4 i4;refine⟨(i+1,z.set bA.toNat T,A.set bA.toNat q,_),js,⟨i7,b6.aX 8 [4,5,6,7],?_⟩,i7⟩;dsimp only;rw[aK _ _ Y,zN,ah,ap];have e3:[(row,bA)].foldl (il R nd) (W,M)=(W.set bA.toNat (cT W (aO nd) (F k.1.length)),M.set bA.toNat (cT M k.2 (F k.1.length))):=by simp only[zA,List.foldl_nil,il,er,F,q9]
   rw[e3];exact T3.step bA.toNat T q _ _
 ·have ao:i=i1 ST:=i5
  subst ao;rw[q9]at ah;exact⟨i4,d,l,z,A,N,H3,by rw[ah];exact T3⟩
end
def li(nd:Nat)(known:List Bool)(vals:aR)(s:aR×aR)(i:Nat):aR×aR:=
 (s.1.mapIdx λc r=>if c<i/\known.getD c eS=eR then aO nd else r,s.2.mapIdx λc r=>if c<i/\known.getD c eS=eR then aE vals c else r)
theorem aal(nd:Nat)(known:List Bool)(vals:aR)(s:aR×aR):li nd known vals s 0=s:=by unfold li;refine yQ ?_ ?_<;>refine wP jj λi b a=>?_<;>simp
theorem ads(nd:Nat)(known:List Bool)(vals:aR)(s:aR×aR){n:Nat}(a:i1 s.1=n)(b:i1 s.2=n):li nd known vals s n=iN nd known vals s:=by unfold li iN;refine yQ ?_ ?_<;>refine wP jj λi a b=>?_<;>simp at a<;>simp[show i<n by omega]
theorem adt(nd:Nat)(known:List Bool)(vals:aR)(s:aR×aR){i:Nat}(d:known.getD i eS=eR):li nd known vals s (i+1)=((li nd known vals s i).1.set i (aO nd),(li nd known vals s i).2.set i (aE vals i)):=by
 unfold li;refine yQ ?_ ?_<;>refine wP jj λj f e=>?_<;>simp only[List.getElem_mapIdx,List.getElem_set]<;>by_cases c:i=j
 ·subst c;rw[g0 ⟨i5,d⟩,g0 rfl]
 ·rw[g9 c];congr 1;simp only[eq_iff_iff];constructor<;>rintro⟨a,b⟩<;>exact⟨i5,b⟩
 ·subst c;rw[g0 ⟨i5,d⟩,g0 rfl]
 ·rw[g9 c];congr 1;simp only[eq_iff_iff];constructor<;>rintro⟨a,b⟩<;>exact⟨i5,b⟩
theorem afI(nd:Nat)(known:List Bool)(vals:aR)(s:aR×aR){i:Nat}(e:known.getD i eS=eS):li nd known vals s (i+1)=li nd known vals s i:=by
 have d:∀j,(j<i+1/\known.getD j eS=eR)↔(j<i/\known.getD j eS=eR):=λj=>by
  constructor
  ·rintro⟨a,b⟩;by_cases c:j=i
   ·subst c;rw[e]at b;cases b
   ·exact⟨i5,b⟩
  ·rintro⟨a,b⟩;exact⟨i5,b⟩
 unfold li;simp only[d]
section
variable {B:aC} {h0 h:f9} {As:List HP}
theorem adu(s f:f7)(p:Int×Int×Int)(v r K y N J G:Sl)(j d g:List Sl)(k:List (Sl×Row))(known:List Bool)(V W M:aR)(n nd:Nat)(H:aa B h0 h (Told s f p v r K y N J G d g k++HA v j::As))(hn:n<=64)(z:y.len=nd)(T:nd<=64)(hT:mR k k d g W M)(R:iz k id j V)(ad:i1 V=n)(F:i1 W=n)(u:i1 M=n)
  (hk:∀(c:Nat) (hc:c<i1 j),j[c].ptr.isNone=!(known.getD c eS)):
  ac xB 228 #[xt (dB s)] h λZ h'=>Z=.tuple #[]/\∃d g b,aa B h0 h' (Told s f p v r K y N J G d g b++HA v j::As)/\mR k b d g (iN nd known V (W,M)).1 (iN nd known V (W,M)).2:=by
 refine CX (dB s) ?_;unfold rN;have S:=R.1;have O:v.len=n:=by rw[(H.own 4 i4).len];omega
 refine⟨s,i4,v,(H.box 0 i4).cell i4,?_⟩;refine aA (λt:Nat×List Sl×List Sl×List (Sl×Row)=>(t.1:Int)) (λt h'=>t.1<=n/\aa B h0 h' (Told s f p v r K y N J G t.2.1 t.2.2.1 t.2.2.2++HA v j::As)/\mR k t.2.2.2 t.2.1 t.2.2.1 (li nd known V (W,M) t.1).1 (li nd known V (W,M) t.1).2) (λt=>n-t.1) (0,d,g,k) i4 ⟨i5,H,by rw[aal];exact hT⟩ ?_;rintro⟨i,d,g,b⟩ Y ⟨hi,A,l⟩;dsimp only at*;have ab:(li nd known V (W,M) i).1.length=n:=by simp[li,F]
 have X:(li nd known V (W,M) i).2.length=n:=by simp[li,u]
 have Q:=l.way.1;have P:=l.more.1;refine aj (λe=>?_) (λe=>?_)
 ·have ah:i<n:=i5
  refine(A.seq 4 i4 λ_=>rfl).mv i i4 i5 ?_;have w:=hk i i5;refine bo (λD=>?_) (λD=>?_)
  ·have o:known.getD i eS=eR:=by rw[w]at D;simpa using D
   have q:=A.box 0 i4;refine⟨s,i4,J,q.cell i4,s,i4,G,q.cell i4,s,i4,y,show f8 Y (s.add 7)=_ from q.cell i4,?_⟩;refine A.SH af aF hO i6 0 i4 i4 nd nd (by rw[z]) (by rw[z]) (qm _) i5 λa h2 _ P2 I=>?_;have I:=I.bB;have m:=I.box 1 i4;refine⟨⟨show f8 h2 (s.add 7)=_ from m.cell i4,m.cell i4,m.cell i4,trivial⟩,?_⟩;refine I.set af 2 i4 (λ_=>rfl) i4 i i4 i5 a i4 i4 i4 λh3 H3=>⟨trivial,?_⟩
   refine H3.set af 3 i4 (λ_=>rfl) i4 i i4 i5 (j[i]'(by omega)) i4 i4 i4 λh4 H4=>⟨trivial,?_⟩
   have H5:=(H4.freeze 0 i4 λ_=>rfl).pool 4 0 i6 i4 i4;refine⟨(i+1,d.set i a,g.set i (j[i]'(by omega)),_),js,⟨i7,H5.aX 5 [1,2,3,4],?_⟩,i7⟩;dsimp only;rw[adt nd known V (W,M) o];have U:((j[i]'(by omega)),aE V i)∈k:=by have:=R.get (i:=i) i5;rw[mY i5];exact this
   exact⟨λx E=>qH _ (l.sub x E),(l.way.mono λx E=>qH _ E).set i k8,(l.more.mono λx E=>qH _ E).set i (qH _ (l.sub _ U))⟩
  ·have o:known.getD i eS=eS:=by rw[w]at D;simpa using D
   exact⟨(i+1,d,g,b),js,⟨i7,A,by dsimp only;rw[afI nd known V (W,M) o];exact l⟩,i7⟩
 ·have L:i=n:=i5
  subst L;exact⟨i4,d,g,b,A,by rw[<-ads nd known V (W,M) F u];exact l⟩
def oe(nd:Nat)(known:List Bool)(vals W M D:aR)(i:Nat):aR:=vals.mapIdx λc r=>if c<i/\known.getD c eS=eS then gZ D (aE W c) (aE M c) nd else r
theorem adv(nd:Nat)(known:List Bool)(vals W M D:aR):oe nd known vals W M D 0=vals:=by unfold oe;refine wP jj λi b a=>?_;simp
theorem afJ(nd:Nat)(known:List Bool)(vals W M D:aR){n:Nat}(a:i1 vals=n):oe nd known vals W M D n=AD nd known vals W M D:=by
 unfold oe AD;refine wP jj λi a b=>?_;simp at a;simp only[List.getElem_mapIdx];cases hk:known.getD i eS
 ·rw[g0 ⟨i5,i4⟩,g9 jj]
 ·rw[g9 jj,g0 rfl]
theorem afK(nd:Nat)(known:List Bool)(vals W M D:aR){i:Nat}(e:known.getD i eS=eR):oe nd known vals W M D (i+1)=oe nd known vals W M D i:=by
 have d:∀j,(j<i+1/\known.getD j eS=eS)↔(j<i/\known.getD j eS=eS):=λj=>by
  constructor
  ·rintro⟨a,b⟩;by_cases c:j=i
   ·subst c;rw[e]at b;cases b
   ·exact⟨i5,b⟩
  ·rintro⟨a,b⟩;exact⟨i5,b⟩
 unfold oe;simp only[d]
theorem aid(nd:Nat)(known:List Bool)(vals W M D:aR){i:Nat}(d:known.getD i eS=eS):oe nd known vals W M D (i+1)=(oe nd known vals W M D i).set i (gZ D (aE W i) (aE M i) nd):=by
 unfold oe;refine wP jj λj f e=>?_;simp only[List.getElem_mapIdx,List.getElem_set];by_cases c:i=j
 ·subst c;rw[g0 ⟨i5,d⟩,g0 rfl]
 ·rw[g9 c];congr 1;simp only[eq_iff_iff];constructor<;>rintro⟨a,b⟩<;>exact⟨i5,b⟩
theorem adw(s f:f7)(p:Int×Int×Int)(v r T dd U I O dead:Sl)(g A E dr:List Sl)(z:List (Sl×Row))(known:List Bool)(V W M D:aR)(n nd w:Nat)(H:aa B h0 h (Told s f p v r T dd U I O A E z++HA v g::As))(hS:St B h0 As λh=>fN h f/\ia h (λb=>b<h.size) dead 1 aF D dr)(hn:n<=64)(hw:w<=2^20)(a5:nd<=64)(Y:mR z z A E W M)(hV:iz z id g V)(G:i1 V=n)(bd:i1 W=n)(bb:i1 M=n)
  (Q:∀c,c<n->i1 (aE W c)=nd/\(aE M c).length=w) (a7:i1 D=nd) (P:ba w D) (hk:∀(c:Nat) (l:c<i1 g),g[c].ptr.isNone=!(known.getD c eS)):
  ac xB 231 #[xt (dB s),dead] h λv' h'=>v'=.tuple #[]/\∃J a,aa B h0 h' (Told s f p v r T dd U I O A E a++HA v J::As)/\iz a id J (AD nd known V W M D):=by
 refine DR (dB s) dead ?_;unfold sK;have a3:=hV.1;have ar:v.len=n:=by rw[(H.own 4 i4).len];omega
 have a1:=Y.way.1;have a4:=Y.more.1;refine⟨s,i4,v,(H.box 0 i4).cell i4,?_⟩;refine aA (λt:Nat×List Sl×List (Sl×Row)=>(t.1:Int)) (λt h'=>t.1<=n/\aa B h0 h' (Told s f p v r T dd U I O A E t.2.2++HA v t.2.1::As)/\iz t.2.2 id t.2.1 (oe nd known V W M D t.1)/\(∀x∈z,x∈t.2.2)/\∀(c:Nat) (l:c<i1 t.2.1),t.1<=c->t.2.1[c].ptr.isNone=!(known.getD c eS)) (λt=>n-t.1) (0,g,z) i4 ⟨i5,H,by rw[adv];exact hV,λ_ h=>h,λc l _=>hk c l⟩ ?_;rintro⟨i,g,a⟩ h1 ⟨hi,o,Z,d,y⟩;dsimp only at*;have a9:i1 (oe nd known V W M D i)=n:=by simp[oe,G]
 have a2:=Z.1;refine aj (λe=>?_) (λe=>?_)
 ·have ap:i<n:=i5
  have R:=o.box 0 i4;refine⟨s,i4,v,R.cell i4,?_⟩;refine(o.seq 4 i4 λ_=>rfl).mv i i4 i5 ?_;have K:=y i i5 (qm _);refine bo (λL=>?_) (λL=>?_)
  ·have u:known.getD i eS=eR:=by rw[K]at L;simpa using L
   exact⟨(i+1,g,a),js,⟨i7,o,by dsimp only;rw[afK nd known V W M D u];exact Z,d,λc l h=>y c l (by dsimp only at h;omega)⟩,i7⟩
  have u:known.getD i eS=eS:=by rw[K]at L;simpa using L
  have ao:=Q i ap;have ah:((E[i]'(by omega)),aE M i)∈a:=by have:=(Y.more.mono d).get (i:=i) i5;rw[mY i5];exact this
  have F:((A[i]'(by omega)),aE W i)∈a:=by have:=(Y.way.mono d).get (i:=i) i5;rw[mY i5];exact this
  refine⟨s,i4,O,R.cell i4,?_⟩;refine(o.seq 2 i4 λ_=>rfl).mv i i4 i5 ?_;refine(eW _ (aE M i) h1 (o.Ov 3 i4 ah) i5).mono ?_;rintro _ h2 ⟨b,rfl,R2⟩;have X:=o.cm R2;have ax:=X.box 1 i4;refine⟨b,i4,s,i4,I,ax.cell i4,?_⟩;refine(X.seq 2 i4 λ_=>rfl).mv i i4 i5 ?_;have ad:=(X.Ov 4 i4 F).len;refine aA (λj:Nat=>(j:Int)) (λj h'=>j<=nd/\aa B h0 h' (RA b (gZ D (aE W i) (aE M i) j)::(Told s f p v r T dd U I O A E a++HA v g::As))) (λj=>nd-j) 0 i4 ⟨i5,X⟩ ?_;rintro j h3 ⟨hj,S⟩;refine aj (λe3=>?_) (λe3=>?_)
  ·have a6:j<nd:=i5
   have q:j<i1 (aE W i):=i5
   refine(S.Ov 4 i4 F).bG j i4 q _ i4 ?_;obtain⟨S1,S2⟩:=hS.at [_,_,_,_,_,_] S;have a8:=S2.len;refine S2.top.mv j i4 i5 ?_;have a0:i1 (D[j]'(by omega))=w:=P _ (qg _);have N:(aE W i)[j]'q=aS (aE W i) j:=by rw[aS,qe,qd q];rfl
   have ay:i1 (gZ D (aE W i) (aE M i) j)=w:=mB _ ao.2 λk hk=>cA P;rw[N];refine Jg s f (aS (aE W i) j) (dr[j]'(by omega)) b (D[j]'(by omega)) _ S (St.mk' λh' H'=>?_) (by rw[a0,ay]) i5 λh4 H4=>?_
   ·obtain⟨q1,q2⟩:=hS.at [_,_,_,_,_] H';exact⟨(H'.box 0 i4).cell0 i4,q1,q2.row _ _ _ (qd _) (qd _)⟩
   ·refine⟨j+1,j0,⟨i5,?_⟩,i5⟩;rw[gZ,mY (m:=D) (i:=j) i5];exact H4
  ·have ab:j=nd:=i5
   subst ab;refine⟨s,i4,v,(S.box 1 i4).cell i4,?_⟩;refine S.set af 5 i4 (λ_=>rfl) i4 i i4 i5 b i4 i4 i4 λh4 H4=>?_;have H5:=(H4.freeze 0 i4 λ_=>rfl).pool 4 0 i6 i4 i4;refine⟨(i+1,g.set i b,_),js,⟨i7,H5.aX 6 [1,2,3,4,5],?_,λx hx=>qH _ (d x hx),λc l h=>?_⟩,i7⟩
   ·dsimp only;rw[aid j known V W M D u];exact(Z.mono λx hx=>qH _ hx).set i jj
   ·dsimp only at l h⊢;rw[List.getElem_set_ne i5];exact y c o6 i5
 ·have am:i=n:=i5
  subst am;exact⟨i4,g,a,o,by rw[<-afJ nd known V W M D G];exact Z⟩
end
section
variable {B:aC} {h0 h:f9} {As:List HP}
abbrev MA(s:Sl)(m:aR):HP:=fR 71 s 1 aF m
abbrev Vx:jp Sl Row:=aix (cz 1 aF) λr _=>r.len<=r.cap
abbrev CA(s:Sl)(m:aR):HP:=ce 71 s 1 bv Vx m
theorem aa.adx{e:Nat}{s:Sl}{l:Row}(H:aa B h0 h As)(i:Nat)(c:As[i]?=dB (an e s 1 aF l)):aa B h0 h (As.set i (EA Vx s l)):=
 H.fZ i c λ_ ⟨a,b⟩=>⟨a.seq (λ_=>rfl) b,a.cap⟩
theorem aam(s f:f7)(p:Int×Int×Int)(v r T N Q I J:Sl)(o u:List Sl)(S:List (Sl×Row))(rr:List (Sl×Sl))(R:List ft)(ST:List (Int×Int))(D L:aD)(W M:aR)(n nd w:Nat)(H:aa B h0 h (Told s f p v r T N Q I J o u S++As))(hS:St B h0 As λh=>aai h f r T N Q rr R ST D L)
  (hn:n=p.1.toNat+p.2.1.toNat) (hp:p.2.2=w) (hw:w<=2^20) (ax:bO p=eR) (bd:i1 D=nd) (a6:nd<=64) (hR:∀e∈R,jh n w e) (bk:∀e∈R,i1 e.1<=2^20) (hL:∀i∈L,0<=i/\i<(i1 R:Int)) (cl:i1 L<=2^20) (hT:mR S S o u W M) (cf:i1 W=n) (cd:i1 M=n)
  (G:∀c,c<n->i1 (aE W c)=nd/\(aE M c).length=w):
  ac xB 229 #[xt (dB s)] h λv' h'=>∃a b:Sl,v'=.tuple #[a,b]/\aa B h0 h' (MA a (dF n nd R W L (bF p.1.toNat p.2.1.toNat))::CA b (fL n w R M L (bF p.1.toNat p.2.1.toNat))::(Told s f p v r T N Q I J o u S++As)):=by
 refine BG (dB s) ?_;unfold pS;have hb:=H.box 0 i4;have ad:N.len=nd:=by rw[(hS.at [_,_,_,_] H).dead.len,bd]
 have cp:=(co p).1 ax;have b3:=hT.way.1;have b4:=hT.more.1;refine⟨s,i4,N,show f8 h (s.add 7)=_ from hb.cell i4,s,i4,Q,show f8 h (s.add 8)=_ from hb.cell i4,?_⟩;have b9:=(hS.at [_,_,_,_] H).left.len;have ar:∀{h':f9} {Cs:List HP},aa B h0 h' (Cs++(Told s f p v r T N Q I J o u S++As))->aa B h0 h' (Told s f p v r T N Q I J o u S++As):=λ{h' Cs} U=>U.take Cs.length λi A hi=>by
  rw[qj i5,Nat.add_sub_cancel_left];exact hi
 have SR:∀{h':f9},aa B h0 h' (Told s f p v r T N Q I J o u S++As)->Eo h' s f I J o u W M:=λU=>Eo.of (U.box 0 i4) (hS.at [_,_,_,_] U).field (U.FB 1 3 i4 i4 hT.way) (U.FB 2 3 i4 i4 hT.more);let rA:Int->Row:=λi=>cT W (aO nd) (R.getD i.toNat ([],[])).1;let rB:Int->Row:=λi=>cT M (R.getD i.toNat ([],[])).2 (R.getD i.toNat ([],[])).1;have H0:aa B h0 h (MA ⟨eH,0,0⟩ []::CA ⟨eH,0,0⟩ []::(Told s f p v r T N Q I J o u S++As)):=((H.Hl 71 1 bv Vx).bB.My 71 1 aF).bB;refine aA (λt:Nat×Sl×Sl=>(t.2.1,t.2.2,(t.1:Int))) (λt h'=>t.1<=i1 L/\aa B h0 h' (MA t.2.1 ((L.take t.1).map rA)::CA t.2.2 ((L.take t.1).map rB)::(Told s f p v r T N Q I J o u S++As))) (λt=>i1 L-t.1) (0,⟨eH,0,0⟩,⟨eH,0,0⟩) i4 ⟨jj,H0⟩ ?_;rintro⟨i,a,b⟩ h1 ⟨hi,H1⟩;dsimp only at*;refine aj (λe=>?_) (λe=>?_)
 ·have E:i<i1 L:=i5
  have G1:=hS.at [_,_,_,_,_,_] H1;refine G1.left.bG i i4 E _ i4 ?_;have hx:=hL _ (qg E);generalize b1:L[i]=x at hx⊢;have m:x.toNat<i1 R:=i5
  obtain⟨d,ao⟩:∃d,d=R[x.toNat]:=⟨_,rfl⟩
  have er:R.getD x.toNat ([],[])=d:=by rw[qe,qd m,ao];rfl
  have am:=hR d (ao▸qg m);have cc:=bk d (ao▸qg m);have hF:=G1.rest.2.1;have a9:x.toNat<i1 rr:=by rw[hF];exact m
  obtain⟨y,hy⟩:∃y,y=rr[x.toNat]:=⟨_,rfl⟩
  have O:∀{h'},oD jO 2 qv h' r rr R->jO.p h' (λb=>b<h'.size) y d:=λhh=>by rw[hy,ao];exact Fix.row hh m
  refine bP (λt h'=>aa B h0 h' (RA t.1 (aO nd)::RA t.2 d.2::MA a ((L.take i).map rA)::CA b ((L.take i).map rB)::(Told s f p v r T N Q I J o u S++As))) ?_ ?_
  ·have ap:=H1.box 2 i4;refine⟨s,i4,r,ap.cell i4,?_⟩;obtain⟨a7,ha,z,hc,rfl⟩:=G1.rest.1.eC (g:=qv) (i:=x) x.toNat i5 a9 y (by rw[hy]) (K:=λz=>z=y) rfl;refine⟨a7,ha,z.2,hc.2.1,?_⟩;have ay:az.ok [(s.add 5,xr r.ptr r.len r.cap)] h1:=⟨ap.cell i4,trivial⟩
   exact Vw (L:=[((a7.add (x.toNat*2)).add 1,xr z.2.ptr z.2.len z.2.cap),(s.add 5,xr r.ptr r.len r.cap)]) (L2:=[(s.add 5,xr r.ptr r.len r.cap)]) (K:=λa' b' h'=>az.ok [(s.add 5,xr r.ptr r.len r.cap)] h'/\aa B h0 h' (RA a' (aO nd)::RA b' d.2::MA a ((L.take i).map rA)::CA b ((L.take i).map rB)::(Told s f p v r T N Q I J o u S++As)))
    z.2 d.2 nd _ H1 (by rw[ad]) a6 (by rw[am.len];exact hw) ⟨hc.2.1,ay⟩ ay (St.mk' λh' U=>(O (hS.at [_,_,_,_,_,_] U).rest).2) λa b h' P U=>⟨kP P ay,U⟩
  rintro⟨Y,F⟩ h2 H2;dsimp only at H2;have G2:=hS.at [_,_,_,_,_,_,_,_] H2;refine⟨s,i4,r,(H2.box 4 i4).cell i4,?_⟩;obtain⟨b0,ha,z,hc,rfl⟩:=G2.rest.1.eC (g:=qv) (i:=x) x.toNat i5 a9 y (by rw[hy]) (K:=λz=>z=y) rfl;refine⟨b0,ha,z.1,hc.1,?_⟩;have bl:=(O G2.rest).1.len;refine aA (λj:Nat=>(j:Int)) (λj h'=>j<=i1 d.1/\aa B h0 h' (RA Y (cT W (aO nd) (d.1.take j))::RA F (cT M d.2 (d.1.take j))::MA a ((L.take i).map rA)::CA b ((L.take i).map rB)::(Told s f p v r T N Q I J o u S++As))) (λj=>i1 d.1-j) 0 i4 ⟨i5,by simpa[cT]using H2⟩ ?_;rintro j h3 ⟨hj,H3⟩;have told:∀c∈d.1.take j,i1 (aE W c.toNat)=nd/\(aE M c.toNat).length=w:=λc hc=>by
   have b7:=am.cW c (zD hc);exact G c.toNat i5
  have ab:i1 (cT W (aO nd) (d.1.take j))=nd:=kr k8 λc hc=>(told c hc).1;have Z:i1 (cT M d.2 (d.1.take j))=w:=kr am.len λc hc=>(told c hc).2;refine aj (λe2=>?_) (λe2=>?_)
  ·have X:j<i1 d.1:=i5
   have bq:=am.cW _ (qg X);refine(O (hS.at [_,_,_,_,_,_,_,_] H3).rest).1.bG j i4 X _ i4 ?_;have tc:=G d.1[j].toNat i5;refine(Jh s f 1 d.1[j] Y F I J _ _ o u W M H3 (St.mk' λh' U=>SR (ar (Cs:=[_,_]) U)) bq.1 i5 i5 (by rw[tc.1,ab]) (by rw[tc.2,Z]) i5 i5).mono ?_;rintro _ h4 ⟨rfl,V⟩;exact⟨(),i4,j+1,j0,⟨i5,by rw[aK _ _ X,uE,uE];exact V⟩,i5⟩
  ·have a0:j=i1 d.1:=i5
   subst a0;rw[q9]at H3;have V:=aa.adx (H3.freeze 0 i4 λ_=>rfl) 1 i4;refine V.xZ af 2 0 i6 i4 i4 fM i9 λa' h5 H5=>?_;refine H5.tO af 3 1 i6 i4 i4 fM i4 i6 (λ_=>rfl) kl i4 i6 i9 λb' h6 H6=>?_;refine⟨(i+1,a',b'),js,⟨i7,?_⟩,i7⟩;dsimp only;rw[aK _ _ E,qW,qW,b1];have e3:[x].map rA=[cT W (aO nd) d.1]:=by simp only[yJ,xg,rA,er]
   have e4:[x].map rB=[cT M d.2 d.1]:=by simp only[yJ,xg,rB,er]
   rw[e3,e4];exact H6.aX 8 [2,3,4,5,6,7]
 have a4:i=i1 L:=i5
 subst a4;rw[q9]at H1;have ap:=H1.box 2 i4;refine⟨s,i4,p,ap.cells 1 _ i4,(uP p h1).mono ?_⟩;rintro _ h2 ⟨q,rfl,R2⟩;rw[ax,g0 rfl]at R2;obtain⟨l,a1⟩:∃l,l=bF p.1.toNat p.2.1.toNat:=⟨_,rfl⟩
 have b5:i1 l=p.2.1.toNat:=by rw[a1];simp[bF]
 have a8:∀x∈l,i1 x=n:=λx hx=>by rw[hn];exact MK _ _ x (a1▸hx)
 rw[<-a1]at R2⊢;have H2:=(H1.cm R2).SG 0 i4;obtain⟨qr,H2⟩:=H2.OZ 0 rfl λ_=>rfl;have cn:=(H2.eU 0 i4).1.len;have b6:=(H2.eU 0 i4).2.1;refine⟨q,i4,?_⟩;let a5:Row->Row:=λx=>gZ W x (aO nd) n;let a2:Row->Row:=λx=>gZ M x (aO w) n;refine aA (λt:Nat×Sl×Sl=>(t.2.1,t.2.2,(t.1:Int))) (λt h'=>t.1<=i1 l/\aa B h0 h' (cN (cz 1 aF) 1 bv q qr l::MA t.2.1 (L.map rA++(l.take t.1).map a5)::CA t.2.2 (L.map rB++(l.take t.1).map a2)::(Told s f p v r T N Q I J o u S++As))) (λt=>i1 l-t.1) (0,a,b) i4 ⟨jj,by simpa using H2⟩ ?_;rintro⟨i,a,b⟩ h3 ⟨hi,H3⟩;dsimp only at*;refine aj (λe=>?_) (λe=>?_)
 ·have E:i<i1 l:=i5
  have b2:=a8 _ (qg E);have F3:=H3.eU 0 i4;refine F3.1.mv i i4 i5 ?_;have bl:(qr[i]'(by omega)).len=n:=by rw[(Fix.row F3 E).len,b2]
  refine bP (λt h'=>aa B h0 h' (RA t.1 (aO nd)::RA t.2 (aO w)::cN (cz 1 aF) 1 bv q qr l::MA a (L.map rA++(l.take i).map a5)::CA b (L.map rB++(l.take i).map a2)::(Told s f p v r T N Q I J o u S++As))) ?_ ?_
  ·have br:=H3.box 3 i4;refine⟨s,i4,p.2.2,show f8 h3 (s.add 3)=_ from br.cell i4,?_,?_⟩
   ·refine H3.make af aF hO i6 0 i4 i4 nd nd (by rw[ad]) (by rw[ad]) (qm _) i5 λx h4 _ _ V=>?_;have V:=V.bB;refine⟨⟨show f8 h4 (s.add 3)=_ from(V.box 4 i4).cell i4,trivial⟩,?_⟩;refine V.make af aF hO i6 0 i4 i4 w w hp hp (qm _) i5 λy h5 _ _ H5=>⟨trivial,H5.bB.oC⟩
   ·refine H3.make af aF hO i6 0 i4 i4 w w hp hp (qm _) i5 λy h4 _ _ V=>⟨trivial,?_⟩
    refine V.bB.make af aF hO i6 0 i4 i4 nd nd (by rw[ad]) (by rw[ad]) (qm _) i5 λx h5 _ _ H5=>⟨trivial,H5.bB⟩
  rintro⟨Y,F⟩ h4 V;dsimp only at V⊢;refine aA (λj:Nat=>(j:Int)) (λj h'=>j<=n/\aa B h0 h' (RA Y (gZ W l[i] (aO nd) j)::RA F (gZ M l[i] (aO w) j)::cN (cz 1 aF) 1 bv q qr l::MA a (L.map rA++(l.take i).map a5)::CA b (L.map rB++(l.take i).map a2)::(Told s f p v r T N Q I J o u S++As))) (λj=>n-j) 0 i4 ⟨i5,V⟩ ?_;rintro j h5 ⟨hj,H5⟩;have ab:i1 (gZ W l[i] (aO nd) j)=nd:=mB _ k8 λk hk=>(G k i5).1;have Z:i1 (gZ M l[i] (aO w) j)=w:=mB _ k8 λk hk=>(G k i5).2;refine aj (λe2=>?_) (λe2=>?_)
  ·have X:j<n:=i5
   have a3:j<l[i].length:=i5
   refine(Fix.row (H5.eU 2 i4) E).bG j i4 a3 _ i4 ?_;have bb:l[i][j]'a3=aS l[i] j:=by rw[aS,qe,qd a3];rfl
   rw[bb];have tc:=G j X;refine(Jh s f (aS l[i] j) (j:Int) Y F I J _ _ o u W M H5 (St.mk' λh' U=>SR (ar (Cs:=[_,_,_]) U)) i5 i5 i5 (by rw[ql,tc.1,ab]) (by rw[ql,tc.2,Z]) i5 i5).mono ?_;rintro _ h6 ⟨rfl,H6⟩;rw[ql]at H6;exact⟨(),i4,j+1,j0,⟨i5,H6⟩,i5⟩
  ·have a0:j=n:=i5
   subst a0;have H6:=aa.adx (H5.freeze 0 i4 λ_=>rfl) 1 i4;refine H6.xZ af 3 0 i6 i4 i4 fM i9 λa' h7 H7=>?_;refine H7.tO af 4 1 i6 i4 i4 fM i4 i6 (λ_=>rfl) kl i4 i6 i9 λb' h8 H8=>?_;refine⟨(i+1,a',b'),js,⟨i7,?_⟩,i7⟩;dsimp only;rw[aK _ _ E,qW,qW,<-qp,<-qp];exact H8.aX 9 [2,3,4,5,6,7,8]
 ·have a4:i=i1 l:=i5
  subst a4;rw[q9]at H3;exact⟨a,b,i4,H3.rest⟩
end
section
variable {B:aC} {h0 h:f9} {As:List HP}
theorem Jj{α:Type}{g:α->Bool}{l:List α}{i:Nat}(h:i<i1 l)(a:∀j (b:j<i1 l),j<i->g l[j]=eS)(c:g l[i]=eR):l.findIdx g=i:=by rw[List.findIdx_eq h];exact⟨c,λj b=>a j i5 b⟩
theorem Xm(s:Sl)(l:aD)(b:FuncId)(a:Array Value)(g:Int->Bool)(Q:f9->Prop)(A:C.fns[b]?=dB eR)(u:St B h0 As Q)(o:∀x h',Q h'->ac xB b ([Value.int .i64 x]++a.toList).toArray h' λv p=>v=xv (g x)/\Sp h' p [])(H:aa B h0 h (an 3 s 1 av l::As))(F:i1 l<=2^20):
  ac xB 210 #[s,.func (.func b) #[] a] h λv h'=>v=xq xx (if l.findIdx g<i1 l then(l.findIdx g:Int)else-1)/\aa B h0 h' (an 3 s 1 av l::As):=by
 refine iV s (b,#[],a) ?_;unfold gD;have w:=(H.own 0 i4).len;refine aA (λi:Nat=>(i:Int)) (λi h'=>aa B h0 h' (an 3 s 1 av l::As)/\i<=i1 l/\∀j (f:j<i1 l),j<i->g l[j]=eS) (λi=>i1 l-i) 0 i4 ⟨H,i5,λj _ f=>i5⟩ ?_;rintro i y ⟨n,D,c⟩;refine aj (λe=>?_) (λe=>?_)
 ·have d:i<i1 l:=i5
  refine(n.seq 0 i4 λ_=>rfl).bG i i4 d _ i4 ?_;refine fd A ?_;refine(o l[i] y (u.at [_] n)).mono ?_;rintro _ E ⟨rfl,t⟩;refine⟨_,i4,bx (λr=>?_) λr=>?_⟩
  ·rw[Jj d c r,g0 d];exact⟨i4,n.up t.ai⟩
  ·refine⟨i+1,j0,⟨n.up t.ai,i5,λj f q=>?_⟩,i5⟩;rcases zo.1 q with h3|rfl
   ·exact c j f h3
   ·exact r
 ·have m:¬l.findIdx g<i1 l:=by rw[wQ];rintro⟨x,z,k⟩;obtain⟨j,f,rfl⟩:=qK z;rw[c j f i5]at k;cases k
  rw[g9 m];exact⟨i4,n⟩
theorem aan{α:Type}{g:α->Bool}{l:List α}{j:Nat}(h:j<l.findIdx g)(a:j<i1 l):g l[j]=eS:=by simpa using List.not_of_lt_findIdx h
structure nh {α:Type} (g:α->Bool) (l l':List α) (i j:Nat):Prop where
 len:i1 l'=i1 l
 le:i<=j
 pre:l'.take i=(l.take j).filter λx=>!g x
 post:l'.drop j=l.drop j
theorem nh.start{α:Type}{g:α->Bool}{l:List α}{i:Nat}(h:i<i1 l)(b:l.findIdx g=i):nh g l l i (i+1):=by
 refine⟨i4,i5,?_,i4⟩;have a:g l[i]=eR:=by have:=List.findIdx_getElem (xs:=l) (p:=g) (w:=by rw[b];exact h);simpa[b]using this
 rw[aK _ _ h,zl,zp,a];have:(l.take i).filter (λx=>!g x)=l.take i:=zO.2 λx c=>by
  obtain⟨j,d,rfl⟩:=qK c;simp only[qY]at d;rw[yh,aan (g:=g) (l:=l) (j:=j) i5 i5];rfl
 rw[this];simp
theorem nh.at_{α:Type}{g:α->Bool}{l l':List α}{i j:Nat}(x:nh g l l' i j)(a:j<i1 l):l'[j]'(by rw[x.len];exact a)=l[j]:=by have h:=congrArg (λm=>m[0]?) x.post;simp only[wJ,Nat.add_zero]at h;rw[qd a,qd (by rw[x.len];exact a)]at h;exact zR.inj h
theorem nh.keep{α:Type}{g:α->Bool}{l l':List α}{i j:Nat}(x:nh g l l' i j)(a:j<i1 l)(c:g l[j]=eS):nh g l (l'.set i l[j]) (i+1) (j+1):=by
 have d:=x.len;have b:=x.le;refine⟨qb,i5,?_,?_⟩
 ·rw[aK _ _ i9,ym,List.take_set_of_le (qm _),x.pre,aK _ _ a,zl,zp,c];rfl
 ·rw[List.drop_set_of_lt i5];have e:=congrArg (xp 1) x.post;simpa[zH]using e
theorem nh.skip{α:Type}{g:α->Bool}{l l':List α}{i j:Nat}(x:nh g l l' i j)(a:j<i1 l)(c:g l[j]=eR):nh g l l' i (j+1):=by
 have d:=x.len;have b:=x.le;refine⟨d,i5,?_,?_⟩
 ·rw[x.pre,aK _ _ a,zl,zp,c];simp
 ·have e:=congrArg (xp 1) x.post;simpa[zH]using e
theorem filter_all{α:Type}{g:α->Bool}{l:List α}(h:¬l.findIdx g<i1 l):l.filter (λx=>!g x)=l:=zO.2 λx a=>by
 have:g x=eS:=by
  cases hh:g x with
  |false=>rfl
  |true=>exact absurd (wQ.2 ⟨x,a,hh⟩) h
 rw[this];rfl
theorem Vy(s:Sl)(l:aD)(b:FuncId)(a:Array Value)(g:Int->Bool)(Q:f9->Prop)(z:C.fns[b]?=dB eR)(w:St B h0 As Q)(f:∀x h',Q h'->ac xB b ([Value.int .i64 x]++a.toList).toArray h' λv q=>v=xv (g x)/\Sp h' q [])(H:aa B h0 h (an 3 s 1 av l::As))(L:i1 l<=2^20):
  ac xB 284 #[s,.func (.func b) #[] a] h λv h'=>∃r:Sl,v=r/\aa B h0 h' (an 3 r 1 av (l.filter λx=>!g x)::As):=by
 refine su s (b,#[],a) ?_;unfold mj;refine(Xm s l b a g Q z w f H L).mono ?_;rintro _ N ⟨rfl,y⟩;have D:=(H.own 0 i4).len;have K:=(H.own 0 i4).cap;refine⟨_,i4,ck (λe=>?_) λe=>?_⟩
 ·have o:¬l.findIdx g<i1 l:=λk=>by rw[g0 k]at e;omega
  exact⟨s,i4,by rw[filter_all o];exact y⟩
 ·have c:l.findIdx g<i1 l:=by
   by_cases k:l.findIdx g<i1 l
   ·exact k
   ·rw[g9 k]at e;exact absurd i4 e
  rw[g0 c];refine aA (λt:Nat×Nat×aD=>((t.1:Int),(t.2.1:Int))) (λt h'=>nh g l t.2.2 t.1 t.2.1/\t.2.1<=i1 l/\aa B h0 h' (an 3 s 1 av t.2.2::As)) (λt=>i1 l-t.2.1) (l.findIdx g,l.findIdx g+1,l) j0 ⟨nh.start c i4,i7,y⟩ ?_;rintro⟨i,j,l'⟩ I ⟨M2,M,m⟩;dsimp only at*;have A:=M2.len;have E:=M2.le;refine aj (λG=>?_) (λG=>?_)
  ·have d:j<i1 l:=i5
   refine(m.seq 0 i4 λ_=>rfl).bG j i4 i5 _ i4 ?_;rw[M2.at_ d];refine fd z ?_;refine(f l[j] I (w.at [_] m)).mono ?_;rintro _ h3 ⟨rfl,J⟩;have n:=m.up J.ai;refine⟨_,i4,bo (λu=>?_) λu=>?_⟩
   ·refine n.set af 0 i4 (λ_=>rfl) i4 i i4 i5 l[j] i4 i4 i4 λO F=>?_;exact⟨(i+1,j+1,l'.set i l[j]),by dsimp only;rw[ak _,ak _];rfl,⟨M2.keep d o8,i7,F⟩,i7⟩
   ·exact⟨(i,j+1,l'),js,⟨M2.skip d o8,i7,n⟩,i7⟩
  ·have p:j=i1 l:=i5
   subst p;refine⟨⟨i5,i5⟩,?_⟩;rw[ql];refine m.pB af 0 i4 gM (λ_=>rfl) i4 i6 i i5 λh3 n=>⟨⟨i5,i5⟩,⟨s.ptr,i,s.cap⟩,i4,?_⟩
   have:=M2.pre;rw[q9]at this;rw[<-this];exact n
end
section
variable {B:aC} {h0 h:f9} {As:List HP}
abbrev ajE:bZ C.toDr 291 357 2 [xq xx 0,xq xx 0] 16:=⟨_,_,i4,i4,i4,i4,i4,i4⟩
theorem Xn(s:Sl)(l:List (Int×Int))(b:FuncId)(a:Array Value)(g:Int×Int->Bool)(Q:f9->Prop)(A:C.fns[b]?=dB eR)(u:St B h0 As Q)(o:∀x h',Q h'->ac xB b ([Value.agg #[xq xx x.1,xq xx x.2]]++a.toList).toArray h' λv p=>v=xv (g x)/\Sp h' p [])(H:aa B h0 h (an 357 s 2 fQ l::As))(F:i1 l<=2^20):
  ac xB 331 #[s,.func (.func b) #[] a] h λv h'=>v=xq xx (if l.findIdx g<i1 l then(l.findIdx g:Int)else-1)/\aa B h0 h' (an 357 s 2 fQ l::As):=by
 refine mZ s (b,#[],a) ?_;unfold ji;have w:=(H.own 0 i4).len;refine aA (λi:Nat=>(i:Int)) (λi h'=>aa B h0 h' (an 357 s 2 fQ l::As)/\i<=i1 l/\∀j (f:j<i1 l),j<i->g l[j]=eS) (λi=>i1 l-i) 0 i4 ⟨H,i5,λj _ f=>i5⟩ ?_;rintro i y ⟨n,D,c⟩;refine aj (λe=>?_) (λe=>?_)
 ·have d:i<i1 l:=i5
  refine(n.seq 0 i4 λ_=>rfl).eC (g:=fQ) i i4 d l[i] i4 ?_;refine fd A ?_;refine(o l[i] y (u.at [_] n)).mono ?_;rintro _ E ⟨rfl,t⟩;refine⟨_,i4,bx (λr=>?_) λr=>?_⟩
  ·rw[Jj d c r,g0 d];exact⟨i4,n.up t.ai⟩
  ·refine⟨i+1,j0,⟨n.up t.ai,i5,λj f q=>?_⟩,i5⟩;rcases zo.1 q with h3|rfl
   ·exact c j f h3
   ·exact r
 ·have m:¬l.findIdx g<i1 l:=by rw[wQ];rintro⟨x,z,k⟩;obtain⟨j,f,rfl⟩:=qK z;rw[c j f i5]at k;cases k
  rw[g9 m];exact⟨i4,n⟩
theorem Vz(s:Sl)(l:List (Int×Int))(b:FuncId)(a:Array Value)(g:Int×Int->Bool)(Q:f9->Prop)(D:C.fns[b]?=dB eR)(y:St B h0 As Q)(k:∀x h',Q h'->ac xB b ([Value.agg #[xq xx x.1,xq xx x.2]]++a.toList).toArray h' λv q=>v=xv (g x)/\Sp h' q [])(H:aa B h0 h (an 357 s 2 fQ l::As))(M:i1 l<=2^20):
  ac xB 282 #[s,.func (.func b) #[] a] h λv h'=>∃r:Sl,v=r/\aa B h0 h' (an 357 r 2 fQ (l.filter λx=>!g x)::As):=by
 refine mN s (b,#[],a) ?_;unfold jc;refine(Xn s l b a g Q D y k H M).mono ?_;rintro _ O ⟨rfl,z⟩;have G:=(H.own 0 i4).len;have L:=(H.own 0 i4).cap;refine⟨_,i4,ck (λe=>?_) λe=>?_⟩
 ·have o:¬l.findIdx g<i1 l:=λn=>by rw[g0 n]at e;omega
  exact⟨s,i4,by rw[filter_all o];exact z⟩
 ·have c:l.findIdx g<i1 l:=by
   by_cases n:l.findIdx g<i1 l
   ·exact n
   ·rw[g9 n]at e;exact absurd i4 e
  rw[g0 c];refine aA (λt:Nat×Nat×List (Int×Int)=>((t.1:Int),(t.2.1:Int))) (λt h'=>nh g l t.2.2 t.1 t.2.1/\t.2.1<=i1 l/\aa B h0 h' (an 357 s 2 fQ t.2.2::As)) (λt=>i1 l-t.2.1) (l.findIdx g,l.findIdx g+1,l) j0 ⟨nh.start c i4,i7,z⟩ ?_;rintro⟨i,j,l'⟩ R ⟨M2,N,u⟩;dsimp only at*;have F:=M2.len;have J:=M2.le;refine aj (λK=>?_) (λK=>?_)
  ·have f:j<i1 l:=i5
   refine(u.seq 0 i4 λ_=>rfl).eC (g:=fQ) j i4 i5 l[j] (by rw[M2.at_ f]) ?_;refine u.alloc af i4 λa5 h3 d=>?_;have d:=d.bB;refine d.storeAll af 0 i4 i4 (fQ l[j]) i4 i4 i4 i4 λE m=>?_;refine⟨l[j],(m.box 0 i4).aV _ i4,?_⟩;refine fd D ?_;refine(k l[j] E (y.at [_,_] m)).mono ?_;rintro _ P ⟨rfl,I⟩;have A:=m.up I.ai;have d:=A.oV;refine⟨_,i4,bo (λw=>?_) λw=>?_⟩
   ·refine⟨l[j],(A.box 0 i4).aV _ i4,?_⟩;refine d.set af 0 i4 (λ_=>rfl) i4 i i4 i5 l[j] i4 i4 i4 λE m=>?_;exact⟨(i+1,j+1,l'.set i l[j]),by dsimp only;rw[ak _,ak _];rfl,⟨M2.keep f (by simpa using w),i7,m⟩,i7⟩
   ·exact⟨(i,j+1,l'),js,⟨M2.skip f (by simpa using w),i7,d⟩,i7⟩
  ·have p:j=i1 l:=i5
   subst p;refine⟨⟨i5,i5⟩,?_⟩;rw[ql];refine u.pB af 0 i4 ajE (λ_=>rfl) i4 i6 i i5 λh3 d=>⟨⟨i5,i5⟩,⟨s.ptr,i,s.cap⟩,i4,?_⟩
   have:=M2.pre;rw[q9]at this;rw[<-this];exact d
end
section
variable {B:aC} {h0 h:f9} {As:List HP}
def xT(pool:List (Sl×aD)):HP:=⟨λh q=>∀x∈pool,Seq h q x.1 1 av x.2,λa d x b=>(a x b).ai d,λa c x b=>(a x b).mono c⟩
theorem aa.ady(H:aa B h0 h As):aa B h0 h (As++[xT []]):=H.comp (.one (bc.refl _ _) λx a=>by cases a)
theorem aa.agZ(H:aa B h0 h As)(i j:Nat)(b:i≠j){pool:List (Sl×aD)}{r:Sl}{l:aD}(e:As[i]?=dB (xT pool))(c:As[j]?=dB (uH r 1 av l)):aa B h0 h ((As.set i (xT (pool++[(r,l)]))).set j emp):=
 H.merge i j b e c λg k _ d f x a=>by
  rcases qz.1 a with a|a
  ·exact(d x a).mono λ_ h=>.inl h
  ·rw[qC]at a;subst a;exact Seq.mono f λ_ h=>.inr h
abbrev ajF:bZ C.toDr 37 22 1 [xr eH 0 0] 24:=⟨_,_,i4,i4,i4,i4,i4,i4⟩
theorem Xo(s c:f7)(r:Sl)(x:Int×Int)(h':f9)(e:f8 h' c=dB (xt (dB s))/\f8 h' (s.add 5)=dB (xr r.ptr r.len r.cap)):
  ac xB 283 ([Value.agg #[xq xx x.1,xq xx x.2]]++(#[Value.pointer (dB c)]:Array Value).toList).toArray h' λv d=>v=xv (decide (x.1>=(r.len:Int)))/\Sp h' d []:=by
 refine xP x c ?_;unfold om;refine(Sp.refl h').boxed λa f b=>?_;exact⟨x.1,(b.box 0 i4).cell0 i4,dB s,pX e.1 b.ai,s,i4,r,pX e.2 b.ai,i4,.zip b.ai⟩
theorem Xp(s a:f7)(r:Sl)(x:Int)(h':f9)(c:f8 h' a=dB (xt (dB s))/\f8 h' (s.add 5)=dB (xr r.ptr r.len r.cap)):
  ac xB 285 ([Value.int .i64 x]++(#[Value.pointer (dB a)]:Array Value).toList).toArray h' λv b=>v=xv (decide (x>=(r.len:Int)))/\Sp h' b []:=by
 refine xQ x a ?_;unfold oo;exact⟨dB s,c.1,s,i4,r,c.2,i4,Sp.refl _⟩
theorem Xq(s f:f7)(p:Int×Int×Int)(v r d j m J L kn:Sl)(D:List (Sl×Sl))(R:List ft)(known:List Bool)(n:Nat)(H:aa B h0 h (SA s (gG f p v r d j m J L)::As))(hS:St B h0 As λh=>oD jO 2 qv h r D R/\Rd h kn 1 fh known)(ap:i1 known=n)(hn:n<=64)(a0:i1 R<=2^19)(am:∀e∈R,i1 e.1<=2^20)
  (z:kh (n:Int) (rowsOf R known n)=eR) (X:(dM n (rowsOf R known n)).steps.length<=2^20/\(fK (dM n (rowsOf R known n)).used (rowsOf R known n).length).length<=2^20):
  ac xB 226 #[xt (dB s),kn] h λv' h'=>v'=.tuple #[]/\∃F E I:Sl,aa B h0 h' (SA s (gG f p v r F E I J L)::an 357 F 2 fQ ((dM n (rowsOf R known n)).steps.filter λx=>decide (x.1<i1 R))::an 3 E 1 av (dM n (rowsOf R known n)).dead::an 3 I 1 av ((fK (dM n (rowsOf R known n)).used (rowsOf R known n).length).filter λx=>decide (x<i1 R))::As):=by
 refine BE (dB s) kn ?_;unfold pQ;refine H.boxed λq G S=>?_;have S:=S.bB;refine⟨dB s,(S.box 0 i4).cell0 i4,s,i4,r,(S.box 1 i4).cell i4,?_⟩;have G1:=hS.at [_,_] S;have ab:=G1.1.1.len;have O:=G1.1.2.1;have V:=G1.2.len;let pre:List HP:=[au q 290 [xt (dB s)],SA s (gG f p v r d j m J L)]
 have H2:aa B h0 G (an 22 ⟨eH,0,0⟩ 1 bv []::xT []::au q 290 [xt (dB s)]::SA s (gG f p v r d j m J L)::As):=((aa.ady S).bB.nil 22 1 bv).bB;refine aA (λt:Nat×Sl=>(t.2,(t.1:Int))) (λt h'=>t.1<=i1 R/\aa B h0 h' (an 22 t.2 1 bv ((D.take t.1).map qI)::xT []::au q 290 [xt (dB s)]::SA s (gG f p v r d j m J L)::As)) (λt=>i1 R-t.1) (0,⟨eH,0,0⟩) i4 ⟨jj,by simpa using H2⟩ ?_;rintro⟨i,o⟩ h3 ⟨hi,H3⟩;dsimp only at*;refine aj (λe=>?_) (λe=>?_)
 ·have ax:i<i1 R:=i5
  have G3:=hS.at [_,_,_,_] H3;refine G3.1.1.eC (g:=qv) i i4 i5 (D[i]'(by omega)) i4 ?_;refine H3.alloc af i4 λa8 h4 y=>?_;have y:=y.bB;refine y.storeAll af 0 i4 i4 (qv (D[i]'(by omega))) i4 i4 i4 i4 λh5 K=>?_;refine⟨(D[i]'(by omega)).1,(K.box 0 i4).cell0 i4,?_⟩;refine K.oV.push af 0 i4 ajF i4 i6 (λ_=>rfl) kl (D[i]'(by omega)).1 i4 i6 i9 λo' h6 H6=>?_;refine⟨(i+1,o'),js,⟨i7,?_⟩,i7⟩;dsimp only;rw[aK D i,qW];exact H6
 have N:i=i1 R:=i5
 subst N;rw[qi i5]at H3;refine aA (λt:Nat×Sl×List Sl=>(t.2.1,(t.1:Int))) (λt h'=>t.1<=n/\t.2.2.length=i1 (iD known t.1)/\aa B h0 h' (an 22 t.2.1 1 bv (D.map qI++t.2.2)::xT (t.2.2.zip (iD known t.1))::au q 290 [xt (dB s)]::SA s (gG f p v r d j m J L)::As)) (λt=>n-t.1) (0,o,[]) i4 ⟨i5,i4,by simpa using H3⟩ ?_;rintro⟨i,o,sr⟩ h4 ⟨hi,A,y⟩;dsimp only at*;have a4:=FU known i;refine aj (λe=>?_) (λe=>?_)
 ·have ax:i<n:=i5
  have G4:=hS.at [_,_,_,_] y;refine G4.2.bG i i4 i5 _ i4 ?_;have ay:known.getD i eS=known[i]'(by omega):=by rw[qe,qd i5];rfl
  have M:=Pp known i;rw[ay]at M;refine bx (λe2=>?_) (λe2=>?_)
  ·rw[e2,g0 rfl]at M;refine y.lit af av gM i4 [(i:Int)] i4 (show 1*1<=2^20 by decide) i4 λb h5 K=>?_;have K:=K.bB.freeze 0 i4 λ_=>rfl;have H6:=aa.agZ K 2 0 i6 i4 i4;refine H6.push af 1 i4 ajF i4 i6 (λ_=>rfl) kl b i4 i6 i9 λo' h7 U=>?_;refine⟨(i+1,o',sr++[b]),js,⟨i7,by dsimp only;rw[M];simp[A],?_⟩,i7⟩;dsimp only;rw[M,List.zip_append A,<-qp];exact U.oV
  ·rw[e2,g9 jj,qN]at M;exact⟨(i+1,o,sr),js,⟨i7,by dsimp only;rw[M];exact A,by dsimp only;rw[M];exact y⟩,i7⟩
 have N:i=n:=i5
 subst N;have G4:=hS.at [_,_,_,_] y;have Q:i1 (rowsOf R known i)=i1 R+i1 sr:=by rw[rowsOf,qx,qy,A]
 have Z:ia h4 (λb=>b<h4.size) o 1 av (rowsOf R known i) (D.map qI++sr):=by
  refine⟨y.seq 0 i4 λ_=>rfl,by rw[Q];simp;omega,λk a l G T=>?_⟩;by_cases hk:k<i1 R
  ·rw[qo i9,qU,qd i5]at G;rw[rowsOf,qo i9,qU,qd hk]at T;simp only[Option.map_some,zR.injEq]at G T;subst G;subst T;exact(Fix.row G4.1 hk).1
  ·rw[qj i9]at G;rw[rowsOf,qj i9]at T;simp only[qy,O]at G T;have hm:(a,l)∈sr.zip (iD known i):=by refine yS.2 ⟨k-i1 R,?_⟩;rw[List.getElem?_zip_eq_some];exact⟨G,T⟩
   exact(y.at 1 i4) _ hm
 rw[V,ap];refine(adp (i:Int) o (rowsOf R known i) _ h4 Z i5 ?_).mono ?_
 ·intro x hx;rcases qz.1 hx with hx|hx
  ·obtain⟨e,he,rfl⟩:=qu.1 hx;have:=am e he;omega
  ·obtain⟨c,hc,rfl⟩:=qu.1 hx;simp
 rintro _ h5 ⟨F,E,I,rfl,R5⟩;have ah:FC (i:Int) (rowsOf R known i)=((dM i (rowsOf R known i)).steps,(dM i (rowsOf R known i)).dead,fK (dM i (rowsOf R known i)).used (rowsOf R known i).length):=by unfold FC;rw[g0 z,ql]
 rw[ah]at R5;dsimp only at R5;have K:=((y.oV).oV).comp R5;refine⟨((F,E,I),_),i4,?_⟩;have H6:aa B h0 h5 (an 357 F 2 fQ (dM i (rowsOf R known i)).steps::an 3 E 1 av (dM i (rowsOf R known i)).dead::an 3 I 1 av (fK (dM i (rowsOf R known i)).used (rowsOf R known i).length)::au q 290 [xt (dB s)]::SA s (gG f p v r d j m J L)::As):=aa.front (As:=au q 290 [xt (dB s)]::SA s (gG f p v r d j m J L)::As) (Bs:=[_,_,_]) K;refine H6.alloc af i4 λa3 h7 U=>?_;have U:=U.bB;refine U.storeAll af 0 i4 i4 [F,E,I] i4 i4 i4 i4 λh8 H8=>?_;refine⟨F,(H8.box 0 i4).cell0 i4,?_⟩;refine(Vz F _ 283 #[xt (dB q)] (λx=>decide (x.1>=(r.len:Int))) (λh'=>f8 h' q=dB (xt (dB s))/\f8 h' (s.add 5)=dB (xr r.ptr r.len r.cap)) i4 (St.mk' λh' Y=>⟨(Y.box 3 i4).cell0 i4,(Y.box 4 i4).cell i4⟩) (λx h' hq=>Xo s q r x h' hq) H8.oC X.1).mono ?_;rintro _ h9 ⟨u,rfl,H9⟩;refine⟨u,i4,?_⟩;refine H9.kj af 1 i4 i4 [u] i4 i4 i4 jj λa2 ad=>?_;refine⟨I,(ad.box 1 i4).cell i4,?_⟩;have ar:=ad.aX 6 [3,0,1,2,4,5];refine(Vy I _ 285 #[xt (dB q)] (λx=>decide (x>=(r.len:Int))) (λh'=>f8 h' q=dB (xt (dB s))/\f8 h' (s.add 5)=dB (xr r.ptr r.len r.cap)) i4 (St.mk' λh' Y=>⟨(Y.box 3 i4).cell0 i4,(Y.box 4 i4).cell i4⟩) (λx h' hq=>Xp s q r x h' hq) ar X.2).mono ?_;rintro _ a6 ⟨w,rfl,ao⟩;refine⟨w,i4,?_⟩;refine ao.store af 2 i4 i4 2 [w] i4 i4 i4 jj λa7 P=>?_;refine⟨dB s,(P.box 4 i4).cell0 i4,(u,E,w),(P.box 2 i4).aV _ i4,s,i4,?_⟩;refine P.store af 5 i4 i4 6 [u,E,w] i4 i4 i4 nq λa5 W=>⟨i4,u,E,w,?_⟩
 have e1:(λx:Int×Int=>!decide (x.1>=(r.len:Int)))=λx=>decide (x.1<(i1 R:Int)):=by
  funext x;rw[ab,O];by_cases h:x.1<(i1 R:Int)
  ·rw[hU h,ii i5];rfl
  ·rw[ii h,hU i5];rfl
 have e2:(λx:Int=>!decide (x>=(r.len:Int)))=λx=>decide (x<(i1 R:Int)):=by
  funext x;rw[ab,O];by_cases h:x<(i1 R:Int)
  ·rw[hU h,ii i5];rfl
  ·rw[ii h,hU i5];rfl
 rw[e1,e2]at W;exact W.aX 6 [5,1,3,0]
end
theorem Rz{l:Row}:¬fk l<i1 l↔l=aO l.length:=by
 rw[fk,wQ];constructor
 ·intro h;refine vP.2 ⟨i4,λx b=>?_⟩;by_cases a:x=0
  ·exact a
  ·exact absurd ⟨x,b,j7⟩ h
 ·rintro h ⟨x,b,a⟩;have:=(vP.1 h).2 x b;subst this;simp at a
theorem Xr(f:f7)(a b:Sl)(A B:aR)(m n w:Nat)(h:f9)(hf:fN h f)(ha:fE h a 1 aF A)(hb:fE h b 1 aF B)(hl:i1 A=m)(bq:i1 B=m)(q:ba n A)(hB:ba w B)(b2:1<=n)(hn:n+w<=64)(hm:m<=2^20)(hr:cb A=n):
  ac xB 199 #[xt (dB f),a,b] h λv h'=>(lL n A B/\∃r:Sl,v=.tuple #[r,xq xx 0]/\Sp h h' [fR 71 r 1 aF (go n A B)])∨(¬lL n A B/\v=.tuple #[xr eH 0 0,xq xx 10]/\Sp h h' []):=by
 have a9:n<=m:=by have:=rp A q;omega
 have d:i1 B=i1 A:=i5
 have ax:=ha.len;have K:=hb.len;refine Gw (dB f) a b ?_;unfold CW;refine bi ?_;refine(nI a A n h ha q).mono ?_;rintro v I ⟨rfl,rfl⟩;refine⟨_,i4,bo (λe=>j1) λ_=>?_⟩;refine(nI b B w I hb hB).mono ?_;rintro v O ⟨rfl,rfl⟩;refine⟨_,i4,bo (λe=>j1) λ_=>?_⟩;refine bY (λe=>absurd (by rw[ax,K,d]) e) λ_=>?_;refine ck (λe=>i5) λ_=>?_;refine(tu a A O ha).mono ?_;rintro v h3 ⟨rfl,rfl⟩;have a3:eI A=n:=by
  cases A with
  |nil=>simp at hl;omega
  |cons x t=>rw[eI,bD jj];exact q _ jj
 refine⟨_,i4,?_⟩;rw[a3];refine(Bc a A n h3 ha q).mono ?_;rintro v h4 ⟨r,rs,rfl,bk,R4⟩;refine⟨r,i4,?_⟩;have a6:=(R4.own 0 i4).len;refine aA (λt:Nat×List Sl=>(t.1:Int)) (λt h'=>t.1<=m/\t.2.length=m/\Sp h3 h' (ox r t.2 (pY A B t.1))) (λt=>m-t.1) (0,rs) i4 ⟨jj,i7,by simpa[pY,fb]using R4⟩ ?_;rintro⟨k,rs⟩ h5 ⟨hk,a7,U⟩;dsimp only at*;have R:i1 rs=i1 (pY A B k):=n0
 refine aj (λe=>?_) (λe=>?_)
 ·have J:k<m:=i5
  have N:k<i1 A:=i5
  have F:=pW (a:=r) R k n0;have eg:(pY A B k)[k]'(by rw[uC d];omega)=A[k]:=by have:=acy d N;rw[qd n0]at this;exact zR.inj this
  rw[eg]at F;have l1:A[k].length=n:=q _ (qg _);have l2:i1 (B[k]'(by omega))=w:=hB _ (qg _);refine(U.seq 0 i4 λ_=>rfl).oq k i4 i5 λa1 P ab=>?_;refine(hb.up U.ai).get k i4 i5 λrb ah=>?_;refine U.append af (k+1) F hO US i4 i6 (λ_=>rfl) ah iP i5 λs6 h6 H6=>⟨trivial,?_⟩
  refine H6.set af 0 i4 (λ_=>rfl) i4 k i4 i5 s6 i4 i4 i4 λh7 H7=>⟨trivial,?_⟩
  refine⟨(k+1,rs.set k s6),js,⟨i7,lz,?_⟩,i7⟩;dsimp only;rw[<-acz d N];show Sp h3 h7 (an 71 r 1 bv (rs.set k s6)::bE 5 1 aF (rs.set k s6) ((pY A B k).set k _));rw[<-lq R];exact H7
 ·have ap:k=i1 A:=i5
  subst ap;rw[acA d]at U;refine(uO f h5).mono ?_;rintro v h6 ⟨rfl,rfl⟩;refine⟨dB f,i4,?_⟩;have Y:=nw d.symm q hB;have b1:=mV d.symm;refine(Dd (m:=fb A B) (n:=n+w) hf hf.lt i5 Y i5 i5 i5 U).mono ?_;rintro v h7 ⟨l,rfl,a4,u⟩;rw[Ln d.symm q,hr];refine⟨_,i4,?_⟩;dsimp only;have W:=(u.own 0 i4).cap;have br:=(u.own 0 i4).len;have O:=hY Y n;refine aj (λe=>absurd (show(n:Int)<(n:Int)from e) i5) λ_=>?_;refine⟨⟨wb _,y6.2 (show n<=r.len by omega)⟩,?_⟩;obtain⟨M,X⟩:∃M,M=(bL (fb A B) n).2:=⟨_,rfl⟩
  have bd:i1 M=i1 A:=by have:=O.2;rw[<-X]at this;omega
  have L:ba (n+w) M:=by rw[X];exact O.1
  rw[<-X]at u;have S:i1 l=i1 M:=i5
  have o:lL n A B↔∀i (G:i<i1 M),n<=i->M[i]=aO M[i].length:=by
   unfold lL;rw[<-X];constructor
   ·intro H i G hn;refine H _ (yS.2 ⟨i-n,?_⟩);rw[wJ,show n+(i-n)=i by omega,qd G]
   ·intro H x hx;obtain⟨i,G,rfl⟩:=qK hx;simp only[ze]at G;rw[wi];exact H _ i5 i5
  refine aA (λi:Nat=>(i:Int)) (λi h'=>h'=h7/\n+i<=i1 M/\∀j (hj:j<i1 M),n<=j->j<n+i->M[j]=aO M[j].length) (λi=>i1 M-(n+i)) 0 i4 ⟨i4,i5,λj _ _ _=>i5⟩ ?_;rintro i h8 ⟨rfl,G,p⟩;rw[ql];refine aj (λe=>?_) (λe=>?_)
  ·have g:n+i<i1 M:=i5
   have F:=pW (a:=r) S (n+i) i5;have ao:i1 (M[n+i]'g)=n+w:=L _ (qg _);have D:=u.seq (n+i+1) F λ_=>rfl;have z:=(u.seq 0 i4 λ_=>rfl).drop n W;have ay:(l.drop n)[i]'(by simp;omega)=l[n+i]'(by omega):=wi;refine z.oq i i4 i9 λa1 P ab=>?_;rw[ay];refine(Jb _ _ h8 D).mono ?_;rintro _ h9 ⟨rfl,rfl⟩;refine⟨_,i4,aj (λT=>?_) λT=>?_⟩
   ·right;have E:fk (M[n+i]'g)<i1 (M[n+i]'g):=by
     by_cases hh:fk (M[n+i]'g)<i1 (M[n+i]'g)
     ·exact hh
     ·rw[g9 hh]at T;exact absurd T i6
    refine⟨λH=>?_,i4,.zip u.ai⟩;have:=o.1 H (n+i) g i5;exact absurd E (Rz.2 this)
   ·have E:¬fk (M[n+i]'g)<i1 (M[n+i]'g):=λhh=>by
     rw[g0 hh]at T;exact T (wb _)
    refine⟨i+1,j0,⟨i4,i5,λj hj I O=>?_⟩,i5⟩;by_cases am:j=n+i
    ·subst am;exact Rz.1 E
    ·exact p j hj I i5
  refine⟨⟨wb _,y6.2 (show n<=r.cap by omega)⟩,?_⟩;have y:lL n A B:=o.2 λj hj I=>p j hj I i5;have e1:go n A B=(M.take n).map (xp n):=by rw[go,<-X]
  have V:∀k (hk:k<n),(go n A B).take (k+1)=(go n A B).take k++[(M[k]'(by omega)).drop n]:=λk hk=>by
   rw[e1,aK _ _ i9,List.getElem_map,yh]
  have b0:i1 (go n A B)=n:=(Ab d.symm q hB hr).1;refine aA (λt:Sl×Nat=>(t.1,(t.2:Int))) (λt h'=>t.2<=n/\Sp h8 h' [fR 71 t.1 1 aF ((go n A B).take t.2)]) (λt=>n-t.2) (⟨eH,0,0⟩,0) i4 ⟨jj,(Sp.refl h8).My 71 1 aF⟩ ?_;rintro⟨s,k⟩ h9 ⟨bl,H9⟩;dsimp only at*;have HH:=u.comp H9;refine aj (λe=>?_) (λe=>?_)
  ·have J:k<n:=i5
   have F:=pW (a:=r) S k i5;have Q:(ox r l M++[fR 71 s 1 aF ((go n A B).take k)])[k+1]?=dB (an 5 (l[k]'(by omega)) 1 aF (M[k]'(by omega))):=by rw[qo (by simp[bE];omega)];exact F
   have ao:i1 (M[k]'(by omega))=n+w:=L _ (qg _);have Z:=HH.own (k+1) Q;have D:=HH.seq (k+1) Q λ_=>rfl;have a5:=Z.len;have z:=(HH.seq 0 i4 λ_=>rfl).take n i5;have a2:(l.take n)[k]'(by simp;omega)=l[k]'(by omega):=yh;refine z.oq k i4 i9 λa1 P ab=>?_;rw[a2];refine⟨⟨wb _,y6.2 i5⟩,?_⟩;refine(eW _ _ h9 (D.drop n Z.cap) i9).mono ?_;rintro v a8 ⟨c,rfl,ad⟩;have a0:=(H9.comp ad).freeze 1 i4 λ_=>rfl;refine⟨c,i4,?_⟩;refine a0.xZ af 0 1 i6 i4 i4 fM i9 λs' bb ar=>?_;refine⟨(s',k+1),js,⟨i7,?_⟩,i7⟩;dsimp only;rw[V k J];exact ar.del 1
  ·rw[qi i5]at H9;refine .inl ⟨y,s,i4,?_⟩;have:=(Sp.zip u.ai).comp H9;exact this
section
variable {B:aC} {h0 h:f9} {As:List HP}
theorem VA:∀{l:aD},l.Pairwise (·<·)->fO l=eR
 |[],_=>rfl
 |[_],_=>rfl
 |a::b::r,h=>by
  rw[List.pairwise_cons]at h;rw[fO,VA h.2,hU (h.1 b jj)];rfl
theorem aao{l:aD}(h:l.Pairwise (·<·)):Qf l:=λi a=>List.pairwise_iff_getElem.1 h i (i+1) i5 a i5
theorem aap{n:Nat}{R:List ft}{known:List Bool}(i:n<=64)(b:∀e∈R,(∀c∈e.1,0<=c/\c<(n:Int))/\e.1.Pairwise (·<·)):kh (n:Int) (rowsOf R known n)=eR:=by
 unfold kh;rw[qB];refine⟨i9,qZ.2 λr a=>?_⟩;unfold fP;rw[qB];rcases qz.1 a with a|a
 ·obtain⟨e,f,rfl⟩:=qu.1 a;exact⟨qZ.2 λc g=>by simpa using(b e f).1 c g,VA (b e f).2⟩
 ·obtain⟨d,rfl,h,_⟩:=Cc a;exact⟨i9,i4⟩
theorem aa.ajG{e:Nat}{v:Sl}{vs:aR}(H:aa B h0 h As)(i:Nat)(p:As[i]?=dB (ce e v 1 bv (uI 1 aF) vs)):
  ∃f:List Sl,aa B h0 h (As.set i (an e v 1 bv f)++[lM (f.zip vs)])/\f.length=i1 vs/\∀(c:Nat) (m:c<i1 f) (n:c<i1 vs),f[c].ptr.isNone=vs[c].isEmpty:=by
 have g:i<i1 As:=(qn.1 p).1;have w:aa B h0 h (As.set i (HP.ex λf:List Sl=>((an e v 1 bv f).sep (lM (f.zip vs))).and (i1 f=i1 vs/\∀(c:Nat) (m:c<i1 f) (n:c<i1 vs),f[c].ptr.isNone=vs[c].isEmpty))):=
  H.fZ i p λq ⟨rs,A,a,b,c,d,e⟩=>⟨rs,⟨λb=>v.on b,A,λx j=>(b x j).2,λx j=>(b x j).1,c,⟨a,λx j=>j⟩,λx j=>by
   obtain⟨k,D,l⟩:=qK j;simp only[List.length_zip]at D;rw[List.getElem_zip]at l;subst l;exact(e k _ _ (qd i5) (qd i5)).1⟩,d,λk m n=>by
   obtain⟨x,y⟩:=e k _ _ (qd m) (qd n);cases hv:vs[k]with
   |nil=>rw[y hv];rfl
   |cons z t=>
    have:=x.isSome (by rw[hv];simp);rw[this];rfl⟩
 obtain⟨f,o⟩:=w.YO i (zm g);rw[yt]at o;have u:=o.fact i (zm g);have r:=o.ago i (zm g);rw[yt]at r;have s:=r.split i (zm g);rw[yt]at s;exact⟨f,s,u⟩
def yv(x:Int×Sl):bh:=[xq xx x.1,x.2]
def akz:jp (Int×Sl) (Int×Row):=⟨λh q a b=>a.1=b.1/\Seq h q a.2 1 aF b.2,λa d=>⟨a.1,a.2.ai d⟩,λa c=>⟨a.1,a.2.mono c⟩⟩
abbrev OA:jp Sl (List (Int×Row)):=bK akz 2 yv
end
end Go.Qw
