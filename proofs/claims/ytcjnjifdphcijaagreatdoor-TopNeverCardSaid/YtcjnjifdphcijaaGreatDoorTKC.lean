/- Lemmas for the proof of the law; no condition. -/
import Derived.Test.YtcjnjifdphcijaaGreatDoorTKB
set_option maxHeartbeats 2000000
set_option linter.unusedVariables false
set_option maxHeartbeats 4000000
set_option linter.unusedSimpArgs false
open Go.Proofs.Tryz renaming prog -> xJ
open Go.Value renaming agg -> xE, bool -> xD, int -> xz, pointer -> xB, slice -> xA, string -> xC
open Go.IntKind renaming bits -> qG, i64 -> xF, u32 -> xH, u8 -> xG, wrap -> qe
open List renaming getElem_set_self -> yo, map_set -> vO, range -> qt, range' -> zM, replicate -> qh, replicate_zero -> y7, set_append_left -> vp, zipWith -> za
open Int renaming fdiv -> zx
open Nat renaming le_of_ble_eq_true -> zC, shiftRight_eq_div_pow -> yQ
open Prod renaming fst -> qL
open Option renaming some -> zQ
open BitVec renaming eq_of_toNat_eq -> wG, getLsbD_and -> xk, ofInt -> qN, ofNat -> wK, toNat -> xu, toNat_ushiftRight -> y0, xor_assoc -> wC, xor_self -> yV, xor_zero -> xd, zero_xor -> xf
open Bool renaming and_eq_false_iff -> vk
open Go.Instr renaming makeSlice -> zt, storeAt -> qE
set_option maxRecDepth 100000
open Option renaming some -> dB, none -> eH
open Bool renaming true -> eR, false -> eS
open Go renaming Addr -> f7
open Go.Qw renaming cellOf -> f8, Heap -> f9
open List renaming length -> i0
namespace Go.Qw
open Go.Proofs
variable {B:ak} {h0 h:f9} {As:List HP} {a b:f7} {mc:aR} {offs:Int} {da:List bK} {w:Pow} {ds:aC} {d:aW}
section
variable {pw:f7}
theorem kX{p:ak}(s:Sl)(l:au)(x:Int)(h:f9)(g:Seq h p s 1 az l)(n:i0 l<=2^40:=by omega):ai xJ 42 #[s,xz xF x] h λv h'=>v=xD (decide (x∈l))/\h'=h:=by
 refine ts Tryz.func42 ?_;refine(my s x (R:=λv h'=>(∃i:Int,v=xz xF i/\(decide (i>=0)=decide (x∈l)))/\h'=h) ?_).mono ?_
 ·skip
  have m:=g.len;refine aq (λi:Nat=>(i:Int)) (λi h'=>i<=i0 l/\x∉l.take i/\h'=h) (λi=>i0 l-i) 0 i4 ⟨i5,jj,i4⟩ ?_;rintro i j ⟨f,a,rfl⟩;refine ae (λe=>?_) (λe=>?_)
  ·have b:i<i0 l:=by have k:(i:Int)<(s.len:Int):=e;omega
   refine g.bo i i4 b l[i] i4 ?_;refine bf (λd=>⟨⟨i,i4,?_⟩,i4⟩) (λd=>?_)
   ·rw[hU (show(i:Int)>=0 by omega),hU (by rw[d];exact qf b)]
   ·refine⟨i+1,j0,⟨i5,λc=>?_,i4⟩,i5⟩;rw[aD _ _ b]at c;rcases qw.1 c with c|c
    ·exact a c
    ·exact d (qx.1 c)
  ·have k:¬(i:Int)<(s.len:Int):=e;rw[qg i5]at a;exact⟨⟨-1,i4,by rw[hZ a];rfl⟩,i4⟩
 ·rintro _ j ⟨⟨i,rfl,f⟩,rfl⟩;exact⟨i,i4,by rw[f],i4⟩
theorem uR(H:aa B h0 h (bg bB a pw mc offs da w ds::As)):ai xJ 39 #[xB (dB a)] h λv h'=>v=xD (dn w offs)/\h'=h:=by refine ts Tryz.func39 ?_;refine bc (λe=>j1) λ_=>(pD H).mono ?_;rintro _ _ ⟨rfl,rfl⟩;exact⟨_,i4,i4,i4⟩
def Ar(slot cells:Int):Bool:=decide ((0<=slot/\slot<64)/\1<=cells/\cells<=512)
theorem Fa(slot cells:Int)(h:f9):ai xJ 41 #[xz xF slot,xz xF cells] h λv h'=>v=xD (Ar slot cells)/\h'=h:=by
 refine ts Tryz.func41 ?_;unfold Ar;refine ae (λc=>ae (λb=>ae (λa=>⟨?_,i4⟩) λa=>⟨?_,i4⟩) λb=>⟨?_,i4⟩) λc=>⟨?_,i4⟩
 ·congr 1;rw[decide_eq_decide];omega
 all_goals (rw[hZ i5])
theorem aef(slot cells:Int)(x:bF)(m:aw)(j:df h x m)(g:cI m)(H:aa B h0 h (bg bB a pw (bh x) offs da w ds::As))(b:dn w offs=eR∨Ar slot cells=eS∨slot∉m.drives∨slot∈aN ds m.drives):
  ai xJ 22 #[xB (dB a),xz xF slot,xz xF cells] h λv h'=>v=xz xF (if dn w offs then 14 else if Ar slot cells=eS then 1 else if slot∉m.drives then 5 else 4)/\Sp h h' []:=by
 refine ts Tryz.func22 ?_;have o:=g.dr;refine(uR H).mono ?_;rintro _ D ⟨rfl,rfl⟩;refine⟨_,i4,bc (λe=>⟨oi,Sp.refl _⟩) λe=>?_⟩;refine(Ak x m j g H).mono ?_;rintro _ E ⟨y,rfl,q⟩;refine⟨y,i4,q.alloc ag i4 λa3 h3 u=>?_⟩;refine u.storeAll ag 1 i4 i4 (bh y) i4 i4 i4 i4 λn c=>?_;refine(Fa slot cells n).mono ?_;rintro _ i ⟨rfl,rfl⟩;refine⟨_,i4,aU (λd=>⟨sp,.zip c.ac⟩) λd=>?_⟩;have t:df i y m:=c.at 0 i4;refine⟨y.2.2.2.2.2.2.1,(c.box 1 i4).cell i4,(kX _ m.drives slot i t.drives).mono ?_⟩;rintro _ A ⟨rfl,rfl⟩;refine⟨_,i4,aU (λf=>⟨by rw[e,d,g9 jj,g9 jj,g0 (of_decide_eq_false f)],.zip c.ac⟩) λf=>?_⟩;refine(dM x m (j.up c.ac) g (H.up c.ac)).mono ?_;rintro _ p ⟨r,rfl,l⟩;have s:i0 (aN ds m.drives)<=i0 m.drives:=qJ _ _;refine⟨r,i4,(kX r _ slot p (l.seq 0 i4 λ_=>rfl)).mono ?_⟩;rintro _ h8 ⟨rfl,rfl⟩;refine⟨_,i4,bc (λk=>⟨by rw[e,d,g9 jj,g9 jj,g9 λz=>z (ii f)],.zip (c.comp l).ac⟩) λk=>?_⟩;rcases b with b|b|b|b
 ·rw[e]at b;cases b
 ·rw[d]at b;cases b
 ·exact absurd (ii f) b
 ·exact absurd b (of_decide_eq_false k)
theorem Wj(n:Nat)(j:n<64)(x:bF)(H:aa B h0 h (iT pw b d::bg bB a pw (bh x) offs da w ds::As)):
  ai xJ 43 #[xB (dB a),xz xF n,xB (dB b)] h λv h'=>v=.tuple #[]/\aa B h0 h' (bg bB a pw (bh x) offs (da.set n (dB b)) w (ds.set n (dB d))::As):=by
 refine ts Tryz.func43 ?_;refine bc (λ_=>?_) λe=>j1
 refine ae (λ_=>ae (λ_=>?_) λe=>absurd (show(n:Int)<64 by omega) e) λe=>absurd (show(n:Int)>=0 by omega) e;refine⟨a,i4,⟨i5,i5⟩,?_⟩;rw[qj,zV];have i:=H.aK 2 [1,0];obtain⟨ok,f⟩:=Qw.aa.nI i;have g:(a.add 10).add n=a.add (10+n):=by unfold Addr.add;simp[wY]
 rw[g];refine f.storeAt ag 0 i4 i4 i4 i4 i4 (by simp[ok.la];omega) λh' c=>?_;rw[zh,JX ok.l8]at c;exact⟨i4,aa.Zd ok j c⟩
theorem NA(slot:Int)(x:bF)(m:aw)(i:df h x m)(c:cI m)(H:aa B h0 h (bg bB a pw (bh x) offs da w ds::As))(b:dn w offs=eR∨slot∉aN ds m.drives):
  ai xJ 23 #[xB (dB a),xz xF slot] h λv h'=>v=xz xF (if dn w offs then 14 else 5)/\Sp h h' []:=by
 refine ts Tryz.func23 ?_;have g:=c.dr;refine(uR H).mono ?_;rintro _ l ⟨rfl,rfl⟩;refine⟨_,i4,bc (λe=>⟨oi,Sp.refl _⟩) λe=>?_⟩;refine(dM x m i c H).mono ?_;rintro _ k ⟨r,rfl,f⟩;have j:i0 (aN ds m.drives)<=i0 m.drives:=qJ _ _;refine⟨r,i4,(kX r _ slot k (f.seq 0 i4 λ_=>rfl)).mono ?_⟩;rintro _ h3 ⟨rfl,rfl⟩;refine⟨_,i4,aU (λd=>⟨oi,.zip f.ac⟩) λd=>?_⟩;rcases b with b|b
 ·rw[e]at b;cases b
 ·exact absurd (ii d) b
theorem Tk(H:aa B h0 h (iT pw b d::As)):ai xJ 59 #[xB (dB b)] h λv h'=>v=.tuple #[]/\aa B h0 h' (iT pw b d.Cu::As):=by
 refine ts Tryz.func59 ?_;obtain⟨ok,s,n,g⟩:=H.oI;refine bc (λ_=>?_) λe=>j1
 refine⟨b,i4,g.store ag 0 i4 i4 6 [xD eR] i4 i4 i4 ln λo c=>?_⟩;refine⟨b,i4,c.store ag 0 i4 i4 2 [xA eH 0 0] i4 i4 i4 ln λh3 f=>?_⟩;refine⟨b,i4,f.store ag 0 i4 i4 3 [xz xF 0] i4 i4 i4 ln λk i=>?_⟩;refine⟨b,i4,i.store ag 0 i4 i4 4 [xA eH 0 0] i4 i4 i4 ln λl j=>?_⟩;refine⟨b,i4,j.store ag 0 i4 i4 5 [xD eS] i4 i4 i4 ln λm a=>⟨i4,?_⟩⟩;refine aa.tK (s:=⟨eH,0,0⟩) (b:=⟨eH,0,0⟩) ⟨qk _,zB _,ok.room,by simp[aW.Cu],zB _,by simp[aW.Cu]⟩ ?_;exact((a.te 34 5 1 aB).te 34 5 1 aB).aK 5 [2,0,1]
theorem Po(n:Nat)(x:bF)(m:aw)(t:df h x m)(f:cI m)(H:aa B h0 h (bg bB a pw (bh x) offs da w ds::As))(y:dn w offs=eS)(A:(n:Int)∈aN ds m.drives)(u:ds[n]?=dB (dB d)):
  ai xJ 23 #[xB (dB a),xz xF n] h λv h'=>v=xz xF 0/\aa B h0 h' (bg bB a pw (bh x) offs da w (ds.set n (dB d.Cu))::As):=by
 refine ts Tryz.func23 ?_;have p:=f.dr;refine(uR H).mono ?_;rintro _ I ⟨rfl,rfl⟩;refine⟨_,i4,bc (λe=>by rw[y]at e;cases e) λe=>?_⟩;refine(dM x m t f H).mono ?_;rintro _ D ⟨r,rfl,i⟩;have z:i0 (aN ds m.drives)<=i0 m.drives:=qJ _ _;refine⟨r,i4,(kX r _ (n:Int) D (i.seq 0 i4 λ_=>rfl)).mono ?_⟩;rintro _ h3 ⟨rfl,rfl⟩;refine⟨_,i4,aU (λg=>absurd A (of_decide_eq_false g)) λg=>?_⟩;have j:=H.up i.ac;obtain⟨ok,q⟩:=aa.cz j;refine(lV (n:Int) ok q).mono ?_;rintro _ F ⟨rfl,rfl⟩;obtain⟨b,c,E⟩:=Qw.aa.iJ j u;have l:n<64:=by have:=(ql.1 c).1;rw[ok.la]at this;exact this
 have s:gH da (n:Int)=dB b:=by unfold gH;rw[g0 i5,qj,c];rfl
 rw[s];refine⟨_,i4,(Tk E).mono ?_⟩;rintro _ G ⟨rfl,o⟩;exact⟨(),i4,i4,Qw.aa.nJ (k:=bB) (n:=n) c o⟩
end
variable {k:Kit} {n:Nat}
section
variable {pw:f7}
theorem Tl(h8:i0 mc=8):(cB mc pw offs da).set (10+n) (xB eH)=cB mc pw offs (da.set n eH):=by unfold cB;rw[qQ _ _ i5,h8,show 10+n-8=n+1+1 by omega,zo,zo,vO]
theorem aa.Ze(ok:ge mc da ds)(q:n<64)(H:aa B h0 h (av a k.tS (cB mc pw offs (da.set n eH))::dc k.tP pw w::(gb k pw da ds++As))):aa B h0 h (bg k a pw mc offs (da.set n eH) w (ds.set n eH)::As):=by
 have f:=ok.la;have m:=ok.ls;have l:ge mc (da.set n eH) (ds.set n eH):=⟨ok.l8,p0,by simp[m],λi=>by
  by_cases b:n=i
  ·subst b;rw[qd,qd,ze i5,ze i5];rfl
  ·have:=ok.same i;rw[qd,qd]at this⊢;rw[zw b,zw b];exact this⟩
 have g:=Bg (k:=k) (pw:=pw) ok;have d:gb k pw (da.set n eH) (ds.set n eH)=(gb k pw da ds).set n emp:=by
  apply zy;intro j;simp only[gb,qV,List.getElem?_zipWith,List.length_zipWith];by_cases e:n=j
  ·subst e;rw[g0 i4,g0 i5,g0 i4,g0 i5,g0 i4,g0 i5];rfl
  ·simp[e]
 refine aa.nW l ?_;rw[d];obtain⟨L,o⟩:∃L,L=gb k pw da ds:=⟨_,rfl⟩
 rw[<-o]at H g⊢;have c:n<i0 L:=i5
 have H:=H.fM (n+2) (A:=L[n]) (D:=emp) (by rw[qq,qq,qm c,qc c]) λ_ _=>trivial;have p:(av a k.tS (cB mc pw offs (da.set n eH))::dc k.tP pw w::(L++As)).set (n+2) emp=av a k.tS (cB mc pw offs (da.set n eH))::dc k.tP pw w::(L.set n emp++As):=by rw[zo,zo,vp _ _ c]
 rw[p]at H;exact H
end
def EC(m:aw)(l:au):aw:={m with seq:=m.seq+1,drives:=l}
def iV(m:aw)(offs:Int)(w:Pow)(ds:aC)(slot cells:Int):Int×aw×Pow×aC:=
 if dn w offs then(14,m,w,ds)else if Ar slot cells=eS then(1,m,w,ds)else if slot∈m.drives then(4,m,w,ds)else if m.seq>=2147483647 then(7,m,w,ds)else
 let r:=cR m offs w (ds.set slot.toNat (dB (aW.new cells.toNat))) (EC m (iA (m.drives++[slot])))
 (r.1,r.2.1,r.2.2.1,if r.1=7 then r.2.2.2.set slot.toNat eH else r.2.2.2)
section
variable {pw:f7}
theorem NB(n:Nat)(f:n<64)(x:bF)(H:aa B h0 h (bg bB a pw (bh x) offs da w ds::As)):
  ai xJ 43 #[xB (dB a),xz xF n,xB eH] h λv h'=>v=.tuple #[]/\aa B h0 h' (bg bB a pw (bh x) offs (da.set n eH) w (ds.set n eH)::As):=by
 refine ts Tryz.func43 ?_;refine bc (λ_=>?_) λe=>j1
 refine ae (λ_=>ae (λ_=>?_) λe=>absurd (show(n:Int)<64 by omega) e) λe=>absurd (show(n:Int)>=0 by omega) e;refine⟨a,i4,⟨i5,i5⟩,?_⟩;rw[qj,zV];obtain⟨ok,c⟩:=Qw.aa.nI H;have d:(a.add 10).add n=a.add (10+n):=by unfold Addr.add;simp[wY]
 rw[d];refine c.storeAt ag 0 i4 i4 i4 i4 i4 (by simp[ok.la];omega) λh' b=>?_;rw[zh,Tl ok.l8]at b;exact⟨i4,aa.Ze ok f b⟩
theorem HD(x:bF)(m:aw)(j:df h x m)(i:cI m)(H:aa B h0 h (bg bB a pw (bh x) offs da w ds::As)):
  ai xJ 40 #[xB (dB a)] h λv h'=>∃(y:bF) (L:List (dP×Qw.ci)) (pool:List (Sl×au)),v=fN y/\(y.1=m.seq/\y.2.1=m.next/\(y.2.2.1,y.2.2.2.1,y.2.2.2.2.1)=m.p/\y.2.2.2.2.2.1=m.extra)/\L.map Prod.snd=m.objs/\(∀p∈L,Bf pool p)/\
   Sp h h' [kp 1 az pool,an 3 y.2.2.2.2.2.2.1 1 az m.drives,an 111 y.2.2.2.2.2.2.2 4 cD (L.map qL)]:=by
 refine ts Tryz.func40 ?_;obtain⟨ok,d⟩:=aa.cz H;refine(Sp.refl h).alloc ag i4 λr k c=>?_;have b:=d.ac c.ac d.lt;refine bc (λe=>j1) λ_=>⟨a,i4,x,b.aE _ i4,(pA x m k (j.up c.ac) i).mono ?_⟩;rintro _ s ⟨y,L,pool,rfl,g,n,q,o⟩;have l:=c.comp o;refine⟨y,i4,?_⟩;refine l.store ag 0 i4 i4 0 (bh y) i4 i4 i4 k7 λh3 f=>?_;exact⟨y,(f.box 0 i4).aE _ i4,y,L,pool,i4,g,n,q,f.bX [1,2,3]⟩
theorem Wk(slot cells:Int)(x:bF)(m:aw)(Z:bp m=eR)(H:aa B h0 h (bg bB a pw (bh x) offs da w ds::cU x m::As)):
  ai xJ 20 #[xB (dB a),xz xF slot,xz xF cells] h λv h'=>v=xz xF (iV m offs w ds slot cells).1/\
   ∃y R,aa B h0 h' (bg bB a pw (bh y) offs R (iV m offs w ds slot cells).2.2.1 (iV m offs w ds slot cells).2.2.2::cU y (iV m offs w ds slot cells).2.1::As):=by
 refine ts Tryz.func20 ?_ (.two .n (.two .n (.two .n (.two .n (.two .n (.two .n (.two .n (.two .n (.two .n (.two (.join [] [(50,55)] .n) .n))))))))));have J:=jD Z;have ad:=iH Z;obtain⟨g1,g2,g3,g4⟩:=(dZ m).1 ((cv m).1 Z).1;refine(uR H).mono ?_;rintro _ h1 ⟨rfl,rfl⟩;refine⟨_,i4,bc (λe=>?_) λK=>?_⟩
 ·have i:iV m offs w ds slot cells=(14,m,w,ds):=by unfold iV;rw[g0 e]
  rw[i];exact⟨i4,x,da,H⟩
 refine(HD x m (H.at 1 i4) J H).mono ?_;rintro _ h2 ⟨y,L,pool,rfl,z,Y,hL,R2⟩;have H2:=(H.comp R2).front;refine⟨y,i4,H2.alloc ag i4 λa3 h3 T=>?_⟩;have T:=T.aY;refine T.storeAll ag 0 i4 i4 (bh y) i4 i4 i4 i4 λh4 s=>?_;refine(Fa slot cells h4).mono ?_;rintro _ h5 ⟨rfl,rfl⟩;refine⟨_,i4,aU (λu=>?_) λu=>?_⟩
 ·have i:iV m offs w ds slot cells=(1,m,w,ds):=by unfold iV;rw[g9 sz,g0 u]
  rw[i];exact⟨i4,x,da,s.aK 6 [4,5]⟩
 refine⟨y.2.2.2.2.2.2.1,(s.box 0 i4).cell i4,(kX _ m.drives slot h5 (s.seq 2 i4 λ_=>rfl)).mono ?_⟩;rintro _ h6 ⟨rfl,rfl⟩;refine⟨_,i4,bc (λQ=>?_) λQ=>?_⟩
 ·have i:iV m offs w ds slot cells=(4,m,w,ds):=by unfold iV;rw[g9 sz,g9 (by rw[u];decide),g0 (ii Q)]
  rw[i];exact⟨i4,x,da,s.aK 6 [4,5]⟩
 have l:slot∉m.drives:=of_decide_eq_false Q;refine⟨y.1,(s.box 0 i4).cell0 i4,ae (λI=>?_) λI=>?_⟩
 ·rw[z.1]at I;have i:iV m offs w ds slot cells=(7,m,w,ds):=by unfold iV;rw[g9 sz,g9 (by rw[u];decide),g9 l,g0 I]
  rw[i];exact⟨i4,x,da,s.aK 6 [4,5]⟩
 rw[z.1]at I;have F:=ii u;obtain⟨n,hn⟩:∃n:Nat,slot=n:=⟨slot.toNat,i5⟩
 have j:n<64:=i5
 have H5:=s.aK 6 [4,0,1,2,3,5];refine(KK H5).mono ?_;rintro _ h7 ⟨rfl,rfl⟩;refine⟨_,i4,(GW cells pw h7).mono ?_⟩;rintro _ h8 ⟨Q1,_⟩;obtain⟨b,rfl,R8⟩:=Q1 ⟨F.2.1,F.2.2⟩;have H8:=H5.bR R8;subst hn;refine⟨_,i4,(Wj n j x H8).mono ?_⟩;rintro _ h9 ⟨rfl,A⟩;obtain⟨c,k⟩:∃c,c=ds.set n (dB (aW.new cells.toNat)):=⟨_,rfl⟩
 rw[<-k]at A;have A:=A.aK 6 [1,3,2,4,0,5];refine⟨(),i4,y.1,(A.box 0 i4).cell0 i4,?_⟩
 try dsimp only
 rw[z.1,af (m.seq+1)];refine A.gA ag 0 i4 i4 [xz xF (m.seq+1)] i4 i4 i4 k7 λao D=>?_;refine⟨_,(D.box 0 i4).cell i4,?_⟩;refine D.push ag 1 i4 gy i4 i6 (λ_=>rfl) fx (n:Int) i4 i6 i5 λo al W=>?_;refine W.store ag 0 i4 i4 6 [o] i4 i4 i4 k7 λG f=>?_;obtain⟨d,g⟩:∃d:bF,d=(m.seq+1,y.2.1,y.2.2.1,y.2.2.2.1,y.2.2.2.2.1,y.2.2.2.2.2.1,o,y.2.2.2.2.2.2.2):=⟨_,rfl⟩
 have ed:d.2.2.2.2.2.2.1=o:=by rw[g]
 have eo:d.2.2.2.2.2.2.2=y.2.2.2.2.2.2.2:=by rw[g]
 have f:aa B h0 G (av a3 85 (bh d)::an 3 d.2.2.2.2.2.2.1 1 az (m.drives++[(n:Int)])::kp 1 az pool::an 111 d.2.2.2.2.2.2.2 4 cD (L.map qL)::bg bB a pw (bh x) offs (da.set n (dB b)) w c::cU x m::As):=by rw[ed,eo,g];exact f
 refine⟨_,(f.box 0 i4).cell i4,(Da d.2.2.2.2.2.2.1 (m.drives++[(n:Int)]) G (f.own 1 i4) i9).mono ?_⟩;rintro _ ab ⟨rfl,P,O⟩;have p:=f.mK 1 i4 O P;obtain⟨dr,q⟩:∃dr,dr=iA (m.drives++[(n:Int)]):=⟨_,rfl⟩
 rw[<-q]at p;refine⟨(),i4,d,(p.box 0 i4).aE _ i4,?_⟩;obtain⟨M,E⟩:∃M,M=EC m dr:=⟨_,rfl⟩
 have N:aa B h0 ab (cU d M::bg bB a pw (bh x) offs (da.set n (dB b)) w c::cU x m::As):=aa.FP (m:=M) (L:=L) (pool:=pool) (by rw[E,g];exact⟨i4,z.2.1,z.2.2.1,z.2.2.2⟩) (by rw[E];exact Y) hL (by rw[E];exact p.aK 6 [2,1,3,4,5]);have U:cI M:=by rw[E];exact⟨by show dr.length<=_;rw[q,Cv];simp;omega,J.ob,J.nm⟩
 refine(Pn x m d M (As:=cU d M::As) (St.ee 0 i4 λ_ hq=>hq) J U i5 (N.aK 3 [1,2,0])).mono ?_;rintro _ ah ⟨rfl,X,t⟩;have i:iV m offs w ds n cells=((cR m offs w c M).1,(cR m offs w c M).2.1,(cR m offs w c M).2.2.1,if(cR m offs w c M).1=7 then(cR m offs w c M).2.2.2.set n eH else(cR m offs w c M).2.2.2):=by unfold iV;rw[g9 sz,g9 (by rw[u];decide),g9 l,g9 I,E,q,k];rfl
 rw[i];obtain⟨r,hr⟩:∃r,r=cR m offs w c M:=⟨_,rfl⟩
 rw[<-hr]at t⊢;refine⟨_,i4,aO (bf (λV=>?_) λV=>?_)⟩
 ·refine(NB n j X (t.aK 3 [0,1])).mono ?_;rintro _ am ⟨rfl,S⟩;exact⟨(),i4,i4,X,_,by rw[g0 V];exact S⟩
 ·exact⟨i4,X,_,by rw[g9 V];exact t.aK 3 [0,1]⟩
end
section
variable {pw:f7}
theorem DD{k:Int}{d:aW}(e:aS ds k=dB d)(H:aa B h0 h (bg bB a pw mc offs da w ds::As)):∃(b:f7) (s g:Sl),gH da k=dB b/\bT h b 155 (fk pw d s g)/\fA h s 1 aB d.l/\im d:=by
 obtain⟨ok,_⟩:=aa.cz H;rcases nK ok k with⟨h1,_⟩|⟨n,d',b,rfl,hn,h1,h2,h3,h4⟩
 ·rw[h1]at e;cases e
 ·rw[h2]at e;injection e with e
  subst e;obtain⟨m,c,j⟩:=Qw.aa.iJ H h1;rw[h3]at c;injection c with c
  injection c with c
  subst c;obtain⟨f,s,g,i⟩:=aa.oI j;exact⟨b,s,g,h4,i.box 0 i4,(i.aK 2 [1,0]).BJ λ_=>rfl,f⟩
theorem NC{k:Int}(H:aa B h0 h (bg bB a pw mc offs da w ds::As)):ai xJ 56 #[xB (dB a),xz xF k] h λv h'=>v=.pointer (gH da k)/\h'=h:=by obtain⟨ok,b⟩:=aa.cz H;exact lV k ok b
theorem ND{k:Int}{d:aW}{b:f7}(x:bF)(m:aw)(n:aS ds k=dB d)(g:gH da k=dB b)(j:df h x m)(i:cI m)(H:aa B h0 h (bg bB a pw mc offs da w ds::As)):
  ai xJ 145 #[xB (dB b),fN x] h λv h'=>v=xD (iY m d.l)/\Sp h h' []:=by
 obtain⟨q,s,o,c,f,e,p⟩:=DD n H;rw[g]at c;injection c with c
 subst c;exact Tf b pw d s o x m h f e p j i
end
theorem aeg{order:au}(a:order≠[])(id:Nat):fI order id=order[id%i0 order]'(yK _ (by cases order with|nil=>exact absurd rfl a|cons=>simp)):=by
 have c:0<i0 order:=by cases order with|nil=>exact absurd rfl a|cons=>simp
 have b:=yK id c;unfold fI Hu;rw[g9 (by rintro(h|h);exact a h;omega)];have e:((id:Int)%(i0 order:Int)).toNat=id%i0 order:=i5
 rw[e,qd,qc b];rfl
def Au(a b c:Int):Int×Int×Int:=(1+a%6,1+b%3,1+c%9)
theorem Tm(a b c:Int)(h:f9):ai xJ 28 #[xz xF a,xz xF b,xz xF c] h λv h'=>v=jv (Au a b c)/\Sp h h' []:=by
 refine tJ a b c ?_;refine(Sp.refl h).alloc ag i4 λx g e=>?_;refine(bQ a 6 g).mono ?_;rintro v f ⟨rfl,rfl⟩;refine⟨_,i4,(bQ b 3 f).mono ?_⟩;rintro v h3 ⟨rfl,rfl⟩;refine⟨_,i4,(bQ c 9 h3).mono ?_⟩;rintro v j ⟨rfl,rfl⟩;refine⟨_,i4,?_⟩
 try dsimp only
 rw[af _,af _,af _];refine e.storeAll ag 0 i4 i4 [xz xF (1+a%6),xz xF (1+b%3),xz xF (1+c%9)] i4 i4 i4 i4 λi d=>?_;exact⟨Au a b c,(d.box 0 i4).aE _ i4,i4,.zip d.ac⟩
theorem Ki(a b c:Int):bx (Au a b c)=eR:=by
 rw[bN];unfold Au
 try dsimp only
 omega
def bv(a pw:f7)(b:List bK)(offs:Int)(w:Pow)(ds:aC)(m:aw):HP:=HP.ex λx:bF=>(bg bB a pw (bh x) offs b w ds).sep (cU x m)
variable {m:aw}
section
variable {pw:f7}
theorem gE(H:aa B h0 h (bv a pw da offs w ds m::As)):∃x,aa B h0 h (bg bB a pw (bh x) offs da w ds::cU x m::As):=by obtain⟨x,H⟩:=H.pR;exact⟨x,H.rn.nf⟩
theorem kG{x:bF}(H:aa B h0 h (bg bB a pw (bh x) offs da w ds::cU x m::As)):aa B h0 h (bv a pw da offs w ds m::As):=
 aa.td (F:=λx:bF=>(bg bB a pw (bh x) offs da w ds).sep (cU x m)) x H.nf.lq
theorem mE(H:aa B h0 h (bv a pw da offs w ds m::As)):i0 ds=64/\∀k d,aS ds k=dB d->i0 d.l<=d.room/\d.room<=512/\im d:=by obtain⟨x,H⟩:=gE H;obtain⟨ok,_⟩:=aa.cz H;refine⟨ok.ls,λk d e=>?_⟩;obtain⟨b,s,f,_,_,_,c⟩:=DD e H;exact⟨c.len,c.room,c⟩
theorem abS(name:ByteArray)(s:Sl)(b:aM)(i:St B h0 As λh=>Rd h s 1 aB b)(d:s.len<=s.cap)(g:name.size<=2^40)(c:bp m=eR)(e:i0 b<=2^20)(H:aa B h0 h (bv a pw da offs w ds m::As)):
  ai xJ 33 #[xB (dB a),xC name,s] h λv h'=>v=xz xF (cY m offs w ds name b).1/\
   aa B h0 h' (bv a pw da offs (cY m offs w ds name b).2.2.1 (cY m offs w ds name b).2.2.2 (cY m offs w ds name b).2.1::As):=by
 obtain⟨x,H⟩:=gE H;obtain⟨n,l,f,k⟩:=(dZ m).1 ((cv m).1 c).1;refine(YV x m name s b i d g (jD c) f k (iB c) (iH c) i5 i5 e H).mono ?_;rintro _ h' ⟨rfl,y,j⟩;exact⟨i4,kG j⟩
theorem abT(slot cells:Int)(c:bp m=eR)(H:aa B h0 h (bv a pw da offs w ds m::As)):
  ai xJ 20 #[xB (dB a),xz xF slot,xz xF cells] h λv h'=>v=xz xF (iV m offs w ds slot cells).1/\
   ∃b,aa B h0 h' (bv a pw b offs (iV m offs w ds slot cells).2.2.1 (iV m offs w ds slot cells).2.2.2 (iV m offs w ds slot cells).2.1::As):=by
 obtain⟨x,H⟩:=gE H;refine(Wk slot cells x m c H).mono ?_;rintro _ h' ⟨rfl,y,b,d⟩;exact⟨i4,b,kG d⟩
theorem NE(b:bp m=eR)(H:aa B h0 h (bv a pw da offs w ds m::As)):
  ai xJ 50 #[xB (dB a)] h λv h'=>∃r:Sl,v=r/\Sp h h' [an 3 r 1 az (aN ds m.drives)]:=by
 obtain⟨x,H⟩:=gE H;exact dM x m (H.at 1 i4) (jD b) H
theorem Zf(b:bp m=eR)(H:aa B h0 h (bv a pw da offs w ds m::As)):
  ai xJ 40 #[xB (dB a)] h λv h'=>∃y:bF,v=fN y/\Sp h h' [cU y m]:=by
 obtain⟨x,H⟩:=gE H;exact Ak x m (H.at 1 i4) (jD b) H
theorem DE(k:Int)(H:aa B h0 h (bv a pw da offs w ds m::As)):ai xJ 56 #[xB (dB a),xz xF k] h λv h'=>v=.pointer (gH da k)/\h'=h:=by obtain⟨x,H⟩:=gE H;exact NC H
theorem IY{k:Int}{d:aW}(c:aS ds k=dB d)(H:aa B h0 h (bv a pw da offs w ds m::As)):∃b,gH da k=dB b:=by obtain⟨x,H⟩:=gE H;obtain⟨b,_,_,e,_⟩:=DD c H;exact⟨b,e⟩
theorem FU{k:Int}{d:aW}{b:f7}(j:aS ds k=dB d)(i:gH da k=dB b)(H:aa B h0 h (bv a pw da offs w ds m::As)):∃s e:Sl,bT h b 155 (fk pw d s e)/\fA h s 1 aB d.l/\im d:=by
 obtain⟨x,H⟩:=gE H;obtain⟨o,s,e,c,g,f,n⟩:=DD j H;rw[i]at c;injection c with c
 subst c;exact⟨s,e,g,f,n⟩
theorem Wm(o b:Int)(e:bp m=eR)(H:aa B h0 h (bv a pw da offs w ds m::As)):
  ai xJ 188 #[xB (dB a),xz xF o,xz xF b] h λv h'=>∃r:Sl,v=r/\Sp h h' [fo 22 r 3 1 az (dS m ds o b (aN ds m.drives))]:=by
 have c:=(mE H).2;obtain⟨x,H⟩:=gE H;exact Td x m o b (H.at 1 i4) (jD e) (iH e) (λk d f=>by have:=c k d f;omega) H
theorem NF(H:aa B h0 h (bv a pw da offs w ds m::As)):ai xJ 37 #[xB (dB a)] h λv h'=>v=xD (dn w offs)/\h'=h:=by obtain⟨x,H⟩:=gE H;exact pD H
end
def Lm(a:Int)(k:Nat):UInt8:=b8 (zx a (2^(8*k)))
def fv(c:aM)(at_:Nat)(a:Int):Nat->aM
 |0=>c
 |k+1=>(fv c at_ a k).set (at_+k) ((fv c at_ a k).getD (at_+k) 0^^^Lm a k)
def uS(c:aM)(at_:Int)(a:Int):aM:=fv c at_.toNat a 4
theorem uT(c:aM)(a:Nat)(b:Int):∀k,i0 (fv c a b k)=i0 c
 |0=>rfl
 |k+1=>by unfold fv;rw[q9];exact uT c a b k
def ug(d:aW)(i at_ a:Int):Bool:=decide ((0<=i/\i<(i0 d.l:Int))/\(0<=at_/\at_<=60)/\a≠0)
def aW.kL(d:aW)(i at_ a:Int):aW:=if ug d i at_ a then{d with l:=d.l.set i.toNat (uS (d.l.getD i.toNat []) at_ a)}else d
theorem NG{α:Type}{e k:Nat}{f:α->aR}{rs:List Sl}{b:List (List α)}(h:i0 rs=i0 b)(n:Nat)(d:n<i0 b)(x:List α):bt e k f rs (b.set n x)=(bt e k f rs b).set n (an e (rs[n]'(by omega)) k f x):=by
 apply zy;intro j;by_cases c:j<i0 b
 ·rw[fU (by rw[q9];exact h) j (by rw[q9];exact c)];by_cases a:n=j
  ·subst a;rw[ze (by rw[lQ h];exact d),yo]
  ·rw[zw a,fU h j c,List.getElem_set_ne a]
 ·rw[qM (by rw[lQ (by rw[q9];exact h),q9];omega),qM (by rw[q9,lQ h];omega)]
section
variable {pw:f7}
theorem To(i at_ f:Int)(hm:0<=f/\f<2^32)(H:aa B h0 h (iT pw a d::As)):
  ai xJ 65 #[xB (dB a),xz xF i,xz xF at_,xz xH f] h λv h'=>v=xD (ug d i at_ f)/\aa B h0 h' (iT pw a (d.kL i at_ f)::As):=by
 refine ts Tryz.func65 ?_ (.two .n (.two (.join [] [(8,9),(10,37)] .n) (.two (.two .n (.inn (.loop [(37,aT)] [(9,10),(37,60)] .n))) .n)));obtain⟨ok,s,t,M⟩:=aa.oI H;have Z:=(aa.th (M.aK 2 [1,0])).1;have U:=M.box 0 i4;have F:ug d i at_ f=eS->(Value.bool eS=xD (ug d i at_ f)/\aa B h0 h (iT pw a (d.kL i at_ f)::As)):=λe=>by
  unfold aW.kL;rw[e];exact⟨i4,H⟩
 have g:¬((0<=i/\i<(i0 d.l:Int))/\(0<=at_/\at_<=60)/\f≠0)->ug d i at_ f=eS:=λh=>hZ h;refine aO (bc (λe=>j1) λ_=>ae (λe=>F (g i5)) λe1=>⟨a,i4,s,U.cell i4,ae (λe=>F (g i5)) λe2=>ae (λe=>F (g i5)) λe3=>ae (λe=>F (g i5)) λe4=>bf (λe=>F (g i5)) λY=>?_⟩);have W:0<=i/\i<(i0 d.l:Int):=i5
 have o:ug d i at_ f=eR:=hU ⟨W,⟨i5,i5⟩,Y⟩;obtain⟨n,rfl⟩:∃n:Nat,i=n:=⟨i.toNat,i5⟩
 obtain⟨p,rfl⟩:∃p:Nat,at_=p:=⟨at_.toNat,i5⟩
 have S:n<i0 d.l:=i5
 have w:d.l[n].length=64:=ok.cell _ (qf S);obtain⟨c,G⟩:∃c,c=d.l[n]:=⟨_,rfl⟩
 have V:aa B h0 h (fo 34 s 5 1 aB (d.l.set n (fv c p f 0))::av a 155 (fk pw d s t)::fP t d.laid::As):=by
  have e:d.l.set n (fv c p f 0)=d.l:=by show d.l.set n c=d.l;rw[G];exact List.set_getElem_self _
  rw[e];exact M.aK 3 [1,0,2]
 refine aq (λk:Nat=>(k:Int)) (λk h'=>k<=4/\aa B h0 h' (fo 34 s 5 1 aB (d.l.set n (fv c p f k))::av a 155 (fk pw d s t)::fP t d.laid::As)) (λk=>4-k) 0 i4 ⟨i5,V⟩ ?_;rintro k h3 ⟨hk,I⟩
 try dsimp only
 refine ae (λe=>?_) λe=>?_
 ·have y:k<4:=i5
  have L:=I.box 1 i4;obtain⟨rs,j,J⟩:=I.AI;have P:=(I.th).1;have X:i0 (d.l.set n (fv c p f k))=i0 d.l:=q9;have m:n<i0 (d.l.set n (fv c p f k)):=i5
  have E:(bt 5 1 aB rs (d.l.set n (fv c p f k)))[n]?=dB (an 5 (rs[n]'(by omega)) 1 aB (fv c p f k)):=by rw[fU j n m,yo]
  have q:((an 34 s 1 bi rs::bt 5 1 aB rs (d.l.set n (fv c p f k)))++(av a 155 (fk pw d s t)::fP t d.laid::As))[n+1]?=dB (an 5 (rs[n]'(by omega)) 1 aB (fv c p f k)):=by rw[zp,qq,qm (by rw[lQ j];exact m)];exact E
  have ab:i0 (fv c p f k)=64:=by rw[uT,G];exact w
  have Q:=J.own (n+1) q;refine⟨a,i4,s,L.cell i4,?_⟩;have O:=J.seq 0 i4 λ_=>rfl;refine O.lr n i4 i5 ?_;obtain⟨z,R⟩:∃z,z=(fv c p f k)[p+k]'(by omega):=⟨_,rfl⟩
  have N:qe xF ((p:Int)+(k:Int))=((p+k:Nat):Int):=j5
  rw[N];have D:Qw.Seq h3 (λb=>b<h3.size) (rs[n]'(by omega)) 1 aB (fv c p f k):=J.seq (n+1) q λ_=>rfl;refine D.bo (p+k) i4 i5 (z.toNat:Int) (by rw[R];rfl) ?_;refine⟨j5,?_⟩;have A:min (qe xF ((8:Int)*(k:Int))).toNat (qG xH)=8*k:=by rw[af _];show min ((8:Int)*k).toNat 32=8*k;omega
  rw[A,dU (zx f (2^(8*k)))];have K:=mz z (b8 (zx f (2^(8*k))));rw[K];refine J.set ag (n+1) q (λ_=>rfl) i4 (p+k) i4 i5 (z^^^Lm f k) i4 i4 i4 λh5 T=>⟨trivial,?_⟩
  refine⟨k+1,j0,⟨i5,?_⟩,i5⟩;have r:fv c p f (k+1)=(fv c p f k).set (p+k) (z^^^Lm f k):=by show(fv c p f k).set (p+k) ((fv c p f k).getD (p+k) 0^^^Lm f k)=_;rw[fh 0,R]
  refine aa.Ct (rs:=rs) (by rw[q9];omega) ?_;have e:bt 5 1 aB rs (d.l.set n (fv c p f (k+1)))=(bt 5 1 aB rs (d.l.set n (fv c p f k))).set n (an 5 (rs[n]'(by omega)) 1 aB (fv c p f (k+1))):=by rw[<-NG j n m,yu]
  rw[e,r];rw[zp,zo,vp _ _ (by rw[lQ j];exact m)]at T;exact T
 ·have y:k=4:=i5
  subst y;have u:d.kL (n:Int) (p:Int) f={d with l:=d.l.set n (fv c p f 4)}:=by unfold aW.kL;rw[o,g0 i4,qj,fh [] S,<-G];rfl
  refine⟨by rw[o],?_⟩;rw[u];refine aa.tK (s:=s) (b:=t) ⟨by show d.wait<=_;rw[q9];exact ok.wait,by show(d.l.set n _).length<=_;rw[q9];exact ok.len,ok.room,λx K=>?_,ok.laid,ok.cellL⟩ (I.aK 3 [1,0,2]);rcases List.mem_or_eq_of_mem_set K with h|rfl
  ·exact ok.cell x h
  ·rw[uT,G];exact w
end
def ints(l:List Nat):au:=l.map λx:Nat=>(x:Int)
theorem kH(l:List Nat):i0 (ints l)=i0 l:=by simp[ints]
theorem FV{l:List Nat}{k:Nat}(h:k<i0 l):(ints l)[k]'(by rw[kH];exact h)=(l[k]:Int):=by simp[ints]
theorem QP{n:Nat}:∀{j i:Nat},i<=j->2*j<=n->ch n i<=ch n j
 |0,i,h,_=>by
   have:i=0:=i5
   subst this;exact qk _
 |j+1,i,h,hj=>by
  by_cases a:i=j+1
  ·subst a;exact qk _
  ·exact qY (QP i5 i5) (aeR i5)
theorem Av(n t:Int)(h:f9):ai xJ 118 #[xz xF n,xz xF t] h λv h'=>v=xD (decide (0<=n/\n<=64/\0<=t/\t<=n))/\h'=h:=by
 refine ts Tryz.func118 ?_;refine ae (λb=>ae (λa=>ae (λh3=>⟨?_,i4⟩) λh3=>⟨?_,i4⟩) λa=>⟨?_,i4⟩) (λb=>⟨?_,i4⟩)
 ·congr 1;exact decide_eq_decide.2 i5
 ·rw[hZ i5]
 ·rw[hZ i5]
 ·rw[hZ i5]
theorem Aw(n t:Int)(h:f9)(D:-(2^62)<=n/\n<=2^62)(A:-(2^62)<=t/\t<=2^62):ai xJ 60 #[xz xF n,xz xF t] h λv h'=>v=xz xF (iX n t)/\h'=h:=by
 refine ts Tryz.func60 ?_ (.two .n (.two .n (.two .n (.two (.two .n (.inn (.loop [(5,aT),(16,aT)] [(4,7),(16,30)] .n))) .n))));refine(Av n t h).mono ?_;rintro v r ⟨rfl,rfl⟩;refine⟨_,i4,aU (λe=>?_) λe=>?_⟩
 ·have e:=of_decide_eq_false e;unfold iX;rw[g9 e];exact⟨i4,i4⟩
 ·have e:=ii e;obtain⟨N,rfl⟩:∃N:Nat,n=N:=⟨n.toNat,i5⟩
  obtain⟨T,rfl⟩:∃T:Nat,t=T:=⟨t.toNat,i5⟩
  have q:iX N T=((min (ch N T) 4097:Nat):Int):=by unfold iX;rw[g0 e];rfl
  rw[q];obtain⟨m,u⟩:∃m,m=min T (N-T):=⟨_,rfl⟩
  have g:ch N m=ch N T:=by
   rw[u];rcases Nat.le_total T (N-T)with b|b
   ·rw[yj b]
   ·rw[Nat.min_eq_right b,<-Mp N T i5]
  have a:(if qe xF ((N:Int)-T)<(T:Int)then qe xF ((N:Int)-T)else(T:Int))=(m:Int):=by rw[af _];split<;>omega
  rw[a];refine aq (λi:Nat=>(((ch N i:Nat):Int),(i:Int))) (λi h'=>h'=r/\i<=m/\ch N i<=4096) (λi=>m-i) 0 (by rw[mN];rfl) ⟨i4,i5,by rw[mN];omega⟩ ?_;rintro i b ⟨rfl,E,d⟩
  try dsimp only
  refine ae (λo=>?_) (λo=>?_)
  ·have y:i<m:=i5
   have B:N<=64:=i5
   have c:=Qx (n:=N) (k:=i) i5;have f:ch N i*(N-i)<=4096*64:=Nat.mul_le_mul d i5;have s:qe xF ((N:Int)-i)=((N-i:Nat):Int):=j5
   have x:qe xF (((ch N i:Nat):Int)*((N-i:Nat):Int))=((ch N i*(N-i):Nat):Int):=by rw[<-Int.natCast_mul,af _]
   have z:qe xF ((i:Int)+1)=((i+1:Nat):Int):=j0
   have w:Int.tdiv ((ch N i*(N-i):Nat):Int) ((i+1:Nat):Int)=((ch N (i+1):Nat):Int):=by rw[<-c,<-Int.ofNat_tdiv,Nat.mul_div_cancel _ i5]
   have p:ch N (i+1)<=4096*64:=by have:ch N (i+1)*1<=ch N (i+1)*(i+1):=Nat.mul_le_mul_left _ i5;omega
   rw[s,x,z,w,af _];refine⟨i5,ae (λl=>?_) λl=>?_⟩
   ·have:=QP (n:=N) (j:=m) (i:=i+1) i5 i5;refine⟨?_,i4⟩;rw[show min (ch N T) 4097=4097 by omega];rfl
   ·exact⟨i+1,i4,⟨i4,i5,i5⟩,i5⟩
  ·have:i=m:=i5
   subst this;refine⟨?_,i4⟩;rw[show min (ch N T) 4097=ch N i by omega]
theorem index_spec(s:Sl)(l:au)(x:Int)(h:f9)(g:Rd h s 1 az l)(o:i0 l<=2^30):ai xJ 96 #[s,xz xF x] h λv h'=>(∃i:Int,v=xz xF i/\(0<=i↔x∈l)/\(0<=i->l[i.toNat]?=dB x/\∀j,j<i.toNat->l[j]?≠dB x)/\i<i0 l/\-1<=i)/\h'=h:=by
 refine my s x ?_;have k:=g.len;refine aq (λi:Nat=>(i:Int)) (λi h'=>h'=h/\i<=i0 l/\∀j,j<i->l[j]?≠dB x) (λi=>i0 l-i) 0 i4 ⟨i4,i5,λj c=>i5⟩ ?_;rintro i m ⟨rfl,n,b⟩;refine ae (λe=>?_) (λe=>?_)
 ·have a:i<i0 l:=i5
  refine g.bo i i4 a _ i4 ?_;refine bf (λf=>?_) (λf=>?_)
  ·refine⟨⟨i,i4,⟨λ_=>f▸qf a,λ_=>i5⟩,λ_=>⟨by rw[qj,qc a,f],λj c=>b j i5⟩,i5,i5⟩,i4⟩
  ·refine⟨i+1,j0,⟨i4,i5,λj c=>?_⟩,i5⟩;rcases zi.1 c with c|rfl
   ·exact b j c
   ·rw[qc a];intro d;exact f (zQ.inj d).symm
 ·refine⟨⟨-1,i4,⟨λd=>i5,λd=>?_⟩,λd=>i5,i5,i5⟩,i4⟩;obtain⟨j,c,rfl⟩:=qD d;exact absurd (qc c) (b j i5)
theorem rX(s:Sl)(l:au)(x:Int)(h:f9)(a:Rd h s 1 az l)(c:i0 l<=2^30):ai xJ 42 #[s,xz xF x] h λv h'=>v=xD (decide (x∈l))/\h'=h:=by refine ts Tryz.func42 ?_;refine(index_spec s l x h a c).mono ?_;rintro v d ⟨⟨i,rfl,b,_⟩,rfl⟩;refine⟨i,i4,?_,i4⟩;congr 1;exact decide_eq_decide.2 b
theorem Wo(n:Nat)(s:Sl)(l:List Nat){B:ak}{u h:f9}{As:List HP}(H:aa B u h As)(i:Nat)(o:As[i]?=dB (an 3 s 1 az (ints l)))(O:n<=64)(M:i0 l<=n)(I:∀x∈l,x<n):
  ai xJ 291 #[s,xz xF n] h λv h'=>match jS n l with
   |some l'=>v=xD eR/\aa B u h' (As.set i (an 3 s 1 az (ints l')))
   |none=>v=xD eS/\h'=h:=by
 refine ts Tryz.func291 ?_ (.two .n (.two (.two .n (.inn (.loop [(5,aT)] [(4,7),(10,48)] (.two .n (.two (.inn (.two .n (.two (.two .n (.two (.two .n (.inn (.loop [(6,aT)] [(6,7),(33,48)] .n))) .n)) .n))) .n))))) .n));have g:=(H.own i o).len;rw[kH]at g;refine aq (λk:Nat=>(k:Int)-1) (λk h'=>h'=h/\k<=i0 l/\jS n (l.drop k)=eH) (λk=>k) l.length (by rw[g,af _]) ⟨i4,qk _,by rw[yq];rfl⟩ ?_;rintro k Q ⟨rfl,R,c⟩;refine ae (λe=>?_) (λe=>?_)
 ·obtain⟨k,rfl⟩:∃j,k=j+1:=⟨k-1,i5⟩
  have a:k<i0 l:=i5
  have D:=H.seq i o λ_=>rfl;have d:(((k+1:Nat):Int)-1)=(k:Int):=i5
  have G:=I _ (qf a);have m:jS n (l.drop k)=if l[k]+(i0 l-k-1)+1<n then dB (zM (l[k]+1) (i0 l-k-1+1))else eH:=by rw[qI a];unfold jS;rw[c];simp[Nat.sub_sub]
  refine D.bo k d (by rw[kH];exact a) _ i4 ?_;rw[FV a,d,af ((n:Int)-((s.len:Nat):Int)),af _];refine ae (λF=>?_) (λF=>?_)
  ·refine D.bo k i4 (by rw[kH];exact a) _ i4 ?_;rw[FV a,af _];rw[g0 i5]at m;have K:=Mn k l _ i5 m;rw[K]
   try dsimp only
   refine H.set ag i o (λ_=>rfl) i4 k i4 (by rw[kH];exact a) ((l[k]:Int)+1) i4 i4 i4 λS E=>?_;let b:Nat->List Nat:=λj=>l.take k++zM (l[k]+1) (j+1)++l.drop (k+1+j);have f:(ints l).set k ((l[k]:Int)+1)=ints (b 0):=by
    have:b 0=l.set k (l[k]+1):=by simp only[b];rw[List.set_eq_take_append_cons_drop,g0 a];simp[List.range'_succ]
    rw[this];simp[ints,vO]
   rw[f]at E;refine aq (λj:Nat=>((k+1+j:Nat):Int)) (λj h'=>k+1+j<=i0 l/\aa B u h' (As.set i (an 3 s 1 az (ints (b j))))) (λj=>i0 l-j) 0 j0 ⟨i5,E⟩ ?_;rintro j h3 ⟨P,w⟩;have z:i0 (b j)=i0 l:=by simp[b];omega
   have t:i<i0 As:=(ql.1 o).1;have A:(As.set i (an 3 s 1 az (ints (b j))))[i]?=dB (an 3 s 1 az (ints (b j))):=ze t;refine ae (λL=>?_) (λL=>?_)
   ·have q:k+1+j<i0 l:=i5
    have p:(b j)[k+j]'(by omega)=l[k]+1+j:=by simp only[b,qn];rw[zX i9,List.getElem_append_left i9];simp[List.getElem_range'];omega
    refine(w.seq i A λ_=>rfl).bo (k+j) j5 (by rw[kH];omega) _ i4 ?_;rw[FV i5,p,af _];refine w.set ag i A (λ_=>rfl) i4 (k+1+j) i4 (by rw[kH];omega) (((l[k]+1+j:Nat):Int)+1) i4 i4 i4 λN y=>?_;refine⟨j+1,j5,⟨i5,?_⟩,i5⟩;rw[yu]at y;have:(ints (b j)).set (k+1+j) (((l[k]+1+j:Nat):Int)+1)=ints (b (j+1)):=by
     have J:(b j).set (k+1+j) (l[k]+1+j+1)=b (j+1):=by
      simp only[b];rw[qQ _ _ i9];have:k+1+j-i0 (List.take k l++zM (l[k]+1) (j+1))=0:=i9
      rw[this,qI q,zh,List.range'_concat (n:=j+1)];simp[wY]
     rw[<-J];simp[ints,vO]
    rw[this]at y;exact y
   ·have r:k+1+j=i0 l:=i5
    refine⟨i4,?_⟩;have:l.take k++zM (l[k]+1) (i0 l-k-1+1)=b j:=by simp only[b];rw[r,yq,qH,show l.length-k-1+1=j+1 by omega]
    rw[this];exact w
  ·rw[g9 i5]at m;exact⟨k,by rw[af _],⟨i4,i5,m⟩,i5⟩
 ·have:k=0:=i5
  subst this;rw[List.drop_zero]at c;rw[c];exact⟨i4,i4⟩
theorem abU(h:f9)(x:UInt8):ai xJ 310 #[xz xG x.toNat] h λv h'=>v=xD (x !=0)/\h'=h:=by
 refine ts Tryz.func310 ?_;refine⟨?_,i4⟩;congr 1;by_cases a:x=0
 ·subst a;rfl
 ·have:((x.toNat:Nat):Int)≠0:=λb=>a (ww.1 b);rw[bne_iff_ne.2 a];exact bne_iff_ne.2 this
theorem DF(a:Sl)(l:Row)(h:f9)(p:Rd h a 1 aB l)(t:i0 l<=2^30:=by omega):ai xJ 250 #[a] h λv h'=>v=xz xF (if fb l<i0 l then(fb l:Int)else-1)/\h'=h:=by
 refine ts Tryz.func250 ?_;refine(oH a (310,#[],#[]) (R:=λv h'=>v=xz xF (if fb l<i0 l then(fb l:Int)else-1)/\h'=h) ?_).mono ?_
 ·skip
  have r:=p.len;refine aq (λi:Nat=>(i:Int)) (λi h'=>h'=h/\i<=i0 l/\∀j (c:j<i0 l),j<i->l[j]=0) (λi=>i0 l-i) 0 i4 ⟨i4,i5,λj _ c=>i5⟩ ?_;rintro i o ⟨rfl,s,b⟩;refine ae (λe=>?_) (λe=>?_)
  ·have d:i<i0 l:=i5
   refine p.bo i i4 d _ i4 ?_;refine eU lb ?_;refine(abU o l[i]).mono ?_;rintro v u ⟨rfl,rfl⟩;refine⟨_,i4,bc (λk=>?_) λk=>?_⟩
   ·have n:fb l=i:=by rw[fb,List.findIdx_eq d];exact⟨k,λj c=>by simp[b j i5 c]⟩
    rw[n,g0 d];exact⟨i4,i4⟩
   ·refine⟨i+1,j0,⟨i4,i5,λj c m=>?_⟩,i5⟩;rcases zi.1 m with h3|rfl
    ·exact b j c h3
    ·simpa using k
  ·have f:¬fb l<i0 l:=by rw[fb,List.findIdx_lt_length];rintro⟨x,q,g⟩;obtain⟨j,c,rfl⟩:=qD q;rw[b j c i5]at g;simp at g
   rw[g9 f];exact⟨i4,i4⟩
 ·rintro v o ⟨rfl,rfl⟩;exact⟨_,i4,i4,i4⟩
theorem Zg(a b:Sl)(c d:Row)(h:f9)(l:Rd h a 1 aB c)(j:Rd h b 1 aB d)(A:i0 c=i0 d)(z:i0 c<=2^30):ai xJ 356 #[a,b] h λv h'=>∃r:Sl,v=.tuple #[r,xD eR]/\Sp h h' [an 5 r 1 aB (za (·^^^·) c d)]:=by
 refine ts Tryz.func356 ?_ (.two .n (.two .n (.two .n (.two (.two .n (.inn (.loop [(18,aT)] [(7,8),(18,34)] .n))) .n))));have x:=l.len;have B:=j.len;refine bz (λe=>i5) λ_=>?_;refine(Sp.refl h).make ag aB gp i6 0 i4 i4 c.length c.length i5 i5 (qk _) i5 λs h3 o t p=>?_;refine aq (λk:Nat=>(k:Int)) (λk h'=>k<=i0 c/\Sp h h' [an 5 s 1 aB (za (·^^^·) (c.take k) (d.take k)++qh (i0 c-k) 0)]) (λk=>i0 c-k) 0 i4 ⟨i5,sb⟩ ?_;rintro k u ⟨y,g⟩;refine ae (λe=>?_) (λe=>?_)
 ·have f:k<i0 c:=i5
  refine(Seq.up l g.ac).bo k i4 f _ i4 ?_;refine(Seq.up j g.ac).bo k i4 i5 _ i4 ?_;rw[mz];refine g.set ag 0 i4 (λ_=>rfl) i4 k i4 i9 (c[k]^^^d[k]) i4 i4 i4 λw q=>⟨trivial,?_⟩
  refine⟨k+1,j0,⟨i5,?_⟩,i5⟩;have i:i0 (za (·^^^·) (c.take k) (d.take k))=k:=i9
  have m:(za (·^^^·) (c.take k) (d.take k)++qh (i0 c-k) (0:UInt8)).set k (c[k]^^^d[k])=za (·^^^·) (c.take (k+1)) (d.take (k+1))++qh (i0 c-(k+1)) 0:=by rw[qQ _ _ i5,i,qZ,show c.length-k=i0 c-(k+1)+1 by omega,yh,zh,aD _ _ f,aD _ _ (show k<i0 d by omega),yF i9,qn];rfl
  rw[<-m];exact q
 ·have:k=i0 c:=i5
  subst this;refine⟨s,i4,?_⟩;rw[qg (qk _),qg i5,qZ,y7,qH]at g;exact g
theorem abV(c:UInt8)(a b:Row):za (·^^^·) (scaleB c a) b=cK c a b:=by unfold scaleB cK;rw[List.zipWith_map_left];congr 1;funext x y;exact UInt8.xor_comm _ _
theorem Wp(f:f7)(c:UInt8)(a b:Sl)(d e:Row)(h:f9)(l:fG h f)(q:Rd h a 1 aB d)(m:Rd h b 1 aB e)(p:i0 d=i0 e)(k:i0 d<=2^30):
  ai xJ 337 #[xB (dB f),xz xG c.toNat,a,b] h λv h'=>∃r:Sl,v=.tuple #[r,xD eR]/\Sp h h' [an 5 r 1 aB (cK c d e)]:=by
 refine ts Tryz.func337 ?_;refine(Hn f c a d h l q k).mono ?_;rintro v n ⟨r,rfl,g⟩;refine⟨r,i4,(Zg r b _ e n (g.seq 0 i4 λ_=>rfl) (Seq.up m g.ac) (by rw[nP];exact p) (by rw[nP];exact k)).mono ?_⟩;rintro v s ⟨w,rfl,o⟩;refine⟨(w,eR),i4,w,i4,?_⟩;rw[<-abV];exact(g.comp o).take 1 λi A j=>by cases i with|zero=>exact j|succ i=>simp at j
def ia(f:f7)(n:Nat)(a:Sl):aR:=[xB (dB f),xz xF n,a]
def iD(b f:f7)(n:Nat)(M:aI):HP:=.ex λa:Sl=>(av b 368 (ia f n a)).sep (ck 34 a 1 bi (cw 1 aB) M)
theorem Wq(p f:f7)(n:Nat)(b r:Sl)(M:aI)(l:Row)(h:f9)(g:bT h p 368 (ia f n b))(E:fG h f)(H:dN (bD (cw 1 aB) 1 bi) h b M)(I:Rd h r 1 aB l)
  (R:i0 l=n) (W:n<=64) (s:aQ n M) (z:∀x∈M,fb x<n) (T:i0 M<=2^30):
  ai xJ 294 #[xB (dB p),r] h λv h'=>∃w:Sl,v=.tuple #[w,xD eR]/\Sp h h' [an 5 w 1 aB (eJ M l)]:=by
 refine ts Tryz.func294 ?_ (.two .n (.two (.join [] [(4,6),(10,21)] .n) (.two .n (.two (.two .n (.inn (.loop [(6,cF),(28,aT)] [(6,7),(8,10),(28,51)] .n))) .n))));have O:=I.len;have K:=bD.len H;refine aO ?_;refine bc (λe=>j1) λ_=>?_;refine⟨p,i4,n,g.cell i4,bz (λe=>i5) λ_=>?_⟩;refine(eK r l h I i5).mono ?_;rintro v V ⟨w,rfl,D⟩;refine⟨w,i4,p,i4,b,(g.ac D.ac g.lt).cell i4,?_⟩;refine aq (λt:Sl×Nat=>(t.1,(t.2:Int))) (λt h'=>t.2<=i0 M/\Sp h h' [an 5 t.1 1 aB (eJ (M.take t.2) l)]) (λt=>i0 M-t.2) (w,0) i4 ⟨jj,by simpa[eJ]using D⟩ ?_;rintro⟨o,k⟩ S ⟨X,a⟩;dsimp only at*;refine ae (λe=>?_) (λe=>?_)
 ·have c:k<i0 M:=i5
  have P:M[k].length=n:=s _ (qf _);have F:=z _ (qf c);have u:aQ n (M.take k):=λx y=>s x (zN y);have d:=FA u R;have Q:=(a.own 0 i4).len;refine bD.mY (dN.up H a.ac) k i4 c λx y=>?_;refine(DF x _ S y).mono ?_;rintro v h3 ⟨rfl,rfl⟩;refine⟨_,i4,?_⟩
  try dsimp only
  rw[g0 i5];refine(a.seq 0 i4 λ_=>rfl).bo (fb M[k]) i4 i5 _ i4 ?_;have q:(eJ (M.take k) l)[fb M[k]]'(by omega)=aJ (eJ (M.take k) l) (fb M[k]):=(IK i5).symm;have m:eJ (M.take (k+1)) l=cK (aJ (eJ (M.take k) l) (fb M[k])) M[k] (eJ (M.take k) l):=by unfold eJ;rw[aD _ _ c,zK];rfl
  rw[q];refine bz (λB=>?_) (λB=>?_)
  ·refine⟨p,i4,dB f,(g.ac a.ac g.lt).cell0 i4,?_⟩;refine(Wp f (aJ (eJ (M.take k) l) (fb M[k])) x o M[k] _ h3 (E.ac a.ac E.lt) y (a.seq 0 i4 λ_=>rfl) i5 i5).mono ?_;rintro v U ⟨G,rfl,N⟩;refine⟨(G,eR),i4,⟨(G,k+1),js,⟨i7,?_⟩,i7⟩⟩
   try dsimp only
   rw[m];exact(a.comp N).take 1 λi A J=>by cases i with|zero=>exact J|succ i=>simp at J
  ·refine⟨(o,k+1),js,⟨i7,?_⟩,i7⟩;have L:aJ (eJ (M.take k) l) (fb M[k])=0:=ww.1 B;have:eJ (M.take (k+1)) l=eJ (M.take k) l:=by rw[m,L];refine eE (n:=n) (by rw[bM];exact d) d λj _=>?_;rw[cy i5,Gf.zero_mul,UInt8.xor_zero]
   try dsimp only
   rw[this];exact a
 ·refine⟨o,i4,?_⟩;rw[qg i5]at a;exact a
theorem KS(f:f7)(n:Nat)(h:f9)(j:n<=64):ai xJ 238 #[xB (dB f),xz xF n] h λv h'=>∃c:f7,v=xB (dB c)/\Sp h h' [iD c f n []]:=by refine ts Tryz.func238 ?_ (.two .n (.two (.join [] [(4,11)] .n) (.two (.join [(0,MJ)] [(0,1),(11,14)] .n) .n)));refine aO ?_;refine ae (λe=>i5) λ_=>ae (λe=>i5) λ_=>?_;refine aO ?_;refine bc (λe=>j1) λ_=>?_;refine(Sp.refl h).boxed λa i g=>?_;refine⟨a,i4,?_⟩;have d:=(g.Co 34 1 bi (cw 1 aB)).join 0 1 i6 i4 i4;exact(d.close' (F:=λb:Sl=>(av a 368 (ia f n b)).sep (ck 34 b 1 bi (cw 1 aB) [])) 0 ⟨eH,0,0⟩ i4).del 1
theorem iD.open{B:ak}{b h:f9}{As:List HP}{c f:f7}{n:Nat}{M:aI}(H:aa B b h (iD c f n M::As)):
  ∃a:Sl,aa B b h (ck 34 a 1 bi (cw 1 aB) M::av c 368 (ia f n a)::As):=by
 obtain⟨a,d⟩:=H.pR;exact⟨a,d.rn⟩
theorem iD.close{B:ak}{c h:f9}{As:List HP}{b f:f7}{n:Nat}{M:aI}{a:Sl}(H:aa B c h (ck 34 a 1 bi (cw 1 aB) M::av b 368 (ia f n a)::As)):
  aa B c h (iD b f n M::As):=H.lq.td (F:=λa:Sl=>(av b 368 (ia f n a)).sep (ck 34 a 1 bi (cw 1 aB) M)) a
theorem Ax(b f:f7)(n:Nat)(M:aI){B:ak}{d h:f9}{As:List HP}(H:aa B d h (iD b f n M::As)):ai xJ 297 #[xB (dB b)] h λv h'=>v=xz xF M.length/\h'=h:=by refine ts Tryz.func297 ?_;obtain⟨a,c⟩:=iD.open H;refine bc (λe=>j1) λ_=>?_;exact⟨b,i4,a,(c.box 1 i4).cell i4,by rw[(c.RP 0 i4).1],i4⟩
theorem BW(i f:f7)(n:Nat)(M:aI)(r:Sl)(l:Row){B:ak}{p h:f9}{As:List HP}(H:aa B p h (iD i f n M::As))(F:St B p As λh=>fG h f)(S:Rd h r 1 aB l)
  (K:i0 l=n) (I:n<=64) (k:aQ n M) (y:∀x∈M,fb x<n) (W:i0 M<=64):
  ai xJ 240 #[xB (dB i),r] h λv h'=>(∃b,v=xD b)/\aa B p h' (iD i f n (Mq M l)::As):=by
 refine ts Tryz.func240 ?_ (.two .n (.two .n (.two (.join [] [(4,5),(13,20)] .n) .n)));obtain⟨m,s⟩:=iD.open H;have j:=FA k K;refine(Wq i f n m r M l h (s.box 1 i4) (F [_,_] h s) (s.Jv 0 i4 λ_=>rfl) S K I k y i5).mono ?_;rintro v Q ⟨w,rfl,E⟩;have G:=s.bR E;have R:=E.seq 0 i4 λ_=>rfl;refine⟨(w,eR),i4,aO ?_⟩;refine aU (λe=>j1) λ_=>?_;refine(DF w _ Q R).mono ?_;rintro v Z ⟨rfl,rfl⟩;refine⟨_,i4,?_⟩
 try dsimp only
 by_cases a:fb (eJ M l)<i0 (eJ M l)
 ·rw[g0 a];refine sY (hZ (Int.not_lt.2 (Int.natCast_nonneg _))) ?_;have A:=G.uu 0 i4 λ_=>rfl;have c:=A.box 2 i4;refine⟨i,i4,dB f,c.cell0 i4,i,i4,m,c.cell i4,?_⟩;have o:aQ n (M++[eJ M l]):=mu k j;refine A.nN ag bi fu i4 [w] i4 (show 1*1<=2^20 by decide) i4 ⟨c.cell i4,c.cell0 i4,trivial⟩ ?_;refine A.pQ ag 1 0 i6 i4 i4 fu i4 i6 (λ_=>rfl) jG i4 i6 i5 λJ t X=>?_;have d:=X.nr;have u:=d.box 1 i4;refine⟨⟨u.cell0 i4,trivial⟩,?_⟩;refine(EV f J _ n t (F [_,_] t d) (bD.tofA (d.Jv 0 i4 λ_=>rfl)) o I i9).mono ?_;rintro v N ⟨q,rs,rfl,L,z,U,V⟩;have g:=(gI o (eC (M++[eJ M l]))).2;have P:Sp t N [ck 34 ⟨q.ptr,bL (M++[eJ M l]),q.cap⟩ 1 bi (cw 1 aB) (mw (M++[eJ M l]))]:=by have:=aa.abi (As:=[]) V (by rw[g];exact z) (λ_=>rfl) (bL (M++[eJ M l])) (by rw[g];omega);exact this
  have Y:=d.bR P;refine⟨q,i4,trivial,i,i4,?_⟩;refine Y.storeAt ag 2 i4 i4 (off:=2) (v:=xA q.ptr q.len q.cap) i4 i4 i4 (by simp[ia]) λO D=>⟨trivial,⟨_,i4⟩,?_⟩
  have T:aa B p O (ck 34 ⟨q.ptr,bL (M++[eJ M l]),q.cap⟩ 1 bi (cw 1 aB) (mw (M++[eJ M l]))::ck 34 J 1 bi (cw 1 aB) (M++[eJ M l])::av i 368 (ia f n ⟨q.ptr,bL (M++[eJ M l]),q.cap⟩)::As):=by rw[show q.len=bL (M++[eJ M l])from L]at D;exact D
  rw[Mq,g0 a];exact iD.close T.om
 ·rw[g9 a];refine Cj (hU i6) ⟨⟨_,i4⟩,?_⟩;rw[Mq,g9 a];exact iD.close G.nr
theorem KT(i f:f7)(n:Nat)(M:aI)(a:Sl)(h:f9)(o:bT h i 368 (ia f n a))(d:dN (bD (cw 1 aB) 1 bi) h a M)(z:i0 M<=64)(j:aQ n M)(D:n<=64):
  ai xJ 338 #[xB (dB i)] h λv h'=>∃r:Sl,v=r/\Sp h h' [ck 34 r 1 bi (cw 1 aB) M]:=by
 refine ts Tryz.func338 ?_ (.two .n (.two .n (.two .n (.two (.two .n (.inn (.loop [(3,cF),(13,aT)] [(3,4),(5,6),(13,23)] .n))) .n))));refine bc (λe=>j1) λ_=>?_;have l:=bD.len d;refine⟨i,i4,a,o.cell i4,?_⟩;refine aq (λt:Sl×Nat=>(t.1,(t.2:Int))) (λt h'=>t.2<=i0 M/\Sp h h' [ck 34 t.1 1 bi (cw 1 aB) (M.take t.2)]) (λt=>i0 M-t.2) (⟨eH,0,0⟩,0) i4 ⟨jj,(Sp.refl h).Co 34 1 bi (cw 1 aB)⟩ ?_;rintro⟨s,k⟩ y ⟨E,g⟩;dsimp only at*;refine ae (λe=>?_) (λe=>?_)
 ·have b:k<i0 M:=i5
  have q:=j _ (qf b);refine bD.mY (dN.up d g.ac) k i4 b λx p=>?_;refine(eK x M[k] y p i5).mono ?_;rintro v h3 ⟨c,rfl,m⟩;have w:=(g.bR m).uu 0 i4 λ_=>rfl;refine⟨c,i4,?_⟩;refine w.pQ ag 1 0 i6 i4 i4 fu i4 i6 (λ_=>rfl) jG i4 i6 i9 λu B A=>?_;refine⟨(u,k+1),js,⟨i7,?_⟩,i7⟩
  try dsimp only
  rw[aD _ _ b];exact A.nr
 ·rw[qg i5]at g;exact⟨s,i4,g⟩
theorem iD.rd{B:ak}{s h:f9}{As:List HP}{k f:f7}{n:Nat}{M:aI}(H:aa B s h As)(i:Nat)(q:As[i]?=dB (iD k f n M)):∃g:Sl,bT h k 368 (ia f n g)/\dN (bD (cw 1 aB) 1 bi) h g M:=by obtain⟨g,w,u,y,v,m,o,rs,z,a,b,c,d,e⟩:=H.at i q;exact⟨g,o.1,rs,a.seq (λ_=>rfl) λx j=>m x (b x j).1,d,λi r l p t=>(cw 1 aB).mono (e i r l p t) λx j=>m x (c x j)⟩
theorem IZ(b f:f7)(n:Nat)(M:aI)(c:Sl)(h:f9)(d:bT h b 368 (ia f n c))(k:dN (bD (cw 1 aB) 1 bi) h c M)(l:i0 M<=64)(j:aQ n M)(q:n<=64):
  ai xJ 296 #[xB (dB b)] h λv h'=>∃g:f7,v=xB (dB g)/\Sp h h' [iD g f n M]:=by
 refine ts Tryz.func296 ?_;refine bc (λe=>j1) λ_=>?_;refine⟨b,i4,dB f,d.cell0 i4,b,i4,n,d.cell i4,?_⟩;have p:bH.ok [(b.add 1,(xz xF (n:Int))),(b,(xB (dB f)))] h:=⟨d.cell i4,d.cell0 i4,trivial⟩
 refine(KT b f n M c h d k l j q).mono ?_;rintro v t ⟨r,rfl,m⟩;have i:=lh m.ac p;refine⟨r,i4,i,m.boxed λa u o=>?_⟩;have s:=o.aY;refine⟨lh o.ac p,a,i4,?_⟩;exact iD.close s.nf
def cS(p:Pm)(seed:Int)(ids:au):aI:=if bx p then(ids.filter bJ).map (mq (bu p).toNat seed)else[]
theorem Fb{p:Pm}{seed:Int}{ids:au}{k:Nat}(b:k<i0 ids):cS p seed (ids.take (k+1))=cS p seed (ids.take k)++(if(bx p&&bJ ids[k])=eR then[mq (bu p).toNat seed ids[k]]else[]):=by
 unfold cS;by_cases a:bx p=eR
 ·rw[g0 a,g0 a,nC b];by_cases h:bJ ids[k]=eR
  ·rw[g0 h,g0 (by rw[a,h];rfl),qT];rfl
  ·rw[g9 h,g9 sL,qH]
 ·rw[g9 a,g9 a,g9 m6];rfl
theorem Pp(p:Pm)(seed:Int)(ids:au):aQ (bu p).toNat (cS p seed ids):=λr a=>by
 unfold cS at a;split at a
 ·obtain⟨i,_,rfl⟩:=qo.1 a;exact LZ _ _ _
 ·cases a
theorem HE(p:Pm)(seed:Int)(ids:au):i0 (cS p seed ids)<=i0 ids:=by
 unfold cS;split
 ·rw[qy];exact qJ _ _
 ·simp
abbrev DG:iF Sl aI:=bD (cw 1 aB) 1 bi
theorem Wr(p:Pm)(seed:Int)(w:Sl)(W:bP)(h:f9)(P:dN (bD (cw 1 az) 1 bi) h w W)(hl:i0 W<=2^20)(O:∀l∈W,i0 l<=2^20):
  ai xJ 241 #[jv p,xz xH seed,w] h λv h'=>∃r:Sl,v=r/\Sp h h' [ck 53 r 1 bi DG (W.map (cS p seed))]:=by
 refine ts Tryz.func241 ?_ (.two .n (.two .n (.two (.two .n (.inn (.loop [(7,cF),(16,aT)] [(7,8),(9,11),(12,14),(16,42)] (.two .n (.two .n (.two (.inn (.two .n (.two .n (.two (.two .n (.inn (.loop [(10,cF),(22,aT)] [(10,11),(12,14),(22,37)] .n))) .n)))) .n)))))) .n))) (args:=[p,(xz xH (seed:Int)),w]);obtain⟨I,u,L,F⟩:=bD.kg P;have S:=u.len;refine(Sp.refl h).boxed λa X T=>?_;refine aq (λt:Sl×Nat=>(t.1,(t.2:Int))) (λt h'=>t.2<=i0 W/\Sp h h' [ck 53 t.1 1 bi DG ((W.take t.2).map (cS p seed)),av a 25 [xz xF p.1,xz xF p.2.1,xz xF p.2.2]]) (λt=>i0 W-t.2) (⟨eH,0,0⟩,0) i4 ⟨jj,(T.Co 53 1 bi DG).aY⟩ ?_;rintro⟨o,k⟩ h2 ⟨Z,A⟩;dsimp only at*;refine ae (λe=>?_) (λe=>?_)
 ·have i:k<i0 W:=i5
  have K:=O _ (qf i);have B:=F k i5 i;refine(Seq.up u A.ac).lr k i4 i5 ?_;generalize I[k]'(by omega)=x at B;have R:=Seq.len B;refine aq (λt:Sl×Nat=>(t.1,(t.2:Int))) (λt h'=>t.2<=W[k].length/\Sp h h' [ck 34 t.1 1 bi (cw 1 aB) (cS p seed (W[k].take t.2)),ck 53 o 1 bi DG ((W.take k).map (cS p seed)),av a 25 [xz xF p.1,xz xF p.2.1,xz xF p.2.2]]) (λt=>W[k].length-t.2) (⟨eH,0,0⟩,0) i4 ⟨jj,by
    have:=(A.Co 34 1 bi (cw 1 aB)).aY;have Q:cS p seed []=[]:=by unfold cS;split<;>rfl
    dsimp only;rw[List.take_zero,Q];exact this⟩ ?_
  rintro⟨s,j⟩ h3 ⟨Y,y⟩;dsimp only at*;refine ae (λJ=>?_) (λJ=>?_)
  ·have g:j<W[k].length:=i5
   refine(Seq.up B y.ac).bo j i4 g _ i4 ?_;refine⟨p,(y.box 2 i4).aE _ i4,(MX p seed W[k][j] h3).mono ?_⟩;rintro v V ⟨c,rfl,N,f⟩;refine⟨c,i4,?_⟩;have z:=(y.bR N).uu 0 i4 λ_=>rfl;have m:=HE p seed (W[k].take j);rw[qP]at m;refine aU (λq=>?_) (λq=>?_)
   ·rw[f]at q;have d:(bx p&&bJ W[k][j])=eR:=pb
    rw[d,g0 rfl]at z;refine z.pQ ag 1 0 i6 i4 i4 fu i4 i6 (λ_=>rfl) jG i4 i6 i5 λG M H=>?_;have D:=H.nr;refine⟨(G,j+1),js,⟨i7,?_⟩,i7⟩;dsimp only;rw[Fb g,g0 d];exact D
   ·rw[f]at q;have d:¬(bx p&&bJ W[k][j])=eR:=λU=>by rw[U]at q;cases q
    refine⟨(s,j+1),js,⟨i7,?_⟩,i7⟩;dsimp only;rw[Fb g,g9 d,qH];exact z.nr
  ·rw[qg i5]at y;have z:=y.Ql 0 i4 λ_=>rfl;refine z.pQ ag 1 0 i6 (E:=DG) (a:=s) (b:=cS p seed W[k]) i4 i4 (⟨_,_,i4,i4,i4,i4,i4,i4⟩:bO C.toxZ 312 53 1 [xA eH 0 0] 24) i4 i6 (λ_=>rfl) jG i4 i6 i9 λG M H=>?_;refine⟨(G,k+1),js,⟨i7,?_⟩,i7⟩
   try dsimp only
   rw[aD _ _ i,qT];exact H.nr
 ·rw[qg i5]at A;exact⟨o,i4,A.om⟩
def kY(R:List aI)(a:au):Nat->aI
 |0=>[]
 |k+1=>kY R a k++if(k:Int)∈a then[]else R.getD k []
theorem Kj{n:Nat}{R:List aI}(c:∀m∈R,aQ n m)(b:au):∀k,aQ n (kY R b k)
 |0=>λr a=>qs
 |k+1=>λr a=>by
  rcases qw.1 a with a|a
  ·exact Kj c b k r a
  ·split at a
   ·cases a
   ·rw[qd]at a;cases hg:R[k]? with
    |none=>rw[hg]at a;cases a
    |some m=>rw[hg]at a;exact c m (List.mem_of_getElem? hg) r a
theorem NH(R:List aI)(a:au):∀{j k:Nat},j<=k->∃X,kY R a k=kY R a j++X
 |j,0,h=>⟨[],by
   have:j=0:=i5
   subst this;simp⟩
 |j,k+1,h=>by
  by_cases c:j=k+1
  ·subst c;exact⟨[],jj⟩
  ·obtain⟨X,b⟩:=NH R a (j:=j) (k:=k) i5;exact⟨X++if(k:Int)∈a then[]else R.getD k [],by rw[kY,b,qn]⟩
theorem Zh{n:Nat}{m:aI}(d:aQ n m)(h:bL m=n){b:aI}(a:aQ n b)(c:∀r∈m,r∈b):bL b=n:=by have f:=kR a;have e:=CE d a c;omega
theorem Pq(K f:f7)(n:Nat)(M A:aI)(t l g:Sl)(R:List aI)(a:au)(h:f9)(hb:bT h K 368 (ia f n t))(T:dN DG h t M)(N:fG h f)(hl:dN (bD DG 1 bi) h l R)(hg:Rd h g 1 az a)
  (Y:n<=64) (i:AU n M A) (V:∀m∈R,aQ n m/\m.length<=2^20) (ab:i0 R<=2^20) (P:i0 a<=2^30):
  ai xJ 242 #[xB (dB K),l,g,xz xF n] h λv h'=>v=xD (decide (bL (A++kY R a R.length)=n))/\Sp h h' []:=by
 refine ts Tryz.func242 ?_ (.two .n (.two .n (.two (.two .n (.inn (.loop [(18,aT)] [(8,9),(10,12),(13,14),(18,41)] (.two .n (.two .n (.two (.inn (.two .n (.two .n (.two .n (.inn (.loop [(28,aT)] [(8,9),(13,14),(28,40)] .n)))))) .n)))))) .n)));obtain⟨ls,G,ah,S⟩:=bD.kg hl;have am:=G.len;have q:∀{o A':aI},AU n o A'->i0 o<=64:=λx=>by have:=x.len;have:=kR x.evenA;omega
 have J:St (λb=>b<h.size) h [] λh'=>fG h' f:=.base N λh' hp=>N.ac hp N.lt;have Q:aQ n (A++kY R a R.length):=λr d=>(qw.1 d).elim (i.evenA r) (Kj (λm hm=>(V m hm).1) a _ r);refine(IZ K f n M t h hb T (q i) i.even Y).mono ?_;rintro v h1 ⟨s,rfl,R1⟩;refine⟨dB s,i4,?_⟩;refine aq (λk:Nat=>(k:Int)) (λk h'=>k<=i0 R/\∃o,AU n o (A++kY R a k)/\Sp h h' [iD s f n o]) (λk=>i0 R-k) 0 i4 ⟨i5,M,by simpa[kY]using i,R1⟩ ?_;rintro k h2 ⟨hk,M2,z,D⟩;refine ae (λe=>?_) (λe=>?_)
 ·have w:k<i0 R:=i5
  have hx:=S k i5 w;refine(Seq.up G D.ac).lr k i4 i5 ?_;generalize ls[k]'(by omega)=x at hx;have F:=V _ (qf w);refine(rX g a k h2 (Seq.up hg D.ac) P).mono ?_;rintro v h3 ⟨rfl,rfl⟩;refine⟨_,i4,ae (λL=>?_) λp=>?_⟩
  ·refine⟨k+1,j0,⟨i5,M2,?_,D⟩,i5⟩;rw[kY,g0 L,qH];exact z
  ·obtain⟨xs,H,ao,O⟩:=bD.kg hx;have al:=H.len;have E:R.getD k []=R[k]:=by rw[qd,qc w];rfl
   refine aq (λj:Nat=>(j:Int)) (λj h'=>j<=R[k].length/\∃o,AU n o ((A++kY R a k)++R[k].take j)/\Sp h h' [iD s f n o]) (λj=>R[k].length-j) 0 i4 ⟨i5,M2,by simpa using z,D⟩ ?_;rintro j h4 ⟨hj,I,c,B⟩;refine ae (λe2=>?_) (λe2=>?_)
   ·have u:j<R[k].length:=i5
    have Z:=O j i5 u;refine(Seq.up H B.ac).lr j i4 i5 ?_;generalize xs[j]'(by omega)=y at Z;refine(Ax s f n I B).mono ?_;rintro v h5 ⟨rfl,rfl⟩;refine⟨_,i4,bf (λU=>?_) λU=>?_⟩
    ·refine⟨?_,.zip B.ac⟩;have ad:((i0 I:Nat):Int)=(n:Int):=U;have h6:bL ((A++kY R a k)++R[k].take j)=n:=by have:=c.len;omega
     have h7:bL (A++kY R a R.length)=n:=by
      refine Zh c.evenA h6 Q λr d=>?_;obtain⟨X,hX⟩:=NH R a (j:=k+1) (k:=i0 R) i5;rw[hX,kY,g9 p,E];simp only[qw]at d⊢;rcases d with(d|d)|d
      ·exact .inl d
      ·exact .inr (.inl (.inl d))
      ·exact .inr (.inl (.inr (zN d)))
     rw[h7];simp
    ·refine(BW s f n I y _ B J (Seq.up Z B.ac) (F.1 _ (qf _)) Y c.even c.lead (q c)).mono ?_;rintro v h6 ⟨⟨b,rfl⟩,H6⟩;refine⟨b,i4,⟨j+1,j0,⟨i5,_,?_,H6⟩,i5⟩⟩;have:=Va c (F.1 _ (qf u));rw[aD _ _ u,<-qn];exact this
   ·refine⟨k+1,j0,⟨i5,I,?_,B⟩,i5⟩;rw[qg i5]at c;rw[kY,g9 p,E,<-qn];exact c
 ·have:k=i0 R:=i5
  subst this;refine(Ax s f n M2 D).mono ?_;rintro v h5 ⟨rfl,rfl⟩;refine⟨_,i4,?_,.zip D.ac⟩;have:=z.len;congr 1;by_cases W:bL (A++kY R a R.length)=n
  ·rw[hU W];exact beq_iff_eq.2 (show((i0 M2:Nat):Int)=n by omega)
  ·rw[hZ W];exact beq_eq_false_iff_ne.2 (show((i0 M2:Nat):Int)≠n by omega)
def uU(n t:Nat):bP:=(kj t 0 n).map ints
def DH(n t:Int)(h:f9)(v:Value)(h':f9):Prop:=
 if 0<=n/\n<=64/\0<=t/\t<=n then
  if iX n t>4096 then v=.tuple #[xA eH 0 0,xz xF 13]/\h'=h
  else∃r:Sl,v=.tuple #[r,xz xF 0]/\Sp h h' [ck 22 r 1 bi (cw 1 az) (uU n.toNat t.toNat)]
 else v=.tuple #[xA eH 0 0,xz xF 1]/\h'=h
theorem NI(n t:Int)(h:f9)(hn:0<=n/\n<=2^30)(ht:(0:Int)<=0):ai xJ 237 #[xz xF n,xz xF t] h (DH n t h):=by
 refine ts Tryz.func237 ?_ (.two .n (.two .n (.two .n (.two (.two .n (.inn (.loop [(23,aT)] [(7,8),(23,31)] .n))) (.two .n (.two (.inn (.loop [(8,cF)] [(8,9),(34,42)] .n)) .n))))));refine(Av n t h).mono ?_;rintro v I ⟨rfl,rfl⟩;refine⟨_,i4,aU (λe=>?_) λe=>?_⟩
 ·show DH n t I _ I;unfold DH;rw[g9 (of_decide_eq_false e)];exact⟨i4,i4⟩
 ·have e:=ii e;refine(Aw n t I i5 i5).mono ?_;rintro v j ⟨rfl,rfl⟩;refine⟨_,i4,ae (λm=>?_) λm=>?_⟩
  ·show DH n t j _ j;unfold DH;rw[g0 e,g0 m];exact⟨i4,i4⟩
  ·refine(λQ=>?_:(∀(v:Value) (h':f9),(∃r:Sl,v=.tuple #[r,xz xF 0]/\Sp j h' [ck 22 r 1 bi (cw 1 az) (uU n.toNat t.toNat)])->DH n t j v h')->_) (λv h' l=>by unfold DH;rw[g0 e,g9 m];exact l);obtain⟨N,rfl⟩:∃N:Nat,n=N:=⟨n.toNat,i5⟩
   obtain⟨T,rfl⟩:∃T:Nat,t=T:=⟨t.toNat,i5⟩
   have S:i0 (kj T 0 N)<=4096:=by
    rw[Fz N T 0 i5];have:iX (N:Int) T=((min (ch N T) 4097:Nat):Int):=by unfold iX;rw[g0 e];rfl
    rw[this]at m;have ah:¬(((min (ch N T) 4097:Nat):Int)>4096):=m;simp;omega
   refine(Sp.refl j).make ag az gy i6 0 i4 i4 T T i4 i4 (qk _) i5 λs h3 am ab H3=>?_;refine aq (λk:Nat=>(k:Int)) (λk h'=>k<=T/\Sp j h' [an 3 s 1 az (ints (zM 0 k++qh (T-k) 0))]) (λk=>T-k) 0 i4 ⟨i5,by
    have J:ints (zM 0 0++qh (T-0) 0)=qh T 0:=by simp[ints]
    rw[J];exact H3⟩ ?_
   rintro k Y ⟨hk,z⟩;refine ae (λe3=>?_) (λe3=>?_)
   ·have ad:k<T:=i5
    refine z.set ag 0 i4 (λ_=>rfl) i4 k i4 (by simp[ints];omega) (k:Int) i4 i4 i4 λh5 A=>?_;refine⟨k+1,j0,⟨i5,?_⟩,i5⟩;have J:(ints (zM 0 k++qh (T-k) 0)).set k (k:Int)=ints (zM 0 (k+1)++qh (T-(k+1)) 0):=by
     have:(zM 0 k++qh (T-k) 0).set k k=zM 0 (k+1)++qh (T-(k+1)) 0:=by rw[qQ _ _ jj,List.length_range',qZ,show T-k=T-(k+1)+1 by omega,yh,zh,List.range'_concat];simp
     rw[<-this];simp[ints,vO]
    rw[J]at A;exact A
   ·have:k=T:=i5
    subst this;rw[qZ,y7,qH]at z;refine(jC s _ Y (z.seq 0 i4 λ_=>rfl) (by simp[ints];omega)).mono ?_;rintro v h5 ⟨c,rfl,R5⟩;have A:=(z.bR R5).uu 0 i4 λ_=>rfl;refine⟨c,i4,?_⟩;refine A.lit ag bi (⟨_,_,i4,i4,i4,i4,i4,i4⟩:bO C.toxZ 181 22 1 [xA eH 0 0] 24) i4 [c] i4 (show 1*1<=2^20 by decide) i4 λo h6 W=>?_;have H7:Sp j h6 (ck 22 o 1 bi (cw 1 az) [ints (zM 0 k)]::an 3 s 1 az (ints (zM 0 k))::[]):=(W.acY (E:=cw 1 az) (a:=c) (b:=ints (zM 0 k)) 2 0 i6 i4 i4).aY.om;have R:=CK N k 0 i5;refine aq (λx:Sl×List (List Nat)×List Nat×List (List Nat)=>x.1) (λx h'=>x.2.1++x.2.2.2=kj k 0 N/\oE N x.2.2.1 x.2.2.2/\x.2.2.1.length=k/\(∀y∈x.2.2.1,y<N)/\Sp j h' [ck 22 x.1 1 bi (cw 1 az) ((x.2.1++[x.2.2.1]).map ints),an 3 s 1 az (ints x.2.2.1)]) (λx=>i0 x.2.2.2) (o,[],zM 0 k,kj k 0 N) i4 ⟨i4,R,jj,λy M=>by rw[List.mem_range'_1]at M;omega,by simpa using H7⟩ ?_;rintro⟨o,g,f,rest⟩ h8 ⟨q,w,X,G,U⟩;dsimp only at*;refine(Wo N s f U 1 i4 i5 i5 G).mono ?_;intro v K l;cases hs:jS N f with
    |none=>
     rw[hs]at l;obtain⟨rfl,rfl⟩:=l;refine⟨eS,i4,?_⟩;refine sY i4 (Q _ _ ⟨o,i4,?_⟩);rw[qj,qj];have:rest=[f]:=by
      cases w with
      |last _=>rfl
      |more h _=>rw[hs]at h;cases h
     rw[this]at q;unfold uU;rw[<-q];exact U.om
    |some cur'=>
     rw[hs]at l;obtain⟨rfl,F⟩:=l;refine⟨eR,i4,Cj i4 ?_⟩;obtain⟨L,P,d⟩:∃L,oE N cur' L/\rest=f::L:=by
      cases w with
      |last h=>rw[hs]at h;cases h
      |more h h'=>rw[hs]at h;injection h with h;subst h;exact⟨_,h',i4⟩
     have i:=F;have p:cur'∈kj k 0 N:=by
      rw[<-q,d];have:cur'∈L:=by cases P<;>simp
      simp[this]
     have u:=AT p;have Z:i0 g+2<=i0 (kj k 0 N):=by
      rw[<-q,d];have:1<=i0 L:=by cases P<;>simp
      simp;omega
     refine(jC s _ K (i.seq 1 i4 λ_=>rfl) (by rw[kH];omega)).mono ?_;rintro v al ⟨V,rfl,O⟩;have B:=(i.bR O).uu 0 i4 λ_=>rfl;refine⟨V,i4,?_⟩;refine B.pQ ag 1 0 i6 (E:=cw 1 az) (a:=V) (b:=ints cur') i4 i4 (⟨_,_,i4,i4,i4,i4,i4,i4⟩:bO C.toxZ 181 22 1 [xA eH 0 0] 24) i4 i6 (λ_=>rfl) jG i4 i6 i9 λo' ao H=>?_;refine⟨(o',g++[f],cur',L),i4,⟨by dsimp only;rw[<-q,d];simp,P,u.1,λy M=>(u.2.1 y M).2,?_⟩,by dsimp only;rw[d];simp⟩;have D:=H.nr
     try dsimp only
     rw[qT (l₁:=g++[f])];exact D
def oS(W:bP)(a:au):Nat->au
 |0=>[]
 |k+1=>oS W a k++if(k:Int)∈a then[]else W.getD k []
def mF(p:Pm)(seed:Int)(W:bP)(a:au):Nat:=mM p seed (oS W a W.length)
theorem Tp(p:Pm)(seed:Int)(a b:au):cS p seed (a++b)=cS p seed a++cS p seed b:=by unfold cS;split<;>simp
theorem Kk(p:Pm)(seed:Int)(W:bP)(a:au):∀k,kY (W.map (cS p seed)) a k=cS p seed (oS W a k)
 |0=>by simp[kY,oS,cS]
 |k+1=>by
  rw[kY,oS,Tp,Kk p seed W a k];congr 1;by_cases h:(k:Int)∈a
  ·rw[g0 h,g0 h];simp[cS]
  ·rw[g9 h,g9 h,qd,qO,qd];cases W[k]? with
   |none=>simp[cS]
   |some l=>rfl
theorem Ws{p:Pm}(a:bx p=eR)(seed:Int)(ids:au):dE p seed ids=bn p.1.toNat p.2.1.toNat++cS p seed ids:=by unfold dE cS;rw[g0 a,g0 a]
def nu(p:Pm)(seed:Int)(W:bP)(t:Nat):Option (au):=(uU W.length t).find? λg=>decide ((mF p seed W g:Int)≠bu p)
def iP(p:Pm)(seed:Int)(W:bP)(t:Int):au×Bool×Int:=
 if bx p then
  if 0<=t/\t<=i0 W/\W.length<=64 then
   if iX W.length t>4096 then([],eS,13)
   else match nu p seed W t.toNat with
    |some g=>(g,eR,0)
    |none=>([],eS,0)
  else([],eS,1)
 else([],eS,1)
theorem Ja(K H:Nat):aQ (K+H) (bn K H):=λr a=>by
 obtain⟨i,_,rfl⟩:=qo.1 a;exact tu _ _ _
theorem Kl{α:Type}(f:α->Bool)(l:List α){k:Nat}(b:k<i0 l)(a:(l.take k).find? f=eH):(l.take (k+1)).find? f=if f l[k]then dB l[k]else eH:=by rw[aD _ _ b,List.find?_append,a,Option.none_or,List.find?_cons];cases f l[k]<;>rfl
theorem Wu{α:Type}(f:α->Bool)(l:List α){k:Nat}{x:α}(h:(l.take k).find? f=dB x):l.find? f=dB x:=by have:l=l.take k++l.drop k:=(qB k l).symm;rw[this,List.find?_append,h];rfl
theorem HG(p:Pm)(seed:Int)(w:Sl)(W:bP)(t:Int)(h:f9)(hW:dN (bD (cw 1 az) 1 bi) h w W)(hl:i0 W<=2^20)(hr:∀l∈W,i0 l<=2^20)(ht:(0:Int)<=0):
  ai xJ 189 #[jv p,xz xH seed,w,xz xF t] h λv h'=>∃r:Sl,v=.tuple #[r,xD (iP p seed W t).2.1,xz xF (iP p seed W t).2.2]/\Sp h h' [EA (cw 1 az) r (iP p seed W t).1]:=by
 refine ts Tryz.func189 ?_ (.two .n (.two .n (.two .n (.two .n (.two .n (.two .n (.two (.two .n (.inn (.loop [(40,aT)] [(15,16),(40,48)] .n))) (.two .n (.two (.two .n (.inn (.loop [(54,aT)] [(8,11),(18,19),(54,66)] .n))) .n))))))))) (args:=[p,(xz xH (seed:Int)),w,(t:Int)]);have ay:=bD.len hW;have j:∀{Z:f9},aP (λb=>b<h.size) h Z->Sp h Z [EA (cw 1 az) ⟨eH,0,0⟩ []]:=λB=>.one B (Seq.nil _ _ _ _ _ _);refine(Sp.refl h).boxed λa Z H1=>?_;refine⟨p,(H1.box 0 i4).aE _ i4,(dO p Z).mono ?_⟩;rintro v h2 ⟨rfl,R2⟩;have H2:=H1.comp R2;refine⟨_,i4,aU (λe=>?_) λe=>?_⟩
 ·refine⟨⟨eH,0,0⟩,?_,?_⟩<;>(unfold iP;rw[g9 mn])
  exact j H2.ac
 ·have B:bx p=eR:=e;refine(NI (w.len:Int) t h2 i5 ht).mono ?_;intro v h3 G;unfold DH at G;rw[ay]at G;have K:(0<=((i0 W:Nat):Int)/\((i0 W:Nat):Int)<=64/\0<=t/\t<=((i0 W:Nat):Int))↔(0<=t/\t<=i0 W/\W.length<=64):=i5
  by_cases I:0<=t/\t<=i0 W/\W.length<=64
  ·rw[g0 (K.2 I)]at G;by_cases P:iX W.length t>4096
   ·rw[g0 P]at G;obtain⟨rfl,rfl⟩:=G;refine⟨(⟨eH,0,0⟩,13),i4,bz (λ_=>?_) λe=>j1⟩;refine⟨⟨eH,0,0⟩,?_,?_⟩<;>(unfold iP;rw[g0 B,g0 I,g0 P])
    exact j H2.ac
   ·rw[g9 P]at G;obtain⟨r,rfl,R3⟩:=G;refine⟨(r,0),i4,bz (λe=>absurd i4 e) λ_=>?_⟩
    try dsimp only
    rw[qj]at R3;have wR:iP p seed W t=match nu p seed W t.toNat with|some g=>(g,eR,0)|none=>([],eS,0):=by unfold iP;rw[g0 B,g0 I,g9 P]
    obtain⟨L,hL⟩:∃L,L=uU W.length t.toNat:=⟨_,rfl⟩
    rw[<-hL]at R3;have a8:i0 L<=4096:=by
     have h6:iX (i0 W:Int) t=((min (ch W.length t.toNat) 4097:Nat):Int):=by unfold iX;rw[g0 (K.2 I)];rfl
     rw[h6]at P;rw[hL,uU,qy,Fz _ _ 0 i5,Nat.sub_zero];omega
    have H3:=H2.comp R3;have pp:=(bN p).1 B;have ao:bu p=p.1+p.2.1:=nG B;obtain⟨n,hn⟩:∃n:Nat,bu p=n:=⟨(bu p).toNat,i5⟩
    have z:n<=64:=i5
    refine⟨p,(H3.box 0 i4).aE _ i4,(kb p h3).mono ?_⟩;rintro v h4 ⟨rfl,R4⟩;have H4:=H3.up R4.ac;refine⟨_,i4,(oN h4).mono ?_⟩;rintro v h5 ⟨f,rfl,R5⟩;have H5:=H4.bR R5;rw[hn];refine⟨dB f,i4,(KS f n h5 z).mono ?_⟩;rintro v h6 ⟨R,rfl,R6⟩;have H6:=H5.bR R6;refine⟨dB R,i4,p,(H6.box 2 i4).aE _ i4,(rT p h6).mono ?_⟩;rintro v h7 ⟨ar,rfl,R7⟩;rw[g0 B]at R7;obtain⟨A,F⟩:∃A,A=bn p.1.toNat p.2.1.toNat:=⟨_,rfl⟩
    rw[<-F]at R7;have T:aQ n A:=by have:=Ja p.1.toNat p.2.1.toNat;rw[F,show n=p.1.toNat+p.2.1.toNat by omega];exact this
    have bd:i0 A<=4:=by rw[F];simp[bn];omega
    have H7:=(H6.comp R7).Lf 4 i4;have V:∀{M' A':aI},AU n M' A'->i0 M'<=64:=λx=>by have:=x.len;have:=kR x.evenA;omega
    refine⟨ar,i4,?_⟩;refine aq (λk:Nat=>(k:Int)) (λk h'=>k<=i0 A/\∃M,AU n M (A.take k)/\Sp h h' [iD R f n M,av f 325 dG,av a 25 [xz xF p.1,xz xF p.2.1,xz xF p.2.2],ck 22 r 1 bi (cw 1 az) L,ck 34 ar 1 bi (cw 1 aB) A]) (λk=>i0 A-k) 0 i4 ⟨i5,[],by simpa using adm n,H7⟩ ?_;rintro k h8 ⟨hk,M,s,Q⟩;have bb:=(Q.RP 4 i4).1;refine ae (λe2=>?_) (λe2=>?_)
    ·have c:k<i0 A:=i5
     refine bD.mY (Q.Jv 4 i4 λ_=>rfl) k i4 c λx hx=>?_;refine(BW R f n M x _ Q (St.ee 0 i4 λh' y=>y.1) hx (T _ (qf _)) z s.even s.lead (V s)).mono ?_;rintro v h9 ⟨⟨b,rfl⟩,Y⟩;refine⟨b,i4,⟨k+1,j0,⟨i5,_,?_,Y⟩,i5⟩⟩;rw[aD _ _ c];exact Va s (T _ (qf c))
    ·rw[qg i5]at s;refine⟨p,(Q.box 2 i4).aE _ i4,(Wr p seed w W h8 (dN.up hW Q.ac) hl hr).mono ?_⟩;rintro v h9 ⟨O,rfl,R9⟩;have Y:=Q.comp R9;refine⟨O,i4,?_⟩;have ap:∀m∈W.map (cS p seed),aQ n m/\m.length<=2^20:=λm P=>by
      obtain⟨l,am,rfl⟩:=qo.1 P;refine⟨?_,qY (HE p seed l) (hr l am)⟩;have:=Pp p seed l;rw[hn]at this;exact this
     let d:au->Bool:=λg=>decide ((mF p seed W g:Int)≠bu p);have wI:nu p seed W t.toNat=L.find? d:=by unfold nu;rw[<-hL]
     have a9:=(Y.RP 3 i4).1;refine aq (λk:Nat=>(k:Int)) (λk h'=>k<=i0 L/\(L.take k).find? d=eH/\Sp h h' [iD R f n M,av f 325 dG,av a 25 [xz xF p.1,xz xF p.2.1,xz xF p.2.2],ck 22 r 1 bi (cw 1 az) L,ck 34 ar 1 bi (cw 1 aB) A,ck 53 O 1 bi DG (W.map (cS p seed))]) (λk=>i0 L-k) 0 i4 ⟨i5,jj,Y⟩ ?_;rintro k a5 ⟨a6,E,o⟩;refine ae (λe3=>?_) (λe3=>?_)
     ·have c:k<i0 L:=i5
      refine bD.afo (o.Jv 3 i4 λ_=>rfl) k i4 c λad x ax N hx=>?_;obtain⟨al,hb,a4⟩:=iD.rd o 0 rfl;have a1:L[k].length<=2^30:=by
       have ab:L[k]∈uU W.length t.toNat:=by have h0:L[k]∈L:=qf c;generalize L[k]=y at h0;rw[hL]at h0;exact h0
       obtain⟨g,hg,a0⟩:=qo.1 ab;have:=(AT hg).1;rw[<-a0,kH,this];have:=I.2.1;have:=I.2.2;omega
      refine(Pq R f n M A al O x (W.map (cS p seed)) L[k] a5 hb a4 (o.box 1 i4) (o.Jv 5 i4 λ_=>rfl) hx z s ap i9 a1).mono ?_;rintro v a7 ⟨rfl,X⟩;have a2:(decide (bL (A++kY (W.map (cS p seed)) L[k] (W.map (cS p seed)).length)=n))=!d L[k]:=by
       rw[Kk,qy,F,<-Ws B];show _=!decide ((mF p seed W L[k]:Int)≠bu p);rw[hn];unfold mF mM;by_cases hh:bL (dE p seed (oS W L[k] W.length))=n
       ·simp[hh]
       ·rw[hZ hh,hU i5];rfl
      rw[a2];have U:=o.up X.ac;refine⟨_,i4,aU (λe4=>?_) λe4=>?_⟩
      ·have J:d L[k]=eR:=by simpa using e4
       have S:=Kl d L c E;rw[g0 J]at S;have u:iP p seed W t=(L[k],eR,0):=by rw[wR,wI,Wu d L S]
       refine⟨x,by rw[u],?_⟩;rw[u];have ah:=U.Ql 3 i4 λ_=>rfl;have H:=nY N X.ac;have a3:=ah.fM (D:=EA (cw 1 az) x L[k]) 3 i4 λq hq=>bD.pick hq k c ax H;exact a3.take 3 λi A' hi=>by cases i with|zero=>exact hi|succ i=>simp at hi
      ·have J:d L[k]=eS:=by simpa using e4
       have S:=Kl d L c E;rw[J]at S;exact⟨k+1,j0,⟨i5,S,U⟩,i5⟩
     ·rw[qg i5]at E;have u:iP p seed W t=([],eS,0):=by rw[wR,wI,E]
      refine⟨⟨eH,0,0⟩,by rw[u],?_⟩;rw[u];exact j o.ac
  ·rw[g9 λhh=>I (K.1 hh)]at G;obtain⟨rfl,rfl⟩:=G;refine⟨(⟨eH,0,0⟩,1),i4,bz (λ_=>?_) λe=>j1⟩;refine⟨⟨eH,0,0⟩,?_,?_⟩<;>(unfold iP;rw[g0 B,g9 I])
   exact j H2.ac
section
variable {pw:f7}
end
theorem NJ{m:aw}{offs:Int}{w:Pow}{ds:aC}{n:aw}(r:w.calm)(p:i0 ds=64)(z:dn w offs=eS)(s:bp n=eR)(H:n.seq=m.seq+1):
  let live:=aN ds n.drives;let N:Int->Int:=λ_=>(i0 (aX n):Int)
  (live=[]∨dm m ds live N=eS->cR m offs w ds n=(7,m,w,ds))/\(live≠[]->dm m ds live N=eR->∃b,cR m offs w ds n=(0,n,w,b)/\b.length=64/\
   ∀k,aS b k=(aS ds k).map λd=>if k∈live then fd (aX n) (cN m d (aX n).length)else d):=by
 intro live N;have a:live.Nodup:=oQ (oC s);have e:cR m offs w ds n=(if live=[]∨dm m ds live N=eS then(7,m,w,ds)else
   if(makes m N live w ds).1≠0 then((makes m N live w ds).1,m,(makes m N live w ds).2)else
   ((layAll (bC n live) (makes m N live w ds).2.1 (makes m N live w ds).2.2).1,if(layAll (bC n live) (makes m N live w ds).2.1 (makes m N live w ds).2.2).1=0 then n else m,(layAll (bC n live) (makes m N live w ds).2.1 (makes m N live w ds).2.2).2)):=by
  unfold cR;rw[g9 (by rw[z];decide),g9 (by rw[s,hZ l4];decide)]
 refine⟨λh=>by rw[e,g0 h],λj o=>?_⟩;rw[e,g9 (by rintro(h|h);exact j h;rw[o]at h;cases h)];obtain⟨B,t,D,q⟩:=Bu r (N:=N) a p o;rw[t]
 try dsimp only
 rw[g9 jj];obtain⟨I,u,A,y⟩:=HB r (ds:=B) (P:=bC n live) D λx v=>by
  obtain⟨c,g⟩:=kD v;obtain⟨E,l,i⟩:=xO (qK.1 o x.1 c);obtain⟨F,G,J⟩:=Bv i;refine⟨g,cN m E (N x.1),?_,F,?_⟩
  ·rw[q,l,Option.map_some,g0 c]
  ·rw[oc a,g0 c,G];have:N x.1=(i0 (aX n):Int):=rfl;omega
 rw[u];refine⟨I,i4,A,λk=>?_⟩;rw[y,q,Option.map_map];congr 1;funext d;show fd (kF (bC n live) k) (if k∈live then cN m d (N k)else d)=_;rw[oc a];by_cases f:k∈live
 ·rw[g0 f,g0 f,g0 f]
 ·rw[g9 f,g9 f,g9 f];rfl
theorem Tq{o b:Int}{live:au}(g:0<=o/\o<=16777215)(i:0<=b/\b<8)(c:live.Nodup)(d:∀k∈live,0<=k/\k<64):(dt o b live).Nodup/\(dt o b live).Perm live:=by
 have e:dt o b live=rC ((8*o+b)%64).toNat live:=by unfold dt;rw[g0 i5]
 rw[e];have f:=YU ((8*o+b)%64).toNat live;refine⟨f,(List.perm_ext_iff_of_nodup f c).2 λa=>?_⟩;rw[Dv];exact⟨λh=>h.1,λh=>⟨h,d a h⟩⟩
structure afS (p:Pm) (extra:Int) (c:Nat) (x:Int) (m:aw) (D:aC):Prop where
 m_eq:m=cC p extra (qh c x)
 len:i0 D=64
 may:bp m=eR
 dr:m.drives=(qt c).map λi:Nat=>(i:Int)
 at_:∀s,aS D s=if s∈m.drives then dB ⟨x.toNat,aX m,0,[],eS,eS⟩else eH
section
variable {pw:f7}
theorem Wv{k:Int}{d:aW}{b:f7}(i at_ c:Int)(l:0<=c/\c<2^32)(f:aS ds k=dB d)(j:gH da k=dB b)(H:aa B h0 h (bv a pw da offs w ds m::As)):
  ai xJ 65 #[xB (dB b),xz xF i,xz xF at_,xz xH c] h λv h'=>v=xD (ug d i at_ c)/\aa B h0 h' (bv a pw da offs w (bV ds k (d.kL i at_ c)) m::As):=by
 obtain⟨x,H⟩:=gE H;obtain⟨ok,_⟩:=aa.cz H;obtain⟨n,rfl,y⟩:=jx f;have r:ds[n]?=dB (dB d):=by
  unfold aS at f;rw[g0 i5,qj]at f;cases hX:ds[n]? with
  |none=>rw[hX]at f;cases f
  |some o=>rw[hX]at f;exact congrArg dB f
 obtain⟨q,g,u⟩:=Qw.aa.iJ H r;have p:q=b:=by unfold gH at j;rw[g0 i5,qj,g]at j;injection j
 subst p;refine(To i at_ c l u).mono ?_;rintro _ h' ⟨rfl,s⟩;have t:=Qw.aa.nJ (k:=bB) (n:=n) g s;refine⟨i4,?_⟩;have e:bV ds (n:Int) (d.kL i at_ c)=ds.set n (dB (d.kL i at_ c)):=by simp only[bV,qj]
 rw[e];exact kG t
end
theorem DI(a:jq):a&&&1#32=0#32∨a&&&1#32=1#32:=by
 have h:((a&&&1#32).toNat)=a.toNat%2:=by rw[BitVec.toNat_and];exact Nat.and_one_is_mod _
 rcases Nat.mod_two_eq_zero_or_one a.toNat with e|e
 ·left;apply wG;rw[h,e];rfl
 ·right;apply wG;rw[h,e];rfl
theorem jz{a:jq}(h:a&&&1#32=0#32):jI a=a>>>1:=by unfold jI;rw[g9 (by rw[h];decide)]
theorem lE{a:jq}(h:a&&&1#32=1#32):jI a=(a>>>1)^^^3988292384#32:=by unfold jI;rw[g0 h]
theorem NK(a b c:jq):a^^^b^^^c=a^^^c^^^b:=by rw[wC,BitVec.xor_comm b c,<-wC]
theorem Tr(a b:jq):jI (a^^^b)=jI a^^^jI b:=by
 have e:(a^^^b)&&&1#32=(a&&&1#32)^^^(b&&&1#32):=by apply BitVec.eq_of_getLsbD_eq;intro i _;rw[xk,BitVec.getLsbD_xor,BitVec.getLsbD_xor,xk,xk,Bool.and_xor_distrib_right]
 have s:(a^^^b)>>>1=(a>>>1)^^^(b>>>1):=BitVec.ushiftRight_xor_distrib a b 1;rcases DI a with ha|ha<;>rcases DI b with hb|hb
 ·rw[jz ha,jz hb,jz oo,s]
 ·rw[jz ha,lE hb,lE oo,s,wC]
 ·rw[lE ha,jz hb,lE oo,s,NK]
 ·rw[lE ha,lE hb,jz oo,s,<-wC,NK _ 3988292384#32,wC _ 3988292384#32 3988292384#32,yV,xd]
theorem Pr{a:jq}(h:jI a=0#32):a=0#32:=by
 rcases DI a with ha|ha
 ·rw[jz ha]at h;apply wG;have c:=congrArg xu h;have b:=congrArg xu ha;rw[y0,yQ]at c;have h3:(a&&&1#32).toNat=a.toNat%2:=by rw[BitVec.toNat_and];exact Nat.and_one_is_mod _
  rw[h3]at b;simp at c b⊢;omega
 ·rw[lE ha]at h;exfalso;have c:a>>>1=3988292384#32:=by have:=congrArg (λz=>z^^^3988292384#32) h;simp only[wC,yV,xd,xf]at this;exact this
  have b:=congrArg xu c;rw[y0,yQ]at b;have:=a.isLt;simp at b;omega
theorem nk:∀(n:Nat) (a b:jq),dV n (a^^^b)=dV n a^^^dV n b
 |0,_,_=>rfl
 |n+1,a,b=>by unfold dV;rw[nk n,Tr]
theorem DJ:∀(n:Nat) {a:jq},dV n a=0#32->a=0#32
 |0,_,h=>h
 |n+1,_,h=>DJ n (Pr h)
theorem Zi{a b:jq}(h:a^^^b=0#32):a=b:=by have:=congrArg (λz=>z^^^b) h;simp only[wC,yV,xd,xf]at this;exact this
theorem Fc{n:Nat}{a b:jq}(h:dV n a=dV n b):a=b:=
 Zi (DJ n (by rw[nk,h,yV]))
theorem rf:∀(m n:Nat) (a:jq),dV (m+n) a=dV m (dV n a)
 |0,n,a=>by rw[Nat.zero_add];rfl
 |m+1,n,a=>by rw[show m+1+n=(m+n)+1 by omega];show jI (dV (m+n) a)=jI (dV m (dV n a));rw[rf m n a]
theorem HI:∀(n x:Nat),x<2^(32-n)->n<=32->dV n (wK 32 (x*2^n))=wK 32 x
 |0,x,_,_=>by rw[Nat.pow_zero,zV];rfl
 |n+1,x,h,hn=>by
  have b:x*2<2^(32-n):=by
   have:2^(32-n)=2^(32-(n+1))*2:=by rw[<-Nat.pow_succ];congr 1;omega
   omega
  show jI (dV n (wK 32 (x*2^(n+1))))=_;rw[show x*2^(n+1)=x*2*2^n by rw[Nat.pow_succ,Nat.mul_assoc,vM 2],HI n (x*2) b i5];have a:x*2<2^32:=qR b (Nat.pow_le_pow_right i6 i5);rw[jz]
  ·apply wG;rw[y0,wQ,wQ,wh a,wh i5,yQ];omega
  ·apply wG;rw[BitVec.toNat_and,wQ,wh a];show(x*2)&&&1=0;rw[Nat.and_one_is_mod];omega
def NL(a b c d:UInt8):jq:=wK 32 (a.toNat*2^0)^^^wK 32 (b.toNat*2^8)^^^wK 32 (c.toNat*2^16)^^^wK 32 (d.toNat*2^24)
theorem Zj(s:jq)(a b c d:UInt8):lR (lR (lR (lR s a) b) c) d=dV 32 (s^^^NL a b c d):=by
 have k:=a.toNat_lt;have j:=b.toNat_lt;have g:=c.toNat_lt;have i:=d.toNat_lt;have e:∀(n:Nat) (x:UInt8),n<=24->wK 32 x.toNat=dV n (wK 32 (x.toNat*2^n)):=λn x h=>by
  have f:=x.toNat_lt;refine(HI n x.toNat ?_ i5).symm;exact qR (show x.toNat<2^8 from f) (Nat.pow_le_pow_right i6 i5)
 unfold lR NL;rw[e 8 b i6,<-nk,<-rf,e 16 c i6,<-nk,<-rf,e 24 d i6,<-nk,<-rf];simp only[Nat.pow_zero,zV,wC]
theorem Jb(a b c d:UInt8):(NL a b c d).toNat=a.toNat+b.toNat*256+c.toNat*65536+d.toNat*16777216:=by
 have o:=a.toNat_lt;have l:=b.toNat_lt;have m:=c.toNat_lt;have n:=d.toNat_lt;have e:∀(k x y:Nat),x<2^k->x^^^(y*2^k)=x+y*2^k:=λk x y f=>by
  rw[vM y];have j:=Nat.two_pow_add_eq_or_of_lt f y;have h:x^^^(2^k*y)=(2^k*y)|||x:=by
   apply Nat.eq_of_testBit_eq;intro i;rw[Nat.testBit_xor,Nat.testBit_or,Nat.testBit_two_pow_mul];by_cases g:k<=i
   ·have:x.testBit i=eS:=Nat.testBit_lt_two_pow (qR f (Nat.pow_le_pow_right i6 g));simp[this]
   ·simp[g]
  rw[h,<-j];omega
 unfold NL;rw[BitVec.toNat_xor,BitVec.toNat_xor,BitVec.toNat_xor,wQ,wQ,wQ,wQ];rw[wh i5,wh i5,wh i5,wh i5];rw[Nat.pow_zero,zV,e 8 _ _ i5,e 16 _ _ i5,e 24 _ _ i5]
theorem abW{a b c d f g i e:UInt8}(h:NL a b c d=NL f g i e):a=f/\b=g/\c=i/\d=e:=by have j:=congrArg xu h;rw[Jb,Jb]at j;have:=a.toNat_lt;have:=b.toNat_lt;have:=c.toNat_lt;have:=d.toNat_lt;have:=f.toNat_lt;have:=g.toNat_lt;have:=i.toNat_lt;have:=e.toNat_lt;refine⟨wy.1 ?_,wy.1 ?_,wy.1 ?_,wy.1 ?_⟩<;>omega
theorem NM:∀{q:aM} {s t:jq},q.foldl lR s=q.foldl lR t->s=t
 |[],_,_,h=>h
 |x::q,s,t,h=>by
  have:=Fc (NM (q:=q) h);have:=congrArg (λz=>z^^^wK 32 x.toNat) this;simp only[wC,yV,xd]at this;exact this
theorem Ww{p q:aM}{a b c d f g i e:UInt8}(h:kI (p++([a,b,c,d]++q))=kI (p++([f,g,i,e]++q))):[a,b,c,d]=[f,g,i,e]:=by unfold kI at h;rw[zK,zK,zK,zK]at h;have h:=NM h;simp only[zr,wx]at h;rw[Zj,Zj]at h;have h:=Fc h;have h:=congrArg (λz=>List.foldl lR 4294967295#32 p^^^z) h;simp only[<-wC,yV,xf]at h;obtain⟨rfl,rfl,rfl,rfl⟩:=abW h;rfl
theorem abX(s:jq):∃a b c d,kP s=[a,b,c,d]/\NL a b c d=s:=by
 refine⟨_,_,_,_,i4,?_⟩;apply wG;rw[Jb];have m:=s.isLt;have e:∀n:Int,((b8 n).toNat:Int)=n%256:=λn=>by have:=ov n;omega
 have f:∀k:Nat,zx (s.toNat:Int) (2^(8*k))=((s.toNat/2^(8*k):Nat):Int):=λk=>by
  rw[Int.fdiv_eq_ediv_of_nonneg _ (by exact_mod_cast zB _)];norm_cast
 have g:∀k:Nat,(b8 (zx (s.toNat:Int) (2^(8*k)))).toNat=s.toNat/2^(8*k)%256:=λk=>by
  have:=e (zx (s.toNat:Int) (2^(8*k)));rw[f k]at this;rw[f k];omega
 have i:=g 0;have j:=g 1;have h:=g 2;have l:=g 3;simp only[Nat.mul_zero,zV,Nat.pow_zero,Nat.div_one,Nat.reduceMul,Nat.reducePow]at i j h l;simp only[Nat.mul_zero,zV,Nat.reduceMul];rw[i,j,h,l];omega
theorem abY(x:aM):kI (x++kP (lK x))=dV 32 4294967295#32:=by obtain⟨a,b,c,d,f,e⟩:=abX (lK x);rw[f];unfold kI;rw[zK];simp only[zr,wx];rw[Zj,e];unfold lK kI;congr 1;rw[BitVec.xor_comm 4294967295#32,<-wC,yV,xf]
theorem Km{c:aM}{k:Int}{x:aM}(h:fC c=dB (k,x)):i0 c=64/\c=c.take 59++(kP (lK (c.take 59))++[165]):=by
 unfold fC at h;split at h
 ·rename_i e;obtain⟨b,a⟩:=e;refine⟨b,?_⟩;unfold dL at a;split at a
  ·rename_i f;have g:=tv (kind:=((c.getD 3 0).toNat:Int)) f.2.2;have d:c.take 59=dK ((c.getD 3 0).toNat:Int) ((c.drop 4).take 55):=by
    conv=>lhs;rw[<-a]
    rw[qn,zW i5,qg i5]
   rw[d];rw[<-qn];exact a.symm
  ·rw[<-a]at b;simp at b
 ·cases h
theorem Wx{l:aM}{p:Nat}(h:p+4<=i0 l)(a:Int):∃u v,i0 u=4/\v.length=4/\l=l.take p++(u++l.drop (p+4))/\fv l p a 4=l.take p++(v++l.drop (p+4)):=by
 have b:∀k,k<=4->(fv l p a k).take p=l.take p/\(fv l p a k).drop (p+4)=l.drop (p+4):=by
  intro k
  induction k with
  |zero=>exactλ_=>⟨i4,i4⟩
  |succ k ih=>
   intro n;obtain⟨i,f⟩:=ih i5;unfold fv;rw[List.take_set_of_le i5,List.drop_set_of_lt i5];exact⟨i,f⟩
 have d:∀m:aM,i0 m=i0 l->m=m.take p++((m.drop p).take 4++m.drop (p+4)):=λm j=>by
  rw[<-zE,qB,qB]
 obtain⟨g,e⟩:=b 4 (qk _);have c:=uT l p a 4;refine⟨(l.drop p).take 4,((fv l p a 4).drop p).take 4,i9,by simp[c];omega,d l i4,?_⟩;rw[<-g,<-e];exact d _ c
theorem Ts{c:aM}{k:Int}{x:aM}(h:fC c=dB (k,x)){a b:Int}(I:0<=a/\a<=60)(e:uS c a b≠c):fC (uS c a b)=eH:=by
 obtain⟨F,n⟩:=Km h;cases hb:fC (uS c a b)with
 |none=>rfl
 |some y=>
  exfalso;obtain⟨i,d⟩:=Km (k:=y.1) (x:=y.2) hb;obtain⟨m,s⟩:∃m,m=uS c a b:=⟨_,rfl⟩
  rw[<-s]at i d e;by_cases j:m.take 59=c.take 59
  ·apply e;rw[n,d,j,<-n]
  ·obtain⟨p,rfl⟩:∃p:Nat,a=p:=⟨a.toNat,i5⟩
   obtain⟨u,v,A,r,B,f⟩:=Wx (l:=c) (p:=p) i5 b;have f:m=c.take p++(v++c.drop (p+4)):=by rw[s];unfold uS;rw[qj];exact f
   have G:p<=59:=by refine Decidable.byContradiction λH=>j ?_;rw[f,zW i9,List.take_take,yj i5]
   have D:∀z:aM,z=z.take 59++(kP (lK (z.take 59))++[165])->i0 z=64->kI (z.take 63)=dV 32 4294967295#32:=λz o E=>by
    have:z.take 63=z.take 59++kP (lK (z.take 59)):=by
     conv=>lhs;rw[o]
     rw[<-qn,zW (by simp[AM];omega),qg (by simp[AM];omega)]
    rw[this,abY]
   have w:∀z:aM,i0 z=4->(c.take p++(z++c.drop (p+4))).take 63=c.take p++(z++(c.drop (p+4)).take (59-p)):=λz o=>by
    have g:i0 (c.take p)=p:=i9
    generalize c.take p=P at g⊢;rw[List.take_append,qg i5,List.take_append,qg i5,g,o];congr 3;omega
   have t:=D c n F;have q:=D m d i;rw[f,w v r]at q;rw[B,w u A]at t
   match u,v,A,r with
   |[u0,u1,u2,u3],[v0,v1,v2,v3],_,_=>
    have:=Ww (t.trans q.symm);apply e;rw[f,<-this,<-B]
structure Pg where
 seq:Int
 num:Int
 many:Int
 bears:aM
 cell:aM
def aeh(x c:aM):Pg:=⟨db (x.take 4),((x.getD 4 0).toNat:Int),((x.getD 5 0).toNat:Int),(x.drop 7).take (x.getD 6 0).toNat,c⟩
def lO(c:aM):Option Pg:=
 match fC c with
 |some (k,x)=>if k=2/\(x.getD 6 0).toNat<=48/\(x.drop (7+(x.getD 6 0).toNat)).all (λb=>decide (b=0))=eR then dB (aeh x c)else eH
 |none=>eH
def abZ(f:Pg)(i:Int)(x:Pg):Bool:=decide (x.seq=f.seq/\x.many=f.many/\x.num=i)
def QQ(l:List Pg)(f:Pg):Nat->Option (List Pg)
 |0=>dB [f]
 |n+1=>match QQ l f n with
  |none=>eH
  |some out=>match l.find? (abZ f ((n+1:Nat):Int))with
   |none=>eH
   |some x=>dB (out++[x])
def aca(l:List Pg)(f:Pg):Option (List Pg):=if f.many<=0 then eH else QQ l f (f.many.toNat-1)
def aei(s:List Pg):Option aw:=
 match ado (s.flatMap Pg.bears)with
 |none=>eH
 |some m=>if aX m=s.map Pg.cell then dB m else eH
def Zk(a:List Pg)(out:List aw)(x:Pg):List aw:=
 if x.num≠0 then out else match aca a x with
 |none=>out
 |some s=>match aei s with
  |none=>out
  |some m=>if out.any (λy=>decide (fX y=fX m))then out else out++[m]
def aej(a:List Pg)(xs:List Pg):List aw:=xs.foldl (Zk a) []
def aeY(a b:aw):Bool:=decide (b.seq<=a.seq)
def aeZ(l:bY):List aw:=(aej (l.filterMap lO) (l.filterMap lO)).mergeSort aeY
theorem Tt{seq c a:Int}{b:aM}(h:0<=seq/\seq<4294967296)(r:0<=c/\c<256)(h3:0<=a/\a<256)(q:i0 b<=48):lO (jZ seq c a b)=dB ⟨seq,c,a,b,jZ seq c a b⟩:=by
 have k:i0 (bS seq 4++([b8 c,b8 a,b8 b.length]++b))=7+i0 b:=m5
 obtain⟨x,e⟩:∃x,x=bS seq 4++([b8 c,b8 a,b8 b.length]++b)++qh (55-i0 (bS seq 4++([b8 c,b8 a,b8 b.length]++b))) 0:=⟨_,rfl⟩
 have j:fC (jZ seq c a b)=dB (2,x):=by unfold jZ;rw[uA,e]
 have d:=GG seq;have f:x.getD 6 0=b8 b.length:=sp
 have o:x.getD 5 0=b8 a:=sp
 have n:x.getD 4 0=b8 c:=sp
 have m:x.take 4=bS seq 4:=sp
 have g:x.drop 7=b++qh (55-(7+i0 b)) 0:=by rw[e,k,d];rfl
 have i:((b8 (i0 b:Int)).toNat)=i0 b:=by have:=ov (i0 b:Int);omega
 unfold lO;rw[j]
 try dsimp only
 have l:(b8 (i0 b:Int)).toNat<=48:=i5
 rw[g0 ⟨i4,by rw[f];exact l,by
  rw[f,i,<-zE,g,List.drop_left];exact qK.2 λy p=>hU (List.eq_of_mem_replicate p)⟩]
 unfold aeh;rw[m,n,o,f,g,JA h.1 h.2,i,List.take_left];have:=ov c;have:=ov a;congr 2<;>omega
def pgN(m:aw)(i:Nat):Pg:=⟨m.seq,i,ik (fX m),((fX m).drop (48*i)).take 48,jZ m.seq i (ik (fX m)) (((fX m).drop (48*i)).take 48)⟩
theorem Kn(m:aw):aX m=(qt (ik (fX m))).map λi=>(pgN m i).cell:=rfl
theorem acb{m:aw}(a:bp m=eR):ik (fX m)<=9:=by
 have:=Qw.Wi a;unfold aX at this
 rwa [qy,List.length_range]at this
theorem Tu{m:aw}(a:bp m=eR){i:Nat}(b:i<ik (fX m)):lO (pgN m i).cell=dB (pgN m i):=by have d:=acb a;have c:=((dZ m).1 ((cv m).1 a).1).1;exact Tt ⟨i5,i5⟩ ⟨i5,i5⟩ ⟨i5,i5⟩ i9
theorem Jc(s:Sl)(l:Row)(c:UInt8)(h:f9)(q:Rd h s 1 aB l)(w:s.len<=s.cap)(z:i0 l<=2^30):
  ai xJ 278 #[s,xz xG c.toNat] h λv h'=>∃k:Nat,v=xA s.ptr k s.cap/\k<=i0 l/\(∀j (f:j<i0 l),k<=j->l[j]=c)/\(∀(d:k-1<i0 l),0<k->l[k-1]≠c)/\h'=h:=by
 refine ts Tryz.func278 ?_ (.two .n (.two (.join [(0,cF)] [(0,1),(5,23)] (.inn (.loop [(0,cF)] [(0,1),(5,23)] (.two (.join [] [(5,18)] .n) .n)))) .n));have p:=q.len;refine aO ?_;refine aq (λk:Nat=>(⟨s.ptr,k,s.cap⟩:Sl)) (λk h'=>h'=h/\k<=i0 l/\∀j (f:j<i0 l),k<=j->l[j]=c) (λk=>k) l.length (by rw[<-p]) ⟨i4,qk _,λj f d=>i5⟩ ?_;rintro k y ⟨rfl,d,b⟩
 try dsimp only
 refine aO (ae (λe=>?_) λe=>?_)
 ·have r:0<k:=i5
  rw[af _];refine(q.take k d).bo (g:=λx:UInt8=>Value.int .u8 x.toNat) (k-1) i5 i9 (l[k-1]'(by omega)) (by simp[aB]) ?_|>λ⟨a,ha,x,hx,hK⟩=>⟨a,ha,x.toNat,hx,hK⟩
  refine bf (λi=>?_) (λi=>?_)
  ·have m:l[k-1]'(by omega)=c:=by
    have:(l[k-1]'(by omega)).toNat=c.toNat:=by exact_mod_cast i
    exact wy.1 this
   refine⟨⟨i5,i5⟩,k-1,by congr 1;omega,⟨i4,i5,λj f t=>?_⟩,i5⟩;by_cases o:j=k-1
   ·subst o;exact m
   ·exact b j f i5
  ·refine⟨k,i4,d,b,λ_ _ u=>i (by rw[u]),i4⟩
 ·exact⟨k,i4,d,b,λ_ h0=>i5,i4⟩
theorem KU(s:Sl)(l:Row)(c:UInt8)(h:f9)(q:Rd h s 1 aB l)(u:s.len<=s.cap)(F:i0 l<=2^30):
  ai xJ 277 #[s,xz xG c.toNat] h λv h'=>(∃r:Sl,v=r/\(r.len=0↔∀x∈l,x=c))/\h'=h:=by
 refine ts Tryz.func277 ?_ (.two .n (.two (.join [(0,cF)] [(0,1),(5,17)] (.inn (.loop [(0,cF)] [(0,1),(5,17)] (.two (.join [] [(5,15)] .n) .n)))) .n));have B:=q.len;refine bE (λr h'=>h'=h/\(r.len=0↔∀x∈l,x=c)) ?_ ?_
 ·refine aq (λt:Sl×Nat=>t.1) (λt h'=>h'=h/\t.2<=i0 l/\(∀j (d:j<i0 l),j<t.2->l[j]=c)/\Rd h t.1 1 aB (l.drop t.2)/\t.1.len<=t.1.cap) (λt=>i0 l-t.2) (s,0) i4 ⟨i4,jj,λj _ d=>i5,pb,u⟩ ?_;rintro⟨r,k⟩ y ⟨rfl,E,a,b,i⟩;dsimp only at*;have o:=b.len;rw[q7]at o;refine aO (ae (λe=>?_) λe=>?_)
  ·have p:k<i0 l:=i5
   refine b.bo 0 i4 l9 _ i4 ?_;have z:(l.drop k)[0]'(by rw[q7];omega)=l[k]:=jj
   rw[z];refine bf (λf=>?_) (λf=>?_)
   ·have g:l[k]=c:=by
     have:(l[k]).toNat=c.toNat:=by exact_mod_cast f
     exact wy.1 this
    refine⟨⟨i5,i5⟩,(⟨if r.cap=1 then r.ptr else r.ptr.map (·.add (1*1)),r.len-1,r.cap-1⟩,k+1),i4,⟨i4,i5,λj d m=>?_,?_,i7⟩,i7⟩
    ·rcases zi.1 m with h2|rfl
     ·exact a j d h2
     ·exact g
    ·have:=b.drop 1 i;rw[zE]at this;exact this
   ·refine⟨i4,⟨λh0=>i5,λA=>absurd ?_ f⟩⟩;rw[A _ (qf p)]
  ·have D:k=i0 l:=i5
   refine⟨i4,⟨λ_ x w=>?_,λ_=>by show r.len=0;omega⟩⟩;obtain⟨j,d,rfl⟩:=qD w;exact a j d i5
 ·rintro r y ⟨rfl,b⟩;refine bf (λe=>?_) (λe=>?_)
  ·exact⟨⟨⟨eH,0,0⟩,i4,by rw[<-b];exact⟨λ_=>i5,λ_=>rfl⟩⟩,i4⟩
  ·exact⟨⟨r,i4,b⟩,i4⟩
theorem Ko(s:Sl)(l:Row)(cut:ByteArray)(a:cut=⟨#[0]⟩)(h:f9)(c:Rd h s 1 aB l)(f:s.len<=s.cap)(t:i0 l<=2^30):
  ai xJ 219 #[s,xC cut] h λv h'=>(∃r:Sl,v=r/\(r.len=0↔∀x∈l,x=0))/\h'=h:=by
 subst a;refine ts Tryz.func219 ?_ (.two .n (.two .n (.two .n (.two (.join [] [(4,5),(13,28)] .n) .n)))) [(6,(.l [0,1,2,4,5,3,6,7]))];have q:=c.len;refine bf (λe=>?_) (λe=>?_)
 ·refine⟨⟨⟨eH,0,0⟩,i4,⟨λ_ x b=>?_,λ_=>rfl⟩⟩,i4⟩;have:l=[]:=List.eq_nil_of_length_eq_zero i5;subst this;cases b
 ·refine sY j4 (aO (Cj j4 ?_));refine⟨0,⟨i6,i4⟩,Cj i6 ?_⟩;refine⟨0,⟨i6,i4⟩,0,⟨i6,i4⟩,?_⟩;refine(Jc s l 0 h c f t).mono ?_;rintro v m ⟨k,rfl,p,u,h3,rfl⟩;refine⟨⟨s.ptr,k,s.cap⟩,i4,trivial,?_⟩;refine(KU ⟨s.ptr,k,s.cap⟩ (l.take k) 0 m (c.take k p) (by show k<=s.cap;omega) i9).mono ?_;rintro v w ⟨⟨r,rfl,i⟩,rfl⟩;refine⟨r,i4,trivial,⟨r,i4,i.trans ⟨λd x b=>?_,λd x b=>d x (zN b)⟩⟩,i4⟩;obtain⟨j,o,rfl⟩:=qD b;by_cases g:j<k
  ·exact d _ (by rw[List.mem_take_iff_getElem];exact⟨j,i5,i4⟩)
  ·exact u j o i5
def qv(x:Sl×Sl):aR:=[x.1,x.2]
theorem Wy:∀x,∀c∈qv x,c.oneCell'=eR:=λx c a=>by
 simp only[qv,qX,List.not_mem_nil,or_false]at a;rcases a with rfl|rfl<;>rfl
def jX:iF (Sl×Sl) fi:=⟨λh q a e=>Seq h q a.1 1 az e.1/\Seq h q a.2 1 aB e.2,λa b=>⟨a.1.ac b,a.2.ac b⟩,λa c=>⟨a.1.mono c,a.2.mono c⟩⟩
abbrev oT:iF Sl (List fi):=bD jX 2 qv
abbrev afa:iF Sl aI:=bD (rJ 1 aB) 1 bi
abbrev eQ:bO C.toxZ 274 276 2 [xA eH 0 0,xA eH 0 0] 48:=⟨_,_,i4,i4,i4,i4,i4,i4⟩
abbrev Wz:bO C.toxZ 53 34 1 [xA eH 0 0] 24:=⟨_,_,i4,i4,i4,i4,i4,i4⟩
abbrev aaW:bO C.toxZ 283 4 1 [xD eS] 1:=⟨_,_,i4,i4,i4,i4,i4,i4⟩
theorem oT.get{h:f9}{q:ak}{s:Sl}{L:List fi}(x:oT.p h q s L){i:Int}(n:Nat)(c:i=n)(b:n<i0 L){K:Sl×Sl->Prop}(d:∀r,jX.p h q r L[n]->K r):
  ∃a:f7,(s.ptr=dB a/\0<=i/\i<((s.len:Nat):Int))/\∃x:Sl×Sl,ba h (a.add (i.toNat*2)) 0 [x.1,x.2]/\K x:=by
 obtain⟨rs,e,f,h3⟩:=bD.kg x;exact e.dY (g:=qv) n c i5 (rs[n]'(by omega)) i4 (d _ (h3 n i5 b))
structure uh (h:f9) (p:f7) (l k v:Sl) (L:List fi) (kn:List Bool) (vs:aI):Prop where
 box:bT h p 343 [l,k,v]
 eqs:dN oT h l L
 known:Rd h k 1 fm kn
 vals:dN afa h v vs
theorem uh.up{h h':f9}{p:f7}{l k v:Sl}{L:List fi}{kn:List Bool}{vs:aI}(x:uh h p l k v L kn vs)(a:aP (λb=>b<h.size) h h'):uh h' p l k v L kn vs:=
 ⟨x.box.ac a x.box.lt,dN.up x.eqs a,Seq.up x.known a,dN.up x.vals a⟩
theorem NN{kn:List Bool}{c:Int}(b:0<=c)(a:c.toNat<i0 kn):Qw.kn kn c=kn[c.toNat]:=by unfold Qw.kn;rw[qd,qc a];rfl
theorem lX{m:aI}{i:Nat}(h:i<i0 m):aA m i=m[i]:=bm h
theorem jA{α:Type}(f:α->Bool)(l:List α){k:Nat}(a:k<i0 l):(l.take (k+1)).filter f=(l.take k).filter f++if f l[k]then[l[k]]else[]:=by rw[aD _ _ a,zg,List.filter_cons];cases f l[k]<;>rfl
theorem rE(V:aI)(a:Row)(l:au)(c:Int):cH V a (l++[c])=cK 1 (aA V c.toNat) (cH V a l):=by unfold cH;rw[zK];rfl
theorem QR(a t:Row):cK 1 a t=za (λx y=>y^^^x) a t:=by unfold cK;congr 1;funext x y;rw[Gf.one_mul]
theorem DL{a t:Row}(c:i0 a=i0 t){k:Nat}(b:k<i0 t:=by omega):(za (λx y=>y^^^x) (a.take k) (t.take k)++t.drop k).set k (t[k]^^^(a[k]'(by omega)))=za (λx y=>y^^^x) (a.take (k+1)) (t.take (k+1))++t.drop (k+1):=by
 have d:i0 (za (λx y=>y^^^x) (a.take k) (t.take k))=k:=i9
 rw[qQ _ _ i5,d,qZ,qI b,zh,aD _ _ b,aD _ _ (show k<i0 a by omega),yF i9];simp
theorem NO(p:f7)(l k v:Sl)(L:List fi)(kn:List Bool)(vs:aI)(n:Nat)(h:f9)(t:uh h p l k v L kn vs)(O:i0 kn=n)(G:∀e∈L,∀c∈e.1,0<=c/\c<(n:Int))(U:i0 L<=2^30)(y:∀e∈L,i0 e.1<=2^30):
  ai xJ 324 #[xB (dB p)] h λv h'=>(∃i:Int,v=xz xF i/\(0<=i->∃(N:i.toNat<i0 L),i0 ((L[i.toNat]).1.filter λc=>!Qw.kn kn c)=1))/\Sp h h' []:=by
 refine ts Tryz.func324 ?_ (.two .n (.two (.two .n (.inn (.loop [(13,aT)] [(2,6),(7,8),(13,40)] (.two .n (.two .n (.two (.inn (.two .n (.two .n (.two (.two .n (.inn (.loop [(5,aT),(21,aT)] [(5,6),(7,8),(21,36)] .n))) .n)))) .n)))))) .n));have Q:=bD.len t.eqs;refine⟨p,i4,l,t.box.cell0 i4,?_⟩;refine aq (λi:Nat=>(i:Int)) (λi h'=>i<=i0 L/\Sp h h' []) (λi=>i0 L-i) 0 i4 ⟨i5,Sp.refl h⟩ ?_;rintro i J ⟨N,D⟩;refine ae (λe=>?_) λe=>⟨⟨-1,i4,λV=>i5⟩,D⟩;have g:i<i0 L:=i5
 refine oT.get (dN.up t.eqs D.ac) i i4 g λx I=>?_;refine(Sp.refl J).alloc ag i4 λa T K=>?_;refine K.storeAll ag 0 i4 i4 (qv x) i4 i4 i4 i4 λh3 u=>?_;have z:=up D.ac u.ac;have s:=t.up z;have q:=jX.mono (jX.loc I u.ac) λb H=>qR H u.ac.1;have B:=u.box 0 i4;refine⟨x.1,B.cell0 i4,?_⟩;have P:=q.1.len;have E:=y _ (qf g);let d:Nat->Nat:=λj=>i0 (((L[i]).1.take j).filter λc=>!Qw.kn kn c);refine aq (λj:Nat=>(((d j:Nat):Int),(j:Int))) (λj h'=>h'=h3/\j<=(L[i]).1.length) (λj=>(L[i]).1.length-j) 0 (by simp[d]) ⟨i4,i5⟩ ?_;rintro j R ⟨rfl,S⟩
 try dsimp only
 have M:d j<=j:=qY (qJ _ _) i9;refine ae (λF=>?_) (λF=>?_)
 ·have f:j<(L[i]).1.length:=i5
  have w:=G _ (qf g) _ (qf f);refine q.1.bo j i4 f _ i4 ?_;refine⟨p,i4,k,s.box.cell i4,?_⟩;refine s.known.bo (L[i]).1[j].toNat i5 i5 _ i4 ?_;rw[af ((j:Int)+1),af _];have r:=NN (kn:=kn) w.1 i5;refine aU (λm=>?_) (λm=>?_)
  ·refine⟨j+1,?_,⟨i4,i5⟩,i5⟩;have:d (j+1)=d j+1:=by simp only[d];rw[jA _ _ f,r,m];simp
   rw[this];rfl
  ·refine⟨j+1,?_,⟨i4,i5⟩,i5⟩;have:d (j+1)=d j:=by simp only[d];rw[jA _ _ f,r,m];simp
   rw[this];rfl
 ·have A:j=(L[i]).1.length:=i5
  subst A;have o:d (L[i]).1.length=i0 ((L[i]).1.filter λc=>!Qw.kn kn c):=by simp only[d];rw[qU]
  rw[o];refine bf (λm=>⟨⟨i,i4,λ_=>⟨i5,by exact_mod_cast m⟩⟩,.zip z⟩) λm=>?_;exact⟨i+1,j0,⟨i5,.zip z⟩,i5⟩
theorem Kp(p:f7)(l k v:Sl)(L:List fi)(kn:List Bool)(vs:aI)(n w:Nat)(x:Sl×Sl)(e:fi)(h:f9)(hP:uh h p l k v L kn vs)(N:jM n w L kn vs)(U:dN jX h x e)(H:iI n w e)(hw:w<=2^20)(am:i0 e.1<=2^20):
  ai xJ 270 #[xB (dB p),xE #[x.1,x.2]] h λr h'=>∃a b:Sl,r=xE #[a,b]/\Sp h h' [an 3 a 1 az (ft kn vs e).1,an 5 b 1 aB (ft kn vs e).2]:=by
 refine ts Tryz.func270 ?_ (.two .n (.two .n (.two (.two .n (.inn (.loop [(17,aT)] [(7,10),(17,58)] (.two .n (.two .n (.two (.inn (.two .n (.two .n (.two .n (.inn (.loop [(43,aT)] [(8,10),(43,57)] .n)))))) .n)))))) .n))) (args:=[(dB p),x]);refine(Sp.refl h).boxed λP h1 H1=>?_;refine H1.alloc ag i4 λV h2 X=>?_;have P2:=X.ac;refine⟨x.2,(X.box 0 i4).cell i4,(eK x.2 e.2 h2 (Seq.up U.2 P2) (by have:=H.len;omega)).mono ?_⟩;rintro vv h3 ⟨d,rfl,R3⟩;have H3:=X.comp R3;refine⟨d,i4,H3.alloc ag i4 λa5 h4 H4=>?_⟩;refine H4.storeAll ag 3 i4 i4 (qv (⟨eH,0,0⟩,d)) i4 i4 i4 i4 λh5 H5=>?_;have Z:Sp h h5 [av P 276 (qv x),av V 276 [xA eH 0 0,xA eH 0 0],an 5 d 1 aB e.2,av a5 276 (qv (⟨eH,0,0⟩,d)),an 3 ⟨eH,0,0⟩ 1 az []]:=H5.nil 3 1 az;refine⟨x.1,(Z.box 0 i4).cell0 i4,?_⟩;have al:=U.1.len;have ap:=N.klen;have ah:=N.vlen;refine aq (λt:Nat×Sl=>(t.1:Int)) (λt h'=>t.1<=i0 e.1/\Sp h h' [av P 276 (qv x),av V 276 [xA eH 0 0,xA eH 0 0],an 5 d 1 aB (cH vs e.2 ((e.1.take t.1).filter λc=>Qw.kn kn c)),av a5 276 (qv (t.2,d)),an 3 t.2 1 az ((e.1.take t.1).filter λc=>!Qw.kn kn c)]) (λt=>i0 e.1-t.1) (0,⟨eH,0,0⟩) i4 ⟨jj,by simpa[cH]using Z⟩ ?_;rintro⟨j,o⟩ h7 ⟨hj,q⟩;dsimp only at*;have s:i0 (cH vs e.2 ((e.1.take j).filter λc=>Qw.kn kn c))=w:=jL H.len λc hc=>by
  have E:=qC.1 hc;have J:=zN E.1;exact N.CN (H.cM c J).1 (H.cM c J).2 E.2
 have ab:i0 ((e.1.take j).filter λc=>!Qw.kn kn c)<=j:=qY (qJ _ _) i9;refine ae (λe2=>?_) (λe2=>?_)
 ·have f:j<i0 e.1:=i5
  have z:=H.cM _ (qf f);have u:=hP.up q.ac;refine(Seq.up U.1 q.ac).bo j i4 f _ i4 ?_;refine⟨p,i4,k,u.box.cell i4,?_⟩;refine u.known.bo (e.1[j]).toNat i5 i5 _ i4 ?_;have G:=NN (kn:=kn) z.1 i5;refine aU (λB=>?_) (λB=>?_)
  ·rw[<-G]at B;refine⟨o,(q.box 3 i4).cell0 i4,?_⟩;refine q.push ag 4 i4 gy i4 i6 (λ_=>rfl) fx e.1[j] i4 i6 i5 λY h8 i=>?_;refine i.gA ag 3 i4 i4 [Y] i4 i4 i4 (by simp[qv]) λh9 K=>?_;refine⟨(j+1,Y),js,⟨i7,?_⟩,i7⟩
   try dsimp only
   rw[jA _ _ f,jA _ _ f,B];simp only[Bool.not_false,if_true,zb,if_false,qH];exact K
  ·rw[<-G]at B;have I:=N.CN z.1 z.2 B;rw[lX i5]at I;refine⟨p,i4,v,u.box.cell i4,?_⟩;obtain⟨vr,S,ad,Q⟩:=bD.kg hP.vals;have g:(e.1[j]).toNat<i0 vs:=i5
   refine(Seq.up S q.ac).lr (e.1[j]).toNat i5 i5 ?_;have M:=(Q (e.1[j]).toNat i5 g).1;have F:=M.len;generalize vr[(e.1[j]).toNat]'(by omega)=y at M F⊢;obtain⟨A,hA⟩:∃A,A=vs[(e.1[j]).toNat]'g:=⟨_,rfl⟩
   obtain⟨D,hD⟩:∃D,D=cH vs e.2 ((e.1.take j).filter λc=>Qw.kn kn c):=⟨_,rfl⟩
   rw[<-hA]at I M F;rw[<-hD]at q s;refine aq (λm:Nat=>(m:Int)) (λm h'=>m<=w/\Sp h h' [av P 276 (qv x),av V 276 [xA eH 0 0,xA eH 0 0],an 5 d 1 aB (za (λx y=>y^^^x) (A.take m) (D.take m)++D.drop m),av a5 276 (qv (o,d)),an 3 o 1 az ((e.1.take j).filter λc=>!Qw.kn kn c)]) (λm=>w-m) 0 i4 ⟨i5,pb⟩ ?_;rintro m h8 ⟨hm,i⟩;have W:i0 (za (λx y=>y^^^x) (A.take m) (D.take m))=m:=i9
   refine ae (λe4=>?_) (λe4=>?_)
   ·have ao:m<w:=i5
    refine(Seq.up M i.ac).bo m i4 i5 _ i4 ?_;refine⟨d,(i.box 3 i4).cell i4,?_⟩;refine(i.seq 2 i4 λ_=>rfl).bo m i4 i9 _ i4 ?_;have O:((za (λx y=>y^^^x) (A.take m) (D.take m)++D.drop m)[m]'(by simp;omega))=D[m]'(by omega):=by rw[zX i5];simp[W]
    rw[O,mz];refine i.set ag 2 i4 (λ_=>rfl) i4 m i4 i9 (D[m]'(by omega)^^^A[m]'(by omega)) i4 i4 i4 λh9 K=>?_;rw[DL i5]at K;exact⟨m+1,j0,⟨i5,K⟩,i5⟩
   ·have T:m=w:=i5
    subst T;refine⟨(j+1,o),js,⟨i7,?_⟩,i7⟩
    try dsimp only
    rw[jA _ _ f,jA _ _ f,B];simp only[Bool.not_true,if_true,zb,if_false,qH];rw[rE,lX g,<-hA,<-hD,QR];rw[qg i5,qg i5,q8 i5,qH]at i;exact i
 ·have R:j=i0 e.1:=i5
  subst R;rw[qU]at q;refine⟨(o,d),(q.box 3 i4).aE _ i4,?_⟩;refine q.storeAll ag 1 i4 i4 (qv (o,d)) i4 i4 i4 i4 λh8 i=>?_;refine⟨(o,d),(i.box 1 i4).aE _ i4,o,d,i4,?_⟩;exact i.bX [4,2]
theorem aa.afx{B:ak}{c h:f9}{As:List HP}{e k:Nat}{α:Type}{f:α->aR}{s:Sl}{l:List α}(H:aa B c h As)(i:Nat)(g:As[i]?=dB (an e s k f l))(d:∀x,i0 (f x)=k)(j:l≠[]):aa B c h (As.set i (EA (rJ k f) s l)):=
 H.fM i g λq ⟨a,b⟩=>⟨a.seq d b,λm=>absurd m j⟩
theorem count_set{l:List Bool}:∀{i:Nat} (h:i<i0 l),l[i]=eS->((l.set i eR).count eS)+1=l.count eS:=by
 induction l with
 |nil=>intro i h;simp at h
 |cons a l ih=>
  intro i h b;cases i with
  |zero=>simp at b;subst b;simp
  |succ i=>
   have:=ih (i:=i) j6 kt;rw[zo,List.count_cons,List.count_cons];omega
theorem WA(p:f7)(l k v:Sl)(L:List fi)(n w:Nat)(A h:f9)(S:dN oT A l L)(E:∀e∈L,iI n w e)(hn:n<=64)(ab:i0 L<=2^20)(U:1<=w/\w<=2^20)(q:∀e∈L,i0 e.1<=2^20)
  (H:Sp A h [av p 343 [l,k,v],an 4 k 1 fm (qh n eS),ck 34 v 1 bi (rJ 1 aB) (qh n [])]):
  ai xJ 269 #[xB (dB p)] h λr h'=>r=.tuple #[]/\∃kn vs,jM n w L kn vs/\Sp A h' [av p 343 [l,k,v],an 4 k 1 fm kn,ck 34 v 1 bi (rJ 1 aB) vs]:=by
 refine ts Tryz.func269 ?_ (.scope 0 [] [(2,37)] [] [.n] []);refine aq (λ_:List Bool×aI=>()) (λt h'=>jM n w L t.1 t.2/\Sp A h' [av p 343 [l,k,v],an 4 k 1 fm t.1,ck 34 v 1 bi (rJ 1 aB) t.2]) (λt=>t.1.count eS) (qh n eS,qh n []) i4 ⟨Ss n w L,H⟩ ?_;rintro⟨kn,vs⟩ J ⟨g,P⟩;dsimp only at*;have N:=g.klen;have X:=g.vlen;have mk:∀{B},Sp A B [av p 343 [l,k,v],an 4 k 1 fm kn,ck 34 v 1 bi (rJ 1 aB) vs]->uh B p l k v L kn vs:=λf=>
  ⟨f.box 0 i4,dN.up S f.ac,f.seq 1 i4 λ_=>rfl,f.Jv 2 i4 λ_=>rfl⟩
 refine(NO p l k v L kn vs n J (mk P) N (λe G=>(E e G).cM) i5 λe G=>by have:=q e G;omega).mono ?_;rintro _ B ⟨⟨i,rfl,V⟩,Y⟩;refine⟨i,i4,?_⟩;have f:=P.up Y.ac;refine ae (λe=>⟨i4,kn,vs,g,f⟩) λe=>?_;have M:0<=i:=Int.not_lt.1 e;obtain⟨s,y⟩:=V M;have j:=mk f;refine⟨p,i4,l,j.box.cell0 i4,?_⟩;refine oT.get j.eqs i.toNat i5 s λx T=>?_;have d:=qf s;refine(Kp p l k v L kn vs n w x L[i.toNat] B j g T (E _ d) U.2 (q _ d)).mono ?_;rintro _ h3 ⟨a,b,rfl,Q⟩;refine⟨(a,b),i4,?_⟩;obtain⟨c,D⟩:∃c,(ft kn vs L[i.toNat]).1=[c]:=by
  have J:(ft kn vs L[i.toNat]).1.length=1:=y
  match B:(ft kn vs L[i.toNat]).1,J with
  |[c],_=>exact⟨c,i4⟩
 have o:=g.Ad (E _ d);have I:=o.cM c (by rw[D];simp);have u:Qw.kn kn c=eS:=CO g L[i.toNat] c (by rw[D];simp);rw[NN I.1 i5]at u;have O:=f.comp Q;rw[D]at O;refine O.alloc ag i4 λa8 h4 Z=>?_;refine Z.storeAll ag 5 i4 i4 (qv (a,b)) i4 i4 i4 i4 λh5 m=>?_;refine⟨p,i4,k,(m.box 0 i4).cell i4,a,(m.box 5 i4).cell0 i4,?_⟩;have z:=m.seq 3 i4 λ_=>rfl;refine z.bo 0 i4 jj c i4 ?_;refine⟨p,i4,v,(m.box 0 i4).cell i4,a,(m.box 5 i4).cell0 i4,?_⟩;refine z.bo 0 i4 jj c i4 ?_;refine⟨b,(m.box 5 i4).cell i4,?_⟩;refine m.set ag 1 i4 (λ_=>rfl) i4 c.toNat i5 i5 eR i4 i4 i4 λh6 F=>?_;refine⟨⟨(F.box 5 i4).cell i4,(F.box 5 i4).cell0 i4,trivial⟩,?_⟩;have K:(ft kn vs L[i.toNat]).2≠[]:=λhh=>by have:=o.len;rw[hh]at this;simp at this;omega
 have W:=aa.afx F 4 i4 (λ_=>rfl) K;refine W.afn ag 2 4 i6 i4 i4 (λ_=>rfl) i4 c.toNat i5 i5 i4 i4 i4 λh8 R=>⟨trivial,?_⟩
 refine⟨(kn.set c.toNat eR,vs.set c.toNat (ft kn vs L[i.toNat]).2),i4,⟨Vb g E d D,R.bX [0,1,2]⟩,?_⟩;have:=count_set (l:=kn) (i:=c.toNat) i5 u;dsimp only;omega
theorem Ps(s:Sl)(l:Row)(h:f9)(a:Rd h s 1 aB l)(c:s.len<=s.cap)(b:i0 l<=2^30):
  ai xJ 271 #[s] h λv h'=>v=xD (!(l.any (· !=0)))/\h'=h:=by
 refine ts Tryz.func271 ?_;refine(Ko s l _ i4 h a c b).mono ?_;rintro _ e ⟨⟨r,rfl,d⟩,rfl⟩;refine⟨r,i4,?_,i4⟩;congr 1;rw[yS];simp only[beq_iff_eq,Bool.not_eq_true',List.any_eq_false,bne_iff_ne,ne_eq,Decidable.not_not];rw[<-d];omega
def Jd(l:au):Prop:=∀i (h:i+1<i0 l),l[i]<l[i+1]
theorem KV(n:Nat)(l:Sl)(L:List fi)(w:Nat)(h:f9)(r:dN oT h l L)(H:∀e∈L,iI n w e/\Jd e.1)(hn:n<=64)(Y:i0 L<=2^20)(s:∀e∈L,i0 e.1<=2^20):
  ai xJ 268 #[xz xF n,l] h λv h'=>v=xD eR/\Sp h h' []:=by
 refine ts Tryz.func268 ?_ (.two .n (.two (.join [] [(4,5),(9,15)] .n) (.two (.two .n (.inn (.loop [(17,aT)] [(4,5),(6,9),(17,61)] (.two .n (.two .n (.two (.inn (.two .n (.two (.two .n (.inn (.loop [(24,aT)] [(4,5),(7,9),(24,51)] .n))) .n))) .n)))))) .n)));have W:=bD.len r;refine aO (ae (λe=>i5) λ_=>ae (λe=>i5) λ_=>?_);refine aq (λi:Nat=>(i:Int)) (λi h'=>i<=i0 L/\Sp h h' []) (λi=>i0 L-i) 0 i4 ⟨i5,Sp.refl h⟩ ?_;rintro i R ⟨hi,u⟩;refine ae (λe=>?_) λe=>⟨i4,u⟩;have d:i<i0 L:=i5
 refine oT.get (dN.up r u.ac) i i4 d λx O=>?_;refine(Sp.refl R).alloc ag i4 λa h2 S=>?_;refine S.storeAll ag 0 i4 i4 (qv x) i4 i4 i4 i4 λh3 p=>?_;have E:=up u.ac p.ac;have c:=jX.mono (jX.loc O p.ac) λb M=>qR M p.ac.1;have f:=p.box 0 i4;refine⟨x.1,f.cell0 i4,?_⟩;have V:=c.1.len;have F:=s _ (qf d);obtain⟨k,A⟩:=H _ (qf d);refine aq (λj:Nat=>(j:Int)) (λj h'=>h'=h3/\j<=(L[i]).1.length) (λj=>(L[i]).1.length-j) 0 i4 ⟨i4,i5⟩ ?_;rintro j B ⟨rfl,hj⟩;refine ae (λI=>?_) (λI=>?_)
 ·have m:j<(L[i]).1.length:=i5
  have N:=k.cM _ (qf m);refine c.1.bo j i4 m _ i4 ?_;refine ae (λe=>i5) λ_=>ae (λe=>i5) λ_=>?_;have G:∃q:Nat,qe xF ((j:Int)+1)=(q:Int)/\(B=B/\q<=(L[i]).1.length)/\(L[i]).1.length-q<(L[i]).1.length-j:=⟨j+1,j0,⟨i4,i5⟩,i5⟩
  refine ae (λU=>?_) λU=>G;refine⟨x.1,f.cell0 i4,?_⟩;rw[af ((j:Int)-1)];refine c.1.bo (j-1) i5 i5 _ i4 ?_;have D:=A (j-1) i5;have P:(L[i]).1[j-1+1]'(by omega)=(L[i]).1[j]:=by congr 1;omega
  rw[P]at D;exact ae (λe=>absurd D i5) λ_=>G
 ·refine⟨x.2,f.cell i4,?_⟩;obtain⟨rs,T,h8,J⟩:=bD.kg (dN.up r E);have z:=(J 0 i5 i5).2.len;obtain⟨t,Z,y,X,Q⟩:=T.dY (g:=qv) (i:=(0:Int)) 0 rfl i5 (rs[0]'(by omega)) rfl (K:=λy=>y.2.len=w) (by rw[z];exact(H _ (qf (show 0<i0 L by omega))).1.len);refine⟨t,Z,y.2,?_,?_⟩
  ·exact X.2.1
  have o:=c.2.len;rw[k.len]at o;refine bz (λe=>absurd (by rw[o,Q]) e) λ_=>?_;exact⟨i+1,j0,⟨i5,.zip E⟩,i5⟩
theorem aa.WB{B:ak}{m h:f9}{As:List HP}{e k:Nat}{α β:Type}{E:iF α β}{f:α->aR}{s:Sl}{n:Nat}{a:α}{b:β}(H:aa B m h As)(i:Nat)(v:As[i]?=dB (an e s k f (qh n a)))(t:∀h,E.p h (λ_=>False) a b):aa B m h (As.set i (ck e s k f E (qh n b))):=
 H.fM i v λq ⟨x,y⟩=>⟨_,λ_=>False,x,λc o=>⟨y c o,λh=>h⟩,λ_ h=>h.elim,jj,λj r l d g=>by
  rw[wk]at d g;split at d
  ·rename_i u;rw[g0 u]at g;cases d;cases g;exact t h
  ·cases d⟩
theorem aa.ael{B:ak}{k h:f9}{As:List HP}{e m:Nat}{a b:Sl}{l:au}{r:Row}(H:aa B k h As)(i j:Nat)(d:i≠j)(o:As[i]?=dB (an e a 1 az l))(n:As[j]?=dB (an m b 1 aB r)):aa B k h ((As.set i (EA jX (a,b) (l,r))).set j emp):=
 H.merge i j d o n λq p _ g f=>⟨g.1.seq (λ_=>rfl) λx c=>.inl (g.2 x c),f.1.seq (λ_=>rfl) λx c=>.inr (f.2 x c)⟩
theorem WC(kn:List Bool)(vs:aI)(L:List fi){i:Nat}(a:i<i0 L):aV kn vs (L.take (i+1))=if(ft kn vs L[i]).1.isEmpty then aV kn vs (L.take i)else aV kn vs (L.take i)++[ft kn vs L[i]]:=by unfold aV;rw[aD _ _ a,qT,zg];cases h:(ft kn vs L[i]).1.isEmpty<;>simp[h]
theorem Tv(kn:List Bool)(vs:aI)(L:List fi){i:Nat}(a:i<i0 L):km kn vs (L.take (i+1))=(km kn vs (L.take i)||((ft kn vs L[i]).1.isEmpty&&(ft kn vs L[i]).2.any (· !=0))):=by unfold km;rw[aD _ _ a,qT,yU];simp
theorem Tw{kn:List Bool}{vs:aI}{L:List fi}{i:Nat}(h:km kn vs (L.take i)=eR):km kn vs L=eR:=by rw[<-qB i L];unfold km at*;rw[qT,yU,h];rfl
theorem WD(l:Sl)(L:List fi)(n w:Nat)(h:f9)(J:dN oT h l L)(T:∀e∈L,iI n w e/\Jd e.1)(hn:n<=64)(I:i0 L<=2^20)(hw:1<=w/\w<=2^20)(A:∀e∈L,i0 e.1<=2^20):
  ai xJ 214 #[xz xF n,l] h λr h'=>∃kn vs,jM n w L kn vs/\((km kn vs L=eR/\r=.tuple #[xA eH 0 0,xA eH 0 0,xA eH 0 0,xz xF 10]/\Sp h h' [])∨
   (km kn vs L=eS/\∃k v s:Sl,r=.tuple #[k,v,s,xz xF 0]/\Sp h h' [an 4 k 1 fm kn,ck 34 v 1 bi (rJ 1 aB) vs,ck 276 s 2 qv jX (aV kn vs L)])):=by
 refine ts Tryz.func214 ?_ (.two .n (.two .n (.two (.join [(8,MJ)] [(8,9),(16,23)] .n) (.two .n (.two (.two .n (.inn (.loop [(6,cF),(27,aT)] [(4,8),(10,12),(27,47)] .n))) .n))))) [(3,(.y [0,1,3] (.l [2,4,5,6,7]) (.l [4,2,5,6,7])))];have al:=bD.len J;refine(KV n l L w h J T hn I A).mono ?_;rintro _ h1 ⟨rfl,R1⟩;refine⟨eR,i4,aU (λe=>j1) λ_=>?_⟩;refine bE (λs h'=>∃(p:f7) (k v:Sl),s=dB p/\Sp h h' [av p 343 [l,k,v],an 4 k 1 fm (qh n eS),ck 34 v 1 bi (rJ 1 aB) (qh n [])]) ⟨?_,?_⟩ ?_
 ·refine R1.make ag fm aaW i6 eS i4 i4 n n i4 i4 (qk _) i5 λk h2 ad N H2=>⟨trivial,?_⟩
  refine H2.make ag bi Wz i6 ⟨eH,0,0⟩ i4 i4 n n i4 i4 (qk _) i5 λv h3 X W S=>⟨trivial,?_⟩
  refine S.boxed λp Z H=>⟨trivial,p,k,v,i4,?_⟩
  exact(aa.WB (E:=rJ 1 aB) (b:=[]) H 1 i4 λh=>⟨Seq.nil _ _ _ _ _ _,λ_=>rfl⟩).bX [2,0,1]
 ·refine R1.make ag bi Wz i6 ⟨eH,0,0⟩ i4 i4 n n i4 i4 (qk _) i5 λv h3 X W S=>⟨trivial,?_⟩
  refine S.make ag fm aaW i6 eS i4 i4 n n i4 i4 (qk _) i5 λk h2 ad N H2=>⟨trivial,?_⟩
  refine H2.boxed λp Z H=>⟨trivial,p,k,v,i4,?_⟩
  exact(aa.WB (E:=rJ 1 aB) (b:=[]) H 0 i4 λh=>⟨Seq.nil _ _ _ _ _ _,λ_=>rfl⟩).bX [2,1,0]
 rintro s Z ⟨p,k,v,rfl,H⟩;refine(WA p l k v L n w h Z J (λe he=>(T e he).1) hn I hw A H).mono ?_;rintro _ h5 ⟨rfl,kn,vs,K,H5⟩;refine⟨(),i4,?_⟩;refine aq (λt:Nat×Sl=>(t.2,(t.1:Int))) (λt h'=>t.1<=i0 L/\km kn vs (L.take t.1)=eS/\Sp h h' [av p 343 [l,k,v],an 4 k 1 fm kn,ck 34 v 1 bi (rJ 1 aB) vs,ck 276 t.2 2 qv jX (aV kn vs (L.take t.1))]) (λt=>i0 L-t.1) (0,⟨eH,0,0⟩) i4 ⟨jj,i4,H5.Co 276 2 qv jX⟩ ?_;rintro⟨i,o⟩ h6 ⟨hi,z,D⟩;dsimp only at*;refine ae (λe=>?_) (λe=>?_)
 ·have j:i<i0 L:=i5
  obtain⟨rs,q1,q2,q3⟩:=bD.kg J;have hx:=q3 i i5 j;refine(Seq.up q1 D.ac).dY (g:=qv) i i4 i5 (rs[i]'(by omega)) i4 ?_;generalize rs[i]'(by omega)=x at hx⊢;refine D.alloc ag i4 λa h7 H7=>?_;refine H7.storeAll ag 4 i4 i4 (qv x) i4 i4 i4 i4 λh8 B=>?_;refine⟨x,(B.box 4 i4).aE _ i4,?_⟩;have U:uh h8 p l k v L kn vs:=⟨B.box 0 i4,dN.up J B.ac,B.seq 1 i4 λ_=>rfl,B.Jv 2 i4 λ_=>rfl⟩
  obtain⟨G,-⟩:=T _ (qf j);have Y:dN jX h8 x L[i]:=dN.up hx B.ac;refine(Kp p l k v L kn vs n w x L[i] h8 U K Y G hw.2 (A _ (qf j))).mono ?_;rintro _ h9 ⟨c,d,rfl,R9⟩;refine⟨(c,d),i4,?_⟩;have H9:=B.comp R9;refine H9.alloc ag i4 λa2 ap M=>?_;refine M.storeAll ag 7 i4 i4 (qv (c,d)) i4 i4 i4 i4 λP f=>?_;refine⟨c,(f.box 7 i4).cell0 i4,?_⟩;have q:=(f.own 5 i4).len;have am:i0 (aV kn vs (L.take i))<=i0 L:=by unfold aV;refine qY (qJ _ _) ?_;simp;omega
  have u:=WC kn vs L j;have m:=Tv kn vs L j;refine ae (λe2=>?_) (λe2=>?_)
  ·have ab:(ft kn vs L[i]).1.isEmpty=eS:=by
    cases hh:(ft kn vs L[i]).1 with
    |nil=>rw[hh]at q;simp at q;omega
    |cons a l=>rfl
   rw[ab]at u m;refine⟨(c,d),(f.box 7 i4).aE _ i4,?_⟩;have V:=aa.ael f 5 6 i6 i4 i4;refine V.pQ ag 3 5 i6 i4 i4 eQ i4 i6 (λ_=>rfl) Wy i4 i6 i5 λo' ao Q=>?_;refine⟨(i+1,o'),js,⟨i7,by dsimp only;rw[m,z];rfl,?_⟩,i7⟩
   try dsimp only
   rw[u];exact Q.bX [0,1,2,3]
  ·have O:(ft kn vs L[i]).1.isEmpty=eR:=by
    cases hh:(ft kn vs L[i]).1 with
    |nil=>rfl
    |cons a l=>rw[hh]at q;simp at q;omega
   rw[O]at u m;refine⟨d,(f.box 7 i4).cell i4,?_⟩;refine(Ps d _ P (f.seq 6 i4 λ_=>rfl) (f.own 6 i4).cap (by have:=(K.Ad G).len;omega)).mono ?_;rintro _ ah ⟨rfl,rfl⟩;refine⟨_,i4,aU (λF=>?_) λF=>?_⟩
   ·refine⟨kn,vs,K,.inl ⟨Tw (i:=i+1) ?_,i4,f.bX []⟩⟩;rw[m];simp at F;simp[F]
   ·refine⟨(i+1,o),js,⟨i7,?_,?_⟩,i7⟩
    ·(try dsimp only);rw[m,z];simp at F;simp;exact F
    ·try dsimp only
     rw[u];exact f.bX [0,1,2,3]
 ·have R:i=i0 L:=i5
  subst R;rw[qU]at D z;refine⟨p,i4,k,(D.box 0 i4).cell i4,p,i4,v,(D.box 0 i4).cell i4,kn,vs,K,.inr ⟨z,k,v,o,i4,D.bX [1,2,3]⟩⟩
def lF(pool:List (Sl×Row)):HP:=⟨λh q=>∀x∈pool,Seq h q x.1 1 aB x.2,λa c x b=>(a x b).ac c,λa d x b=>(a x b).mono d⟩
theorem aa.pool{B:ak}{c h:f9}{As:List HP}(H:aa B c h As)(i j:Nat)(b:i≠j){pool:List (Sl×Row)}{r:Sl}{l:Row}(g:As[i]?=dB (lF pool))(f:As[j]?=dB (pm r 1 aB l)):aa B c h ((As.set i (lF ((r,l)::pool))).set j emp):=
 H.merge i j b g f λm k _ e d x a=>by
  rcases qX.1 a with rfl|a
  ·exact Seq.mono d λ_ h=>.inr h
  ·exact(e x a).mono λ_ h=>.inl h
theorem aa.HJ{B:ak}{a h:f9}{As:List HP}(H:aa B a h As)(i:Nat){pool:List (Sl×Row)}(b:As[i]?=dB (lF pool)){r:Sl}{l:Row}(c:(r,l)∈pool):Rd h r 1 aB l:=(H.at i b) _ c
theorem aa.Zl{B:ak}{f h:f9}{As:List HP}(H:aa B f h As)(i j:Nat)(d:i≠j){pool:List (Sl×Row)}{s:Sl}{rs:List Sl}{c:aI}(q:As[i]?=dB (an 34 s 1 bi rs))(p:As[j]?=dB (lF pool))
  (u:i0 rs=i0 c) (t:∀(k:Nat) r l,rs[k]?=dB r->c[k]?=dB l->(r,l)∈pool):aa B f h ((As.set i (gn 34 s 1 aB c)).set j emp):=
 H.merge i j d q p λw g n a m=>⟨rs,g,a.1,λb e=>⟨.inl (a.2 b e),n b (a.2 b e)⟩,λ_ h=>.inr h,u,λk r l o v=>m _ (t k r l o v)⟩
def gW(pool:List (Sl×Row))(g:Row->Row)(rs:List Sl)(m:aI):Prop:=i0 rs=i0 m/\∀(i:Nat) r l,rs[i]?=dB r->m[i]?=dB l->(r,g l)∈pool
theorem gW.get{pool:List (Sl×Row)}{g:Row->Row}{rs:List Sl}{m:aI}(h:gW pool g rs m){i:Nat}(a:i<i0 m):(rs[i]'(by rw[h.1];exact a),g m[i])∈pool:=
 h.2 i _ _ (qc _) (qc _)
theorem gW.mono{pool a:List (Sl×Row)}{g:Row->Row}{rs:List Sl}{m:aI}(h:gW pool g rs m)(b:∀x∈pool,x∈a):gW a g rs m:=⟨h.1,λi r l d c=>b _ (h.2 i r l d c)⟩
theorem gW.set{pool:List (Sl×Row)}{g:Row->Row}{rs:List Sl}{m:aI}(h:gW pool g rs m)(i:Nat){r:Sl}{l:Row}(f:(r,g l)∈pool):gW pool g (rs.set i r) (m.set i l):=by
 refine⟨by simp[h.1],λk e l' a b=>?_⟩;rw[qV]at a b;by_cases c:i=k
 ·subst c;rw[g0 rfl]at a b;split at a
  ·rename_i d;rw[g0 (by rw[<-h.1];exact d)]at b;cases a;cases b;exact f
  ·cases a
 ·rw[g9 c]at a b;exact h.2 k e l' a b
theorem aa.Bw{B:ak}{m h:f9}{As:List HP}(H:aa B m h As)(i j:Nat){pool:List (Sl×Row)}{e:Nat}{s:Sl}{rs:List Sl}{a:aI}(g:As[i]?=dB (an e s 1 bi rs))(f:As[j]?=dB (lF pool))
  (c:gW pool id rs a):ib h (λb=>b<h.size) s 1 aB a rs:=⟨H.seq i g λ_=>rfl,c.1,λk r l d n=>H.HJ j f (c.2 k r l d n)⟩
theorem DM{B:ak}{r h:f9}{As:List HP}(s f:f7)(t:UInt8)(g a:Sl)(b c:Row)(H:aa B r h (an 5 a 1 aB c::As))(F:St B r As λh=>f8 h s=dB (xB (dB f))/\fG h f/\Rd h g 1 aB b)
  (S:i0 b=i0 c) (T:i0 b<=2^30) {K:f9->Prop} (O:∀h',aa B r h' (an 5 a 1 aB (cK t b c)::As)->K h'):
  gm (σ:=Int) (λd N i=>
 Br (decide (d<((g.len:Nat):Int)))
 (∃E:f7,(g.ptr=dB E/\0<=d/\d<((g.len:Nat):Int))/\
 ∃G:Int,f8 i (E.add (d.toNat*1))=dB (xz xG G)/\
 ∃z:f7,(a.ptr=dB z/\0<=d/\d<((a.len:Nat):Int))/\
 ∃D:Int,f8 i (z.add (d.toNat*1))=dB (xz xG D)/\
 ∃p:f7,(dB s=dB p)/\
 ∃l:bK,f8 i p=dB (.pointer l)/\
 ol xJ 284 #[(.pointer l),(xz xG (t.toNat:Int)),(xz xG G)] (.one (.sc (.int .u8))) i λu A=>
 (bH.ok [(z.add (d.toNat*1),(xz xG D))] A)/\
 ∃j:f7,(a.ptr=dB j/\0<=d/\d<((a.len:Nat):Int))/\
 aj xJ (qE 5 (xB (dB (j.add (d.toNat*1)))) (xz xG (qe xG ((qN (qG xG) D^^^(qN (qG xG) u)).toNat:Nat)))) A λ_ h3=>
 (bH.ok [] h3)/\
 N (qe xF (d+(1:Int))) h3) (K i)) (0:Int) h:=by
 have R:g.len=i0 b:=(F.at [an 5 a 1 aB c] H).2.2.len;refine aq (λk:Nat=>(k:Int)) (λk h'=>k<=i0 b/\aa B r h' (an 5 a 1 aB (za (λx y=>y^^^Gf.mul t x) (b.take k) (c.take k)++c.drop k)::As)) (λk=>i0 b-k) 0 i4 ⟨i5,l4⟩ ?_;rintro k i ⟨P,q⟩;obtain⟨L,J,M⟩:=F.at [_] q;refine ae (λe=>?_) (λe=>?_)
 ·have w:k<i0 b:=i5
  have o:i0 (za (λx y=>y^^^Gf.mul t x) (b.take k) (c.take k))=k:=i9
  have Q:i0 (za (λx y=>y^^^Gf.mul t x) (b.take k) (c.take k)++c.drop k)=i0 c:=by rw[List.length_append,o,q7];omega
  refine M.bo k i4 w _ i4 ?_;have n:(za (λx y=>y^^^Gf.mul t x) (b.take k) (c.take k)++c.drop k)[k]'(by omega)=c[k]:=by rw[zX i5];simp[o]
  refine(q.seq 0 i4 λ_=>rfl).Le k i4 i5 _ i4 λax m=>?_;rw[n]at m⊢;refine⟨s,i4,dB f,L,(FR f t b[k] i J).mono ?_⟩;rintro v A ⟨rfl,rfl⟩;refine⟨_,i4,⟨m,trivial⟩,?_⟩;rw[mz];refine q.set ag 0 i4 (λ_=>rfl) i4 k i4 i5 _ i4 i4 i4 λh3 I=>⟨trivial,?_⟩
  rw[zh,tV S i5]at I;exact⟨k+1,j0,⟨i5,I⟩,i5⟩
 ·have:k=i0 b:=i5
  subst this;rw[qg (qk _),qg i5,q8 i5,qH]at q;exact O i q
def gX(f:f7)(p:Int×Int×Int)(v r b c d e a:Sl):aR:=[xB (dB f),xz xF p.1,xz xF p.2.1,xz xF p.2.2,v,r,b,c,d,e,a]
structure Ay (h:f9) (s f:f7) (wa mo:Sl) (wr mr:List Sl) (W M:aI):Prop where
 fld:f8 h s=dB (xB (dB f))
 way:f8 h (s.add 9)=dB (xA wa.ptr wa.len wa.cap)
 more:f8 h (s.add 10)=dB (xA mo.ptr mo.len mo.cap)
 field:fG h f
 rW:ib h (λb=>b<h.size) wa 1 aB W wr
 rM:ib h (λb=>b<h.size) mo 1 aB M mr
theorem Ay.of{h:f9}{s f:f7}{p:Int×Int×Int}{v r l m k d c:Sl}{g e:List Sl}{W M:aI}(a:bT h s 282 (gX f p v r l m k d c))(i:fG h f)(j:ib h (λb=>b<h.size) d 1 aB W g)(n:ib h (λb=>b<h.size) c 1 aB M e):Ay h s f d c g e W M:=
 ⟨a.cell0 i4,a.cell i4,a.cell i4,i,j,n⟩
theorem DN{B:ak}{k h:f9}{As:List HP}(s f:f7)(t:UInt8)(c:Int)(b a z w:Sl)(w0 e:Row)(y r:List Sl)(W M:aI)(H:aa B k h (an 5 b 1 aB w0::an 5 a 1 aB e::As))(g:St B k As λh=>Ay h s f z w y r W M)
  (E:0<=c) (u:c.toNat<i0 W) (o:c.toNat<i0 M) (p:i0 (aA W c.toNat)=i0 w0) (x:i0 (aA M c.toNat)=i0 e) (F:i0 w0<=2^30) (G:i0 e<=2^30):
  ai xJ 276 #[xB (dB s),xz xG t.toNat,xz xF c,b,a] h λv h'=>v=.tuple #[]/\aa B k h' (an 5 b 1 aB (cK t (aA W c.toNat) w0)::an 5 a 1 aB (cK t (aA M c.toNat) e)::As):=by
 refine ts Tryz.func276 ?_ (.two (.two .n (.inn (.loop [(22,aT)] [(10,12),(22,41)] .n))) (.two .n (.inn (.loop [(49,aT)] [(12,14),(49,68)] .n))));have S:=g.at [_,_] H;refine⟨s,i4,z,S.way,?_⟩;rw[lX u]at p⊢;rw[lX o]at x⊢;have q:=S.rW;have D:=q.len;refine q.top.lr c.toNat i5 i5 ?_;refine DM s f t (y[c.toNat]'(by omega)) b (W[c.toNat]) w0 H (St.mk' λh' j=>?_) p i5 λh3 i=>?_
 ·have d:=g.at [_] j;exact⟨d.fld,d.field,d.rW.row _ _ _ (qc _) (qc u)⟩
 have m:=g.at [_,_] i;refine⟨s,i4,w,m.more,?_⟩;have l:=m.rM;have A:=l.len;refine l.top.lr c.toNat i5 i5 ?_;refine DM s f t (r[c.toNat]'(by omega)) a (M[c.toNat]) e i.nf (St.mk' λh' j=>?_) x i5 λh3 i=>⟨i4,i.nf⟩
 ·have d:=g.at [_] j;exact⟨d.fld,d.field,d.rM.row _ _ _ (qc _) (qc o)⟩
def fJ:au->Bool
 |[]=>eR
 |[_]=>eR
 |a::b::r=>decide (a<b)&&fJ (b::r)
theorem HL:∀(l:au) (a b:Int),fJ (l++[a,b])=(fJ (l++[a])&&decide (a<b))
 |[],a,b=>by simp[fJ]
 |[c],a,b=>by simp[fJ]
 |c::d::r,a,b=>by
  have:=HL (d::r) a b;simp only[zp]at this⊢;simp only[fJ,this,Bool.and_assoc]
theorem WE{l r:au}(h:fJ l=eS):fJ (l++r)=eS:=by
 induction l with
 |nil=>simp[fJ]at h
 |cons a t ih=>
  cases t with
  |nil=>simp[fJ]at h
  |cons b t=>
   simp only[fJ,vk]at h;simp only[zp,fJ,vk];rcases h with h|h
   ·exact .inl h
   ·exact .inr (ih h)
theorem Zm(l:au)(k:Nat)(h:k+1<i0 l):l.take (k+2)=l.take k++[l[k],l[k+1]]:=by have b:l.take (k+2)=l.take (k+1)++[l[k+1]]:=aD l (k+1) h;have a:=aD l k;rw[b,a,qn];rfl
def fK(n:Int)(r:au):Bool:=r.all (λc=>decide (0<=c/\c<n))&&fJ r
theorem WF{n:Int}{l r:au}(h:fK n l=eS):fK n (l++r)=eS:=by
 simp only[fK,vk]at*;rcases h with h|h
 ·left;rw[yT,h];rfl
 ·right;exact WE h
theorem Tx{n:Int}{r:au}(h:0<i0 r):fK n (r.take 1)=decide (0<=r[0]/\r[0]<n):=by
 cases r with
 |nil=>simp at h
 |cons a t=>simp[fK,fJ]
theorem Tz{n:Int}{r:au}{k:Nat}(h:k+1<i0 r):fK n (r.take (k+2))=(fK n (r.take (k+1))&&decide (0<=r[k+1]/\r[k+1]<n)&&decide (r[k]<r[k+1])):=by
 have b:r.take (k+2)=r.take (k+1)++[r[k+1]]:=aD r (k+1) h;have a:fJ (r.take (k+2))=(fJ (r.take (k+1))&&decide (r[k]<r[k+1])):=by rw[Zm r k h,HL,aD r k]
 simp only[fK,a];rw[b,yT];simp only[List.all_cons,List.all_nil,Bool.and_true]
 cases(r.take (k+1)).all λc=>decide (0<=c/\c<n)<;>cases fJ (r.take (k+1))<;>cases decide (0<=r[k+1]/\r[k+1]<n)<;>simp
theorem ui{n:Int}{r:au}{k:Nat}(h:fK n (r.take k)=eS):fK n r=eS:=by rw[<-qB k r];exact WF h
theorem TA{n:Int}{r:au}{k:Nat}(c:k<i0 r)(h:fK n (r.take k)=eR):
  (r[k]<0->fK n r=eS)/\(n<=r[k]->fK n r=eS)/\(∀(h0:0<k),r[k]<=r[k-1]->fK n r=eS)/\
  (0<=r[k]->r[k]<n->(∀h0:0<k,r[k-1]<r[k])->fK n (r.take (k+1))=eR):=by
 cases k with
 |zero=>
  have e:=Tx (n:=n) c;refine⟨λa=>ui (k:=1) ?_,λa=>ui (k:=1) ?_,λh0=>i5,λa b _=>?_⟩
  ·rw[e,hZ i5]
  ·rw[e,hZ i5]
  ·rw[e,hU ⟨a,b⟩]
 |succ k=>
  have e:=Tz (n:=n) c;refine⟨λa=>ui (k:=k+2) ?_,λa=>ui (k:=k+2) ?_,λh0 a=>ui (k:=k+2) ?_,λa b h3=>?_⟩
  ·rw[e,hZ (p:=0<=r[k+1]/\r[k+1]<n) i5];simp
  ·rw[e,hZ (p:=0<=r[k+1]/\r[k+1]<n) i5];simp
  ·rw[e,hZ (p:=r[k]<r[k+1]) j9];simp
  ·have d:r[k]<r[k+1]:=by simpa using h3 i5
   rw[e,h,hU (p:=0<=r[k+1]/\r[k+1]<n) ⟨a,b⟩,hU d];rfl
def jE(n:Int)(a:bP):Bool:=decide (0<=n/\n<=64)&&a.all (fK n)
theorem Zn{α:Type}{f:α->Bool}{l:List α}{k:Nat}(a:k<i0 l)(h:(l.take k).all f=eR):(l.take (k+1)).all f=f l[k]:=by rw[aD _ _ a,yT,h];simp
theorem aem{α:Type}{f:α->Bool}{l:List α}{k:Nat}(a:k<i0 l)(h:f l[k]=eS):l.all f=eS:=by rw[List.all_eq_false];exact⟨l[k],qf a,sL⟩
theorem Je{p:ak}(n:Int)(a:Sl)(b:bP)(rs:List Sl)(h:f9)(A:ib h p a 1 az b rs)(J:i0 b<=2^40)(q:∀l∈b,i0 l<=2^40):
  ai xJ 325 #[xz xF n,a] h λv h'=>v=xD (jE n b)/\h'=h:=by
 refine ts Tryz.func325 ?_ (.two .n (.two (.join [] [(4,5),(9,15)] .n) (.two (.two .n (.inn (.loop [(17,aT)] [(4,5),(6,9),(17,50)] (.two .n (.two .n (.two (.inn (.two .n (.two .n (.inn (.loop [(23,aT)] [(4,5),(7,9),(23,49)] .n))))) .n)))))) .n)));have G:=A.LJ;refine bE (λ_ h'=>h'=h/\0<=n/\n<=64) ?_ ?_
 ·refine ae (λj=>⟨?_,i4⟩) (λj=>ae (λf=>⟨?_,i4⟩) λf=>⟨i4,i5,i5⟩)
  ·rw[jE,hZ i5];rfl
  ·rw[jE,hZ i5];rfl
 ·rintro _ h' ⟨rfl,o,u⟩;have z:jE n b=b.all (fK n):=by rw[jE,hU ⟨o,u⟩];rfl
  refine aq (λk:Nat=>(k:Int)) (λk h0=>h0=h'/\k<=i0 b/\(b.take k).all (fK n)=eR) (λk=>i0 b-k) 0 i4 ⟨i4,i5,jj⟩ ?_;rintro i h0 ⟨rfl,H,d⟩;refine ae (λs=>?_) (λw=>?_)
  ·have e:i<i0 b:=i5
   refine A.get i i4 e λr t _=>?_;have D:=t.len;have E:=q _ (qf e);have c:fK n b[i]=eS->jE n b=eS:=λB=>by rw[z];exact aem e B
   refine aq (λk:Nat=>(k:Int)) (λk f=>f=h0/\k<=b[i].length/\fK n (b[i].take k)=eR) (λk=>b[i].length-k) 0 i4 ⟨i4,i5,by simp[fK,fJ]⟩ ?_;rintro k f ⟨rfl,I,m⟩;refine ae (λs=>?_) (λw=>?_)
   ·have g:k<b[i].length:=i5
    obtain⟨n1,n2,F,x⟩:=TA g m;refine t.bo k i4 g _ i4 ?_;refine ae (λj=>⟨by rw[c (n1 j)],i4⟩) λj=>?_;refine ae (λf=>⟨by rw[c (n2 f)],i4⟩) λf=>?_;rw[af (k+1),af (k-1)];refine ae (λh3=>?_) (λh3=>?_)
    ·refine t.bo (k-1) i5 i5 _ i4 ?_;refine ae (λy=>⟨by rw[c (F i5 y)],i4⟩) λy=>?_;exact⟨k+1,jj,⟨i4,i5,x i5 i5 λ_=>i5⟩,i5⟩
    ·exact⟨k+1,jj,⟨i4,i5,x i5 i5 λ_=>i5⟩,i5⟩
   ·rw[qg i5]at m;rw[af (i+1)];exact⟨i+1,jj,⟨i4,i5,by rw[Zn e d,m]⟩,i5⟩
  ·rw[qg i5]at d;exact⟨by rw[z,d],i4⟩
theorem HM{p:ak}(a:Sl)(c:List Bool)(x:Bool)(h:f9)(i:Seq h p a 1 fm c)(q:i0 c<=2^40):
  ai xJ 351 #[a,xD x] h λv h'=>∃r:Int,v=xz xF r/\(0<=r↔x∈c)/\h'=h:=by
 refine ts Tryz.func351 ?_ (.two .n (.two (.two .n (.inn (.loop [(8,aT)] [(4,6),(8,19)] .n))) .n));have m:=i.len;refine aq (λk:Nat=>(k:Int)) (λk h'=>h'=h/\k<=i0 c/\x∉c.take k) (λk=>i0 c-k) 0 i4 ⟨i4,i5,jj⟩ ?_;rintro k h' ⟨rfl,o,f⟩;refine ae (λj=>?_) (λl=>?_)
 ·have b:k<i0 c:=i5
  refine i.bo k i4 b _ i4 ?_;refine bc (λg=>⟨_,i4,⟨λ_=>?_,λ_=>i5⟩,i4⟩) (λd=>?_)
  ·rw[eq_of_beq g];exact qf b
  ·rw[af _];refine⟨k+1,jj,⟨i4,i5,?_⟩,i5⟩;rw[aD _ _ b];simp only[qw,qx,not_or];exact⟨f,λe=>by rw[e]at d;simp at d⟩
 ·rw[qg i5]at f;exact⟨_,i4,⟨λh=>i5,λh=>absurd h f⟩,i4⟩
theorem DO{p:ak}(a:Sl)(b:List Bool)(x:Bool)(h:f9)(e:Seq h p a 1 fm b)(c:i0 b<=2^40):
  ai xJ 326 #[a,xD x] h λv h'=>v=xD (decide (x∈b))/\h'=h:=by
 refine ts Tryz.func326 ?_;refine(HM a b x h e c).mono ?_;rintro v h' ⟨r,rfl,d,rfl⟩;refine⟨r,i4,?_,i4⟩;exact congrArg Value.bool (decide_eq_decide.2 d)
theorem Pt{α:Type}{f:α->Bool}{l:List α}{k:Nat}(a:k<i0 l):(l.take (k+1)).filter f=if f l[k]then(l.take k).filter f++[l[k]]else(l.take k).filter f:=by rw[aD _ _ a,zg];by_cases h:f l[k]=eR<;>simp[h]
theorem HN{p q:ak}(i:f7)(o r:Sl)(op:List Bool)(row:au)(h:f9)(u:f8 h (i.add 1)=dB (xA o.ptr o.len o.cap))(s:Seq h p o 1 fm op)(m:Seq h q r 1 az row)
  (l:∀c∈row,0<=c/\c<i0 op) (B:i0 row<=2^40):
  ai xJ 352 #[xB (dB i),r] h λv h'=>
   v=.tuple #[xz xF ((cO op row).getLast?.getD 0),xD (i0 (cO op row)==1)]/\h'=h:=by
 refine ts Tryz.func352 ?_ (.two .n (.two .n (.two (.two .n (.inn (.loop [(6,aT),(7,aT),(12,aT)] [(6,8),(9,10),(12,27)] .n))) .n)));have w:=m.len;refine aq (λk:Nat=>((cO op (row.take k)).getLast?.getD 0,(i0 (cO op (row.take k)):Int),(k:Int))) (λk h'=>h'=h/\k<=i0 row) (λk=>i0 row-k) 0 i4 ⟨i4,i5⟩ ?_;rintro k h' ⟨rfl,A⟩
 try dsimp only
 refine ae (λx=>?_) (λy=>?_)
 ·have d:k<i0 row:=i5
  have z:=l _ (qf d);refine m.bo k i4 d _ i4 ?_;refine⟨i,i4,o,u,?_⟩;have b:row[k].toNat<i0 op:=i5
  refine s.bo row[k].toNat i5 b _ i4 ?_;have a:jU op row[k]=op[row[k].toNat]:=by simp[jU,qd,qc b]
  have g:=Pt (f:=jU op) d;have t:i0 (cO op (row.take k))<=i0 row:=qY (qJ _ _) m7;rw[af (k+1),af _];refine bc (λj=>?_) (λj=>?_)
  ·refine⟨k+1,?_,⟨i4,i5⟩,i5⟩;have e:cO op (row.take (k+1))=cO op (row.take k)++[row[k]]:=by rw[cO,g,a,j];rfl
   simp[e]
  ·refine⟨k+1,?_,⟨i4,i5⟩,i5⟩;have e:cO op (row.take (k+1))=cO op (row.take k):=by rw[cO,g,a,j];rfl
   simp[e]
 ·have e:row.take k=row:=qg i5;refine⟨?_,i4⟩;simp only[e];congr 4;congr 1;rw[yS];simp;omega
structure uV (h:f9) (p:ak) (a:f7) (l o u:Sl) (rows:bP) (rs:List Sl) (op us:List Bool):Prop where
 c0:f8 h a=dB (xA l.ptr l.len l.cap)
 c1:f8 h (a.add 1)=dB (xA o.ptr o.len o.cap)
 c2:f8 h (a.add 2)=dB (xA u.ptr u.len u.cap)
 eV:p a.block
 sRows:ib h p l 1 az rows rs
 sOp:Seq h p o 1 fm op
 sUs:Seq h p u 1 fm us
 ulen:i0 us=i0 rows
 cM:∀r∈rows,∀c∈r,0<=c/\c<i0 op
 short:∀r∈rows,i0 r<=64
theorem uV.ac{h h':f9}{p:ak}{a:f7}{l o u:Sl}{rows:bP}{rs:List Sl}{op us:List Bool}(c:uV h p a l o u rows rs op us)(k:aP p h h'):uV h' p a l o u rows rs op us:=by
 have b:∀n,(a.add n).block=a.block:=λn=>by unfold Addr.add;split<;>rfl
 exact⟨k.cell c.eV c.c0,k.cell (by rw[b];exact c.eV) c.c1,k.cell (by rw[b];exact c.eV) c.c2,c.eV,c.sRows.ac k,c.sOp.ac k,c.sUs.ac k,c.ulen,c.cM,c.short⟩
theorem KW{p:ak}(a:f7)(l o u:Sl)(rows:bP)(rs:List Sl)(op us:List Bool)(h:f9)(z:uV h p a l o u rows rs op us)(P:i0 rows<=2^40):
  ai xJ 327 #[xB (dB a)] h λv h'=>aP (λ_=>True) h h'/\
   v=match me rows op us with
    |some i=>.tuple #[xE #[xz xF i,xz xF (fc rows op i)],xD eR]
    |none=>.tuple #[xE #[xz xF 0,xz xF 0],xD eS]:=by
 refine ts Tryz.func327 ?_ (.two .n (.two (.two .n (.inn (.loop [(13,aT)] [(3,8),(13,36)] .n))) .n));refine ur ag i4 λb K N s c H=>?_;have f:=z.ac (c.mono λ_ _ _=>trivial);refine⟨a,i4,l,f.c0,?_⟩;have L:=z.sRows.LJ;refine aq (λk:Nat=>(k:Int)) (λk h'=>h'=K/\k<=i0 rows/\∀j,j<k->md rows op us j=eS) (λk=>i0 rows-k) 0 i4 ⟨i4,i5,λj q=>i5⟩ ?_;rintro k h' ⟨rfl,O,D⟩;refine ae (λI=>?_) (λM=>?_)
 ·have e:k<i0 rows:=i5
  refine f.sRows.get k i4 e λr J _=>?_;refine⟨a,i4,u,f.c2,?_⟩;refine f.sUs.bo k i4 (by rw[z.ulen];exact e) _ i4 ?_;have F:us.getD k eS=us[k]'(by rw[z.ulen];exact e):=by rw[qd,qc];rfl
  have t:rows.getD k []=rows[k]:=by rw[qd,qc e];rfl
  rw[af _];refine bc (λy=>?_) (λy=>?_)
  ·refine⟨k+1,jj,⟨i4,i5,λj q=>?_⟩,i5⟩;rcases zi.1 q with q|rfl
   ·exact D j q
   ·simp only[md,F,y];rfl
  ·refine(HN a o r op rows[k] h' f.c1 f.sOp J (z.cM _ (qf e)) (qY (z.short _ (qf e)) i5)).mono ?_;rintro v Q ⟨rfl,rfl⟩;refine⟨(_,_),i4,?_⟩;have g:md rows op us k=(i0 (cO op rows[k])==1):=by simp only[md,F,y,t];rfl
   refine bc (λw=>?_) (λw=>?_)
   ·have m:md rows op us k=eR:=g.trans w;refine AG ag s i4 _ i4 i4 i4 (qk _) λh3 d x A=>?_;refine⟨(_,_),d.aE _ i4,c.then x (λG E _=>i5),?_⟩;have B:fc rows op k=(cO op rows[k]).getLast?.getD 0:=by unfold fc;rw[t]
    rw[me,Vd e D m];show _=Value.tuple #[xE #[xz xF k,xz xF (fc rows op k)],xD eR];rw[B];rfl
   ·have m:md rows op us k=eS:=g.trans w;refine⟨k+1,jj,⟨i4,i5,λj q=>?_⟩,i5⟩;rcases zi.1 q with q|rfl
    ·exact D j q
    ·exact m
 ·refine AG ag s i4 _ i4 i4 i4 (qk _) λh3 d x A=>?_;refine⟨(_,_),d.aE _ i4,c.then x (λG E _=>i5),?_⟩;rw[me,JJ λj q=>D j i5]
theorem FW{l:List Bool}{i:Nat}(h:i<i0 l):l.getD i eS=l[i]:=by rw[qd,qc h];rfl
theorem QS(op:List Bool)(a:au):∀k,-1<=iC op a k/\iC op a k<k
 |0=>by simp[iC]
 |k+1=>by
  have:=QS op a k;unfold iC;split<;>omega
theorem KX{p:ak}(a:f7)(l o u:Sl)(rows:bP)(rs:List Sl)(op us:List Bool)(h:f9)(q:uV h p a l o u rows rs op us)(hs:i0 rows<=2^30)(a2:i0 op<=2^30):
  ai xJ 328 #[xB (dB a)] h λv h'=>aP (λ_=>True) h h'/\v=xz xF (gP rows op us):=by
 refine ts Tryz.func328 ?_ (.two .n (.two .n (.two (.two .n (.inn (.loop [(22,aT)] [(4,6),(7,8),(22,49)] (.two .n (.two .n (.two (.inn (.two .n (.two .n (.inn (.loop [(29,aT)] [(7,8),(29,48)] .n))))) .n)))))) (.two .n (.two (.two .n (.inn (.loop [(8,aT),(54,aT)] [(8,11),(54,77)] .n))) .n)))));refine⟨a,i4,o,q.c1,?_⟩;have a5:=q.sOp.len;refine Qw.run_make (f:=az) ag ⟨_,_,i4,i4,i4,i4,i4,i4⟩ i6 0 i4 i4 op.length op.length i5 i5 (qk _) i5 λs h1 M U a3 y a0=>?_;have ar:=q.ac (y.mono λ_ _ _=>trivial);refine⟨a,i4,l,ar.c0,?_⟩;have a6:=q.sRows.LJ;have D:∀b,s.on b->b=h.size:=by rintro b ⟨o',N⟩;rw[U]at N;cases N;rfl
 have ao:∀k,i0 ((λ_ r=>r:Nat->au->au) k (rows.getD k []))<=64:=λk=>by
  show(rows.getD k []).length<=64;by_cases Y:k<i0 rows
  ·rw[qd,qc Y];exact q.short _ (qf Y)
  ·rw[qd,qM i5];simp
 let d:=kS (λ_ r=>r) rows us (qh op.length 0);have I:∀k,i0 (d k)=i0 op:=λk=>by rw[AV];simp
 have V:∀k,∀x∈d k,0<=x/\x<=64*k:=λk x hx=>Mw (λ_ r=>r) ao k x hx;refine aq (λk:Nat=>(k:Int)) (λk h'=>aP (λb=>b<h.size) h h'/\k<=i0 rows/\Own h' 3 s 1 az (d k)) (λk=>i0 rows-k) 0 i4 ⟨y.mono λ_ _ _=>trivial,i5,M⟩ ?_;rintro i h2 ⟨E,hi,z⟩;have t:uV h2 p a l o u rows rs op us:=q.ac (E.mono λb e _=>e);refine ae (λK=>?_) (λP=>?_)
 ·have g:i<i0 rows:=i5
  have O:rows.getD i []=rows[i]:=by rw[qd,qc g];rfl
  have T:us.getD i eS=us[i]'(by rw[q.ulen];exact g):=FW _;refine t.sRows.get i i4 g λr hr ab=>?_;have a7:=hr.len;have R:=q.short _ (qf g);refine aq (λk:Nat=>(k:Int)) (λk h'=>aP (λb=>b<h.size) h h'/\k<=rows[i].length/\Own h' 3 s 1 az (if us.getD i eS then d i else ko (d i) (rows[i].take k))) (λk=>rows[i].length-k) 0 i4
   ⟨E,i5,by simpa[ko]using z⟩ ?_
  rintro j h3 ⟨B,hj,c⟩;have w:uV h3 p a l o u rows rs op us:=q.ac (B.mono λb e _=>e);refine ae (λK=>?_) (λP=>?_)
  ·have G:j<rows[i].length:=i5
   have am:=w.sRows.row i r _ ab (qc g);have hc:=q.cM _ (qf g) _ (qf G);refine am.bo j i4 G _ i4 ?_;refine⟨a,i4,u,w.c2,?_⟩;refine w.sUs.bo i i4 (by rw[q.ulen];exact g) _ i4 ?_;rw[af (j+1)];refine aU (λe=>?_) (λe=>?_)
   ·rw[T,e]at c;simp only[zb,if_false]at c;have H:i0 (ko (d i) (rows[i].take j))=i0 op:=by rw[BO,I]
    have m:rows[i][j].toNat<i0 (ko (d i) (rows[i].take j)):=by rw[H];omega
    have a4:=CQ (r:=rows[i].take j) (V i) _ (qf m);have a8:i0 (rows[i].take j)<=64:=m7
    have ah:Seq h3 (λ_=>True) s 1 az (ko (d i) (rows[i].take j)):=c.seq (λ_=>rfl) λ_ _=>trivial;refine ah.bo rows[i][j].toNat i5 m _ i4 ?_;rw[af _];refine c.set ag (λ_=>rfl) i4 rows[i][j].toNat i5 m _ i4 i4 i4 λh4 F X ax=>?_;refine⟨j+1,jj,⟨B.then X (λb e _=>λap=>by have:=D b ap;omega),i5,?_⟩,i5⟩;rw[T,e];simp only[zb,if_false];rw[aD _ _ G,OC,getD_lt m];exact F
   ·refine⟨j+1,jj,⟨B,i5,?_⟩,i5⟩;rw[T,e]at c⊢;exact c
  ·rw[af (i+1)];rw[qg i5]at c;refine⟨i+1,jj,⟨B,i5,?_⟩,i5⟩;have:d (i+1)=if us.getD i eS then d i else ko (d i) rows[i]:=by show kS _ _ _ _ (i+1)=_;rw[kS];simp only[O];rfl
   rw[this];exact c
 ·have Z:i=i0 rows:=i5
  subst Z;refine⟨a,i4,o,t.c1,?_⟩;have J:Seq h2 (λ_=>True) s 1 az (d rows.length):=z.seq (λ_=>rfl) λ_ _=>trivial;have ay:=I rows.length;refine aq (λk:Nat=>(iC op (d rows.length) k,(k:Int))) (λk h'=>h'=h2/\k<=i0 op) (λk=>i0 op-k) 0 i4 ⟨i4,i5⟩ ?_;rintro k h3 ⟨rfl,Y⟩
  try dsimp only
  have a1:=QS op (d rows.length) k;refine ae (λK=>?_) (λP=>?_)
  ·have Q:k<i0 op:=i5
   refine t.sOp.bo k i4 Q _ i4 ?_;rw[af (k+1)];have A:op.getD k eS=op[k]:=FW Q;refine bc (λe=>?_) (λe=>?_)
   ·refine ae (λL=>?_) (λW=>?_)
    ·refine⟨k+1,?_,⟨i4,i5⟩,i5⟩;rw[iC,g0 (by rw[A,e,hU L];rfl)];rfl
    ·refine J.bo k i4 i5 _ i4 ?_;refine J.bo (iC op (d rows.length) k).toNat i5 i5 _ i4 ?_;have e1:(d rows.length).getD k 0=(d rows.length)[k]:=getD_lt;have e2:(d rows.length).getD (iC op (d rows.length) k).toNat 0=(d rows.length)[(iC op (d rows.length) k).toNat]:=getD_lt;refine ae (λad=>?_) (λS=>?_)
     ·refine⟨k+1,?_,⟨i4,i5⟩,i5⟩;rw[iC,g0 (by rw[A,e,e1,e2,hU ad];simp)];rfl
     ·refine⟨k+1,?_,⟨i4,i5⟩,i5⟩;rw[iC,g9 (by rw[A,e,e1,e2,hZ S,hZ W];simp)];rfl
   ·refine⟨k+1,?_,⟨i4,i5⟩,i5⟩;rw[iC,g9 (by rw[A,e];simp)];rfl
  ·have al:k=i0 op:=i5
   subst al;exact⟨E.mono λb e _=>e,i4⟩
def gc(p:Int×Int):aR:=[xz xF p.1,xz xF p.2]
theorem Zo:∀x,∀c∈gc x,c.oneCell'=eR:=by intro x c a;simp only[gc,qX,List.not_mem_nil,or_false]at a;rcases a with rfl|rfl<;>rfl
def Bx(n:Int)(rows:bP):List (Int×Int)×au×au:=
 if jE n rows then((dW n.toNat rows).steps,(dW n.toNat rows).dead,fO (dW n.toNat rows).used rows.length)else([],[],[])
def aen(a h:f9)(v:Value)(ok:Bool)(b:List (Int×Int))(c e:au):Prop:=
 ∃s d f:Sl,v=.tuple #[xE #[s,d,f],xD ok]/\
  Sp a h [an 349 s 2 gc b,an 3 d 1 az c,an 3 f 1 az e]
theorem acd{α β γ:Type}{v h:f9}{c:Nat->Nat}{q l s t n j:Nat}{g:α->aR}{u:β->aR}{r:γ->aR}{k w o:Sl}{l1:List α}{l2:List β}{p:List γ}(m:mh v h c)(f:dI h c 6 q k t g l1)(e:dI h c 7 l w n u l2)(a3:dI h c 8 s o j r p):
  Sp v h [an q k t g l1,an l w n u l2,an s o j r p]:=by
 refine⟨λ_ h=>h,m.ac,λb=>c b-5,λb a=>?_,λi A d=>?_⟩
 ·have:=m.bj b a;(try dsimp only);omega
 ·match i,d with
  |0,d=>simp at d;subst d;exact⟨f.own,λb a=>⟨f.own.lt a,by have:=f.bj b a;(try dsimp only);omega⟩⟩
  |1,d=>simp at d;subst d;exact⟨e.own,λb a=>⟨e.own.lt a,by have:=e.bj b a;(try dsimp only);omega⟩⟩
  |2,d=>simp at d;subst d;exact⟨a3.own,λb a=>⟨a3.own.lt a,by have:=a3.bj b a;(try dsimp only);omega⟩⟩
  |i+3,d=>simp at d
theorem ace{n:Int}{rows:bP}(h:jE n rows=eR):0<=n/\n<=64/\∀r∈rows,fK n r=eR:=by simp only[jE,qu,decide_eq_true_eq,qK]at h;exact⟨h.1.1,h.1.2,h.2⟩
theorem FX{n:Int}{r:au}(h:fK n r=eR):∀c∈r,0<=c/\c<n:=by simp only[fK,qu,qK,decide_eq_true_eq]at h;exact h.1
theorem Kq:∀{r:au} {a n:Int},fJ r=eR->(∀c∈r,a<=c/\c<n)->(i0 r:Int)<=max 0 (n-a)
 |[],a,n,_,_=>i9
 |[x],a,n,_,h=>by have:=h x jj;simp;omega
 |x::y::t,a,n,hr,h=>by
  simp only[fJ,qu,decide_eq_true_eq]at hr;have g:=h x jj;have f:=h y jj;have d:∀(l:au) (z:Int),fJ (z::l)=eR->∀c∈l,z<c:=by
   intro l
   induction l with
   |nil=>intro z _ c b;simp at b
   |cons w t ih=>
    intro z e c b;simp only[fJ,qu,decide_eq_true_eq]at e;rcases qX.1 b with rfl|b
    ·exact e.1
    ·have:=ih w e.2 c b;omega
  have:=Kq (r:=y::t) (a:=x+1) (n:=n) hr.2 λc b=>⟨by
   rcases qX.1 b with rfl|b
   ·omega
   ·have:=d t y hr.2 c b;omega,(h c (by simp only[qX]at b⊢;exact .inr b)).2⟩
  simp only[List.length_cons]at this⊢;omega
theorem WG{n:Int}{r:au}(h:fK n r=eR)(c:n<=64):i0 r<=64:=by have b:=FX h;simp only[fK,qu]at h;have:=Kq (a:=0) h.2 b;omega
theorem Zp(n k:Nat)(h:k<n):(qh k eR++qh (n-k) eS).set k eR=qh (k+1) eR++qh (n-(k+1)) eS:=by
 have e:n-k=(n-(k+1))+1:=i5
 rw[qQ _ _ jj,e,yh];simp only[List.length_replicate,qZ,zh];rw[List.replicate_succ' (n:=k)];simp
theorem NP{h i:f9}{c:Nat->Nat}{a:f7}{l o u:Sl}{rows:bP}{rs:List Sl}{op us:List Bool}(q:ib i (λb=>b<i.size) l 1 az rows rs)(j:mh i h c)(e:ky h c 2 a 403 [l,o,u])
  (m:dI h c 3 4 o 1 fm op) (n:dI h c 4 4 u 1 fm us) (f:i0 us=i0 rows) (p:i0 op<=64) (k:∀r∈rows,fK op.length r=eR):uV h (λb=>b<h.size) a l o u rows rs op us:=
 ⟨e.box.cell0 i4,e.box.cell i4,e.box.cell i4,e.box.lt,(q.ac j.ac).mono λb g=>qR g j.ac.1,m.RN λ_=>rfl,n.RN λ_=>rfl,f,λr d=>FX (k r d),λr d=>WG (k r d) i5⟩
theorem WH(n:Int)(l:Sl)(rows:bP)(rs:List Sl)(h:f9)(hl:ib h (λb=>b<h.size) l 1 az rows rs)(hs:i0 rows<=2^30)(dr:∀r∈rows,i0 r<=2^40):
  ai xJ 272 #[xz xF n,l] h λv h'=>aen h h' v (jE n rows) (Bx n rows).1 (Bx n rows).2.1 (Bx n rows).2.2:=by
 refine ts Tryz.func272 ?_ (.two .n (.scope 1 [] [(5,6),(9,14),(42,108)] [.n,(.join [(6,MJ)] [(6,7),(19,27)] .n),(.two .n (.inn (.loop [(32,aT)] [(7,8),(32,42)] .n))),.n] [(.two .n (.two (.join [] [(9,12),(48,88)] .n) .n))] [(0,[(.two (.two .n (.inn (.loop [(93,aT)] [(12,14),(93,107)] .n))) .n)])])) [(3,(.y [0,1,3,4] (.l [2,5,6,7,8]) (.l [5,2,6,7,8])))];have eq:=hl.LJ;refine sg ag (mh.refl h) 1 i4 λa1 h1 cc ed=>?_;have F:=(mh.refl h).keep (m:=1) ed i6;refine(Je n l rows rs h1 (hl.ac F.ac) i5 dr).mono ?_;rintro v h2 ⟨rfl,rfl⟩;refine⟨_,i4,?_⟩;refine aU (λhr=>?_) (λhr=>?_)
 ·refine cc.gA ag i4 _ i4 i4 i4 (qk _) λh3 a3 E=>?_;refine⟨(⟨eH,0,0⟩,⟨eH,0,0⟩,⟨eH,0,0⟩),a3.box.aE _ i4,?_⟩;refine⟨⟨eH,0,0⟩,⟨eH,0,0⟩,⟨eH,0,0⟩,by rw[hr],?_⟩;simp only[Bx,hr,zb,if_false];exact(((Sp.zip (F.keep (m:=1) E i6).ac).nil 349 2 gc).nil 3 1 az).nil 3 1 az
 ·obtain⟨es,eo,bs⟩:=ace hr;obtain⟨N,rfl⟩:∃N:Nat,n=N:=⟨n.toNat,i5⟩
  have hN:N<=64:=i5
  refine bE (λs h'=>∃c a o u,s=dB a/\mh h h' c/\ky h' c 1 a1 280 [xA eH 0 0,xA eH 0 0,xA eH 0 0]/\ky h' c 2 a 403 [l,xA o.ptr o.len o.cap,xA u.ptr u.len u.cap]/\
   dI h' c 3 4 o 1 fm (qh N eS)/\dI h' c 4 4 u 1 fm (qh rows.length eS)) ⟨?_,?_⟩ ?_
  ·refine ut ag F 3 fm ⟨_,_,i4,i4,i4,i4,i4,i4⟩ i6 eS i4 i4 N i4 i4 i5 λo h3 ho E=>?_;refine⟨trivial,?_⟩;refine ut ag (F.keep (m:=3) E i6) 4 fm ⟨_,_,i4,i4,i4,i4,i4,i4⟩ i6 eS i4 i4 rows.length i5 i5 i5 λu h4 hu H=>?_;refine⟨trivial,?_⟩;refine LM _ ((F.keep (m:=3) E i6).keep (m:=4) H i6) 2 λa h5 ha B=>?_;exact⟨trivial,_,a,o,u,i4,((F.keep E i6).keep H i6).keep B i6,((cc.keep E i6).keep H i6).keep B i6,ha,(ho.keep H i6).keep B i6,hu.keep B i6⟩
  ·refine ut ag F 4 fm ⟨_,_,i4,i4,i4,i4,i4,i4⟩ i6 eS i4 i4 rows.length i5 i5 i5 λu h3 hu E=>?_;refine⟨trivial,?_⟩;refine ut ag (F.keep (m:=4) E i6) 3 fm ⟨_,_,i4,i4,i4,i4,i4,i4⟩ i6 eS i4 i4 N i4 i4 i5 λo h4 ho H=>?_;refine⟨trivial,?_⟩;refine LM _ ((F.keep (m:=4) E i6).keep (m:=3) H i6) 2 λa h5 ha B=>?_;exact⟨trivial,_,a,o,u,i4,((F.keep E i6).keep H i6).keep B i6,((cc.keep E i6).keep H i6).keep B i6,ha,ho.keep B i6,(hu.keep H i6).keep B i6⟩
  ·rintro s h3 ⟨c,a,o,u,rfl,cd,bb,a3,ah,cl⟩;refine⟨a,i4,o,a3.box.cell i4,?_⟩;have ep:o.len=N:=by rw[ah.own.len];simp
   refine aq (λt:Nat×(Nat->Nat)=>(t.1:Int)) (λt h'=>t.1<=N/\mh h h' t.2/\ky h' t.2 1 a1 280 [xA eH 0 0,xA eH 0 0,xA eH 0 0]/\ky h' t.2 2 a 403 [l,o,u]/\
    dI h' t.2 3 4 o 1 fm (qh t.1 eR++qh (N-t.1) eS)/\dI h' t.2 4 4 u 1 fm (qh rows.length eS)) (λt=>N-t.1) (0,c) i4 ⟨jj,cd,bb,a3,by simpa using ah,cl⟩ ?_
   rintro⟨k,c⟩ h4 ⟨hk,a8,b6,bd,bq,b0⟩;dsimp only at*;refine ae (λd0=>?_) (λd5=>?_)
   ·have ea:k<N:=i5
    refine⟨a,i4,o,bd.box.cell i4,?_⟩;refine bq.set ag (λ_=>rfl) i4 k i4 i9 eR i4 i4 i4 λh5 bl B=>?_;rw[af _];rw[Zp _ _ ea]at bl;exact⟨(k+1,_),jj,⟨i9,a8.keep B i6,b6.keep B i6,bd.keep B i6,bl,b0.keep B i6⟩,i9⟩
   ·have d9:k=N:=i5
    subst d9;simp only[qZ,y7,qH]at bq;refine sg ag a8 5 i4 λap h5 c7 B=>?_;have dp:=a8.keep (m:=5) B i6;have c9:=b6.keep (m:=5) B i6;have dk:=bd.keep (m:=5) B i6;have bl:=bq.keep (m:=5) B i6;have d1:=b0.keep (m:=5) B i6;clear a8 b6 bd bq b0 cd bb a3 ah cl;generalize grow c h4.size 5=c5 at*;refine aq (τ:=Nat×List Bool×List Bool×(List (Int×Int))×au×(Nat->Nat)×Sl×Sl) (λ_=>())
     (λ⟨f,op,us,st,dd,c,ss,ds⟩ h'=>i0 op=k/\us.length=i0 rows/\op.count eR<=f/\f<=k/\st.length<=k-f/\dd.length<=k-f/\
      (∃r,cu rows f op us=r/\dW k rows=⟨st++r.steps,dd++r.dead,r.used⟩)/\mh h h' c/\
      ky h' c 1 a1 280 [xA eH 0 0,xA eH 0 0,xA eH 0 0]/\ky h' c 2 a 403 [l,o,u]/\
      dI h' c 3 4 o 1 fm op/\dI h' c 4 4 u 1 fm us/\
      ky h' c 5 ap 280 [ss,ds,xA eH 0 0]/\dI h' c 6 349 ss 2 gc st/\dI h' c 7 3 ds 1 az dd)
     (λt=>t.1) (k,qh k eR,qh rows.length eS,[],[],c5,⟨eH,0,0⟩,⟨eH,0,0⟩) i4
     ⟨jj,jj,jj,jj,jj,jj,⟨_,i4,by simp[dW]⟩,dp,c9,dk,bl,d1,c7,dI.nil _ _ _ _ _ _,dI.nil _ _ _ _ _ _⟩ ?_
    rintro⟨f,op,us,st,dd,c,ss,ds⟩ h6 ⟨a0,J,eg,er,ei,ej,⟨r,am,a9⟩,L,a2,P,ad,S,K,O,M⟩;dsimp only at*;have I:∀r∈rows,fK op.length r=eR:=by rw[a0];exact bs
    have ar:=NP hl L P ad S J i5 I;refine⟨a,i4,o,P.box.cell i4,?_⟩;refine(DO o op eR h6 (ad.RN λ_=>rfl) i5).mono ?_;rintro v h7 ⟨rfl,rfl⟩;refine⟨_,i4,?_⟩;refine aU (λhc=>?_) (λhc=>?_)
    ·have ab:op.contains eR=eS:=by simpa using hc
     have bb:r=⟨[],[],us⟩:=by rw[<-am];exact uE ab f
     subst bb;simp only[qH]at a9;refine⟨a,i4,u,P.box.cell i4,?_⟩;have en:u.len=i0 rows:=by rw[S.own.len,J]
     refine aq (λt:Nat×(Nat->Nat)×Sl=>(t.1:Int)) (λ⟨j,c,fs⟩ h'=>j<=i0 rows/\mh h h' c/\
      ky h' c 1 a1 280 [xA eH 0 0,xA eH 0 0,xA eH 0 0]/\dI h' c 4 4 u 1 fm us/\
      ky h' c 5 ap 280 [ss,ds,fs]/\dI h' c 6 349 ss 2 gc st/\dI h' c 7 3 ds 1 az dd/\dI h' c 8 3 fs 1 az (fO us j)) (λt=>i0 rows-t.1) (0,c,⟨eH,0,0⟩) i4
      ⟨jj,L,a2,S,K,O,M,dI.nil _ _ _ _ _ _⟩ ?_
     rintro⟨j,c,fs⟩ h8 ⟨hj,bk,b9,br,Y,ao,al,a4⟩;dsimp only at*;refine ae (λd0=>?_) (λd5=>?_)
     ·have ek:j<i0 rows:=i5
      have et:i0 (fO us j)<=j:=Eu us j;refine(br.RN λ_=>rfl).bo j i4 i5 _ i4 ?_;have c4:us.getD j eS=us[j]:=FW i5;rw[af _];refine aU (λhb=>?_) (λhb=>?_)
      ·refine⟨fs,Y.box.cell i4,?_⟩;refine Fo ag bk 9 az ⟨_,_,i4,i4,i4,i4,i4,i4⟩ i4 [(j:Int)] i4 (zC i4) i4 λv h9 dx p=>?_;refine(a4.keep (m:=9) p i6).append ag ⟨_,_,i4,i4,i4,i4,i4,i4⟩ ⟨_,_,i4,i4⟩ i4 i6 (λ_=>rfl) (dx.seq λ_=>rfl) fx i9 λc8 ca b7 g=>?_;refine((Y.keep (m:=9) p i6).keep (m:=8) g i6).store ag i4 2 _ i4 i4 i4 (zC i4) λcf b3 d=>?_;refine⟨(j+1,_,c8),jj,⟨i9,((bk.keep p i6).keep g i6).keep d i6,((b9.keep p i6).keep g i6).keep d i6,((br.keep p i6).keep g i6).keep d i6,b3,
        ((ao.keep p i6).keep g i6).keep d i6,((al.keep p i6).keep g i6).keep d i6,?_⟩,i9⟩
       have e:fO us (j+1)=fO us j++[(j:Int)]:=by rw[fO,c4,hb];rfl
       rw[e];exact b7.keep d i6
      ·have e:fO us (j+1)=fO us j:=by rw[fO,c4,hb];rfl
       exact⟨(j+1,c,fs),jj,⟨i9,bk,b9,br,Y,ao,al,by rw[e];exact a4⟩,i9⟩
     ·have dy:j=i0 rows:=i5
      subst dy;refine⟨(ss,ds,fs),Y.box.aE _ i4,?_⟩;refine b9.gA ag i4 _ i4 i4 i4 (qk _) λh9 du p=>?_;refine⟨(ss,ds,fs),du.box.aE _ i4,?_⟩;refine⟨ss,ds,fs,by rw[hr],?_⟩;simp only[Bx,hr,if_true,qj,a9];exact acd (bk.keep (m:=1) p i6) (ao.keep (m:=1) p i6) (al.keep (m:=1) p i6) (a4.keep (m:=1) p i6)
    ·have ab:op.contains eR=eR:=by simpa using hc
     obtain⟨f',rfl⟩:∃f',f=f'+1:=by obtain⟨j,hj,e⟩:=CR ab;have:=kC e;exact⟨f-1,i5⟩
     refine aO ?_;refine(KW a l o u rows rs op us h7 ar i5).mono ?_;rintro v h8 ⟨A,rfl⟩;have A:=A.bj c 9;cases hst:me rows op us with
     |some i=>
      obtain⟨hi,d6⟩:=sq hst;obtain⟨el,d3,ah⟩:=AW d6;have c0:rows.getD i []=rows[i]:=by rw[qd,qc hi];rfl
      have eh:=FX (I _ (qf hi)) _ (c0▸d3);refine⟨((i,fc rows op i),eR),i4,?_⟩
      try dsimp only
      refine sg ag (L.keep (m:=9) A i6) 9 i4 λax h9 has p=>?_;refine has.gA ag i4 _ i4 i4 i4 (qk _) λca T g=>?_;refine Cj i4 ?_;have G:=((L.keep (m:=9) A i6).keep (m:=9) p i6).keep (m:=9) g i6;have ay:=((a2.keep (m:=9) A i6).keep (m:=9) p i6).keep (m:=9) g i6;have X:=((P.keep (m:=9) A i6).keep (m:=9) p i6).keep (m:=9) g i6;have W:=((ad.keep (m:=9) A i6).keep (m:=9) p i6).keep (m:=9) g i6;have Z:=((S.keep (m:=9) A i6).keep (m:=9) p i6).keep (m:=9) g i6;have D:=((K.keep (m:=9) A i6).keep (m:=9) p i6).keep (m:=9) g i6;have R:=((O.keep (m:=9) A i6).keep (m:=9) p i6).keep (m:=9) g i6;have Q:=((M.keep (m:=9) A i6).keep (m:=9) p i6).keep (m:=9) g i6;clear L a2 P ad S K O M A p has ar;generalize grow (grow (grow c h7.size 9) h8.size 9) h9.size 9=c10 at*;refine⟨ss,D.box.cell0 i4,(_,_),T.box.aE _ i4,?_⟩
      try dsimp only
      refine Fo ag G 10 gc ⟨_,_,i4,i4,i4,i4,i4,i4⟩ i4 [((i:Int),fc rows op i)] i4 (zC i4) i4 λv cf cr d=>?_;refine(R.keep (m:=10) d i6).append ag ⟨_,_,i4,i4,i4,i4,i4,i4⟩ ⟨_,_,i4,i4⟩ i4 i6 (λ_=>rfl) (cr.seq λ_=>rfl) Zo i9 λda c6 b2 q=>?_;refine((D.keep (m:=10) d i6).keep (m:=6) q i6).gA ag i4 _ i4 i4 i4 (zC i4) λeb b5 z=>?_;have U:=((T.keep (m:=10) d i6).keep (m:=6) q i6).keep (m:=5) z i6;have a6:=((X.keep (m:=10) d i6).keep (m:=6) q i6).keep (m:=5) z i6;have cp:=((Z.keep (m:=10) d i6).keep (m:=6) q i6).keep (m:=5) z i6;have cn:=((W.keep (m:=10) d i6).keep (m:=6) q i6).keep (m:=5) z i6;refine⟨a,i4,u,a6.box.cell i4,(i:Int),U.box.cell0 i4,a,i4,o,a6.box.cell i4,fc rows op i,U.box.cell i4,?_⟩;refine cp.set ag (λ_=>rfl) i4 i i4 i5 eR i4 i4 i4 λec c2 x=>?_;have a5:=U.keep (m:=4) x i6;have V:=a6.keep (m:=4) x i6;refine⟨⟨a5.box.cell i4,trivial⟩,?_⟩;refine(cn.keep (m:=4) x i6).set ag (λ_=>rfl) i4 (fc rows op i).toNat i5 i5 eS i4 i4 i4 λef a7 w=>?_;have d2:=a5.keep (m:=3) w i6;have c1:=V.keep (m:=3) w i6;refine⟨trivial,?_⟩;have d8:=kC (op:=op) (j:=(fc rows op i).toNat) ah;rw[nS ab hst]at am;refine⟨(f',op.set (fc rows op i).toNat eS,us.set i eR,st++[((i:Int),fc rows op i)],dd,_,da,ds),i4,⟨by simp[a0],by simp[J],i7,i7,i9,i7,⟨_,i4,?_⟩,
       ((((G.keep d i6).keep q i6).keep z i6).keep x i6).keep w i6,
       ((((ay.keep d i6).keep q i6).keep z i6).keep x i6).keep w i6,
       c1,a7,c2.keep w i6,(b5.keep x i6).keep w i6,((b2.keep z i6).keep x i6).keep w i6,
       ((((Q.keep d i6).keep q i6).keep z i6).keep x i6).keep w i6⟩,i7⟩
      rw[a9,<-am];simp
     |none=>
      have d4:=rq (rows:=rows) (us:=us) ab;refine⟨((0,0),eS),i4,?_⟩
      try dsimp only
      refine sg ag (L.keep (m:=9) A i6) 9 i4 λax h9 has p=>?_;refine has.gA ag i4 _ i4 i4 i4 (qk _) λca T g=>?_;refine sY i4 ?_;have G:=((L.keep (m:=9) A i6).keep (m:=9) p i6).keep (m:=9) g i6;have ay:=((a2.keep (m:=9) A i6).keep (m:=9) p i6).keep (m:=9) g i6;have X:=((P.keep (m:=9) A i6).keep (m:=9) p i6).keep (m:=9) g i6;have W:=((ad.keep (m:=9) A i6).keep (m:=9) p i6).keep (m:=9) g i6;have Z:=((S.keep (m:=9) A i6).keep (m:=9) p i6).keep (m:=9) g i6;have D:=((K.keep (m:=9) A i6).keep (m:=9) p i6).keep (m:=9) g i6;have R:=((O.keep (m:=9) A i6).keep (m:=9) p i6).keep (m:=9) g i6;have Q:=((M.keep (m:=9) A i6).keep (m:=9) p i6).keep (m:=9) g i6;clear L a2 P ad S K O M A p has ar;generalize grow (grow (grow c h7.size 9) h8.size 9) h9.size 9=c10 at*;have ar:=NP hl G X W Z J i5 I;refine(KX a l o u rows rs op us ca ar i5 i5).mono ?_;rintro v cf ⟨d,rfl⟩;have d:=d.bj c10 9;refine⟨_,i4,?_⟩;refine⟨ds,(D.keep (m:=9) d i6).box.cell i4,?_⟩;refine Fo ag (G.keep (m:=9) d i6) 10 az ⟨_,_,i4,i4,i4,i4,i4,i4⟩ i4 [gP rows op us] i4 (zC i4) i4 λv c6 cs q=>?_;refine((Q.keep (m:=9) d i6).keep (m:=10) q i6).append ag ⟨_,_,i4,i4,i4,i4,i4,i4⟩ ⟨_,_,i4,i4⟩ i4 i6 (λ_=>rfl) (cs.seq λ_=>rfl) fx i9 λd7 eb b1 z=>?_;refine(((D.keep (m:=9) d i6).keep (m:=10) q i6).keep (m:=7) z i6).store ag i4 1 _ i4 i4 i4 (zC i4) λec b4 x=>?_;have V:=(((X.keep (m:=9) d i6).keep (m:=10) q i6).keep (m:=7) z i6).keep (m:=5) x i6;have cq:=(((W.keep (m:=9) d i6).keep (m:=10) q i6).keep (m:=7) z i6).keep (m:=5) x i6;refine⟨a,i4,o,V.box.cell i4,?_⟩;refine cq.set ag (λ_=>rfl) i4 (gP rows op us).toNat i5 i5 eS i4 i4 i4 λef a7 w=>?_;have d8:=kC (op:=op) (j:=(gP rows op us).toNat) d4.2.2;rw[nT ab hst]at am;refine⟨(f',op.set (gP rows op us).toNat eS,us,st,dd++[gP rows op us],_,ss,d7),i4,⟨by simp[a0],J,i7,i7,i7,i9,⟨_,i4,?_⟩,
       ((((G.keep d i6).keep q i6).keep z i6).keep x i6).keep w i6,
       ((((ay.keep d i6).keep q i6).keep z i6).keep x i6).keep w i6,
       V.keep w i6,a7,((((Z.keep d i6).keep q i6).keep z i6).keep x i6).keep w i6,b4.keep w i6,
       ((((R.keep d i6).keep q i6).keep z i6).keep x i6).keep w i6,
       (b1.keep x i6).keep w i6⟩,i7⟩
      rw[a9,<-am];simp
theorem HO(pool:List (Sl×Row))(c:(⟨eH,0,0⟩,[])∈pool)(n:Nat):gW pool id (qh n ⟨eH,0,0⟩) (qh n []):=
 ⟨jj,λi r l a b=>by
  rw[wk]at a b;split at a
  ·rename_i d;rw[g0 d]at b;cases a;cases b;exact c
  ·cases a⟩
theorem aa.acf{B:ak}{b h:f9}{As:List HP}(H:aa B b h As)(i:Nat){pool:List (Sl×Row)}(c:As[i]?=dB (lF pool)):aa B b h (As.set i (lF ((⟨eH,0,0⟩,[])::pool))):=
 H.fM i c λq d x a=>by
  rcases qX.1 a with rfl|a
  ·exact Seq.nil _ _ _ _ _ _
  ·exact d x a
structure TB (h:f9) (f:f7) (r st dd lf:Sl) (rr:List (Sl×Sl)) (R:List fi) (ST:List (Int×Int)) (D L:au):Prop where
 field:fG h f
 rest:ng jX 2 qv h r rr R
 steps:Rd h st 2 gc ST
 dead:Rd h dd 1 az D
 left:Rd h lf 1 az L
abbrev SA(s:f7)(a:aR):HP:=av s 282 a
abbrev HA(s:Sl)(rs:List Sl):HP:=an 34 s 1 bi rs
abbrev RA(s:Sl)(l:Row):HP:=an 5 s 1 aB l
theorem Kr{R:bP}:∀{l1 l2:List (Int×Int)} {D:Int->Prop},rx R D (l1++l2)->rx R D l1/\rx R (λx=>D x∨∃i,(i,x)∈l1) l2
 |[],l2,D,h=>⟨trivial,by
  have:(λx=>D x∨∃i,(i,x)∈([]:List (Int×Int)))=D:=by funext x;simp
  rw[this];exact h⟩
 |(i,c)::l1,l2,D,h=>by
  obtain⟨a,b,k,d,e⟩:=h;obtain⟨f,g⟩:=Kr e;refine⟨⟨a,b,k,d,f⟩,?_⟩;have:(λx=>D x∨∃j,(j,x)∈(i,c)::l1)=λx=>(D x∨x=c)∨∃j,(j,x)∈l1:=by
   funext x;simp only[qX,Prod.mk.injEq,eq_iff_iff];constructor
   ·rintro(h|⟨j,⟨_,h⟩|h⟩)
    ·exact .inl (.inl h)
    ·exact .inl (.inr h)
    ·exact .inr ⟨j,h⟩
   ·rintro((h|h)|⟨j,h⟩)
    ·exact .inl h
    ·exact .inr ⟨i,.inl ⟨i4,h⟩⟩
    ·exact .inr ⟨j,.inr h⟩
  rw[this];exact g
theorem Pu(s f:f7)(p:Int×Int×Int)(v r Z dd Y R O:Sl)(n:Nat)(pool:List (Sl×Row))(H:aa B h0 h (SA s (gX f p v r Z dd Y R O)::lF pool::As))(l:v.len=n)(hn:n<=64){K:Unit->f9->Prop}
  (P:∀j d h',j.len=n->d.len=n->aa B h0 h' (SA s (gX f p v r Z dd Y j d)::HA j (qh n ⟨eH,0,0⟩)::HA d (qh n ⟨eH,0,0⟩)::lF pool::As)->K () h'):(λ(c:bK) (N:Unit->f9->Prop)=>
 ∃a3:f7,(c=dB a3)/\
 ∃b:Sl,f8 h (a3.add 4)=dB (xA b.ptr b.len b.cap)/\
 ∃a5:f7,(c=dB a5)/\
 ∃a:Sl,f8 h (a5.add 4)=dB (xA a.ptr a.len a.cap)/\
 (bG xJ (zt 53 (xz xF ((b.len:Nat):Int)) (xz xF ((b.len:Nat):Int))) (.one (.sc .slc)) h λy F=>
 (bH.ok [(a5.add 4,(xA a.ptr a.len a.cap)),(a3.add 4,(xA b.ptr b.len b.cap))] F)/\
 ∃S:f7,(c=dB S)/\
 (bG xJ (zt 53 (xz xF ((a.len:Nat):Int)) (xz xF ((a.len:Nat):Int))) (.one (.sc .slc)) F λv9 J=>
 (bH.ok [(a5.add 4,(xA a.ptr a.len a.cap)),(a3.add 4,(xA b.ptr b.len b.cap))] J)/\
 aj xJ (qE 53 (xB (dB (S.add 9))) (xA y.ptr y.len y.cap)) J λ_ h3=>
 (bH.ok [] h3)/\
 ∃E:f7,(c=dB E)/\
 aj xJ (qE 53 (xB (dB (E.add 10))) (xA v9.ptr v9.len v9.cap)) h3 λ_ q=>
 (bH.ok [] q)/\
 N () q)/\(aj xJ (qE 53 (xB (dB (S.add 9))) (xA y.ptr y.len y.cap)) F λ_ V=>
 (bH.ok [] V)/\
 bG xJ (zt 53 (xz xF ((a.len:Nat):Int)) (xz xF ((a.len:Nat):Int))) (.one (.sc .slc)) V λt W=>
 (bH.ok [] W)/\
 ∃I:f7,(c=dB I)/\
 aj xJ (qE 53 (xB (dB (I.add 10))) (xA t.ptr t.len t.cap)) W λ_ X=>
 (bH.ok [] X)/\
 N () X))/\(bG xJ (zt 53 (xz xF ((a.len:Nat):Int)) (xz xF ((a.len:Nat):Int))) (.one (.sc .slc)) h λx h8=>
 (bH.ok [(a5.add 4,(xA a.ptr a.len a.cap)),(a3.add 4,(xA b.ptr b.len b.cap))] h8)/\
 bG xJ (zt 53 (xz xF ((b.len:Nat):Int)) (xz xF ((b.len:Nat):Int))) (.one (.sc .slc)) h8 λu T=>
 (bH.ok [(a5.add 4,(xA a.ptr a.len a.cap)),(a3.add 4,(xA b.ptr b.len b.cap))] T)/\
 ∃D:f7,(c=dB D)/\
 aj xJ (qE 53 (xB (dB (D.add 9))) (xA u.ptr u.len u.cap)) T λ_ L=>
 (bH.ok [] L)/\
 ∃G:f7,(c=dB G)/\
 aj xJ (qE 53 (xB (dB (G.add 10))) (xA x.ptr x.len x.cap)) L λ_ z=>
 (bH.ok [] z)/\
 N () z)) (dB s) K:=by
 have U:=H.box 0 i4;refine⟨s,i4,v,U.cell i4,s,i4,v,U.cell i4,?_,?_⟩
 ·refine H.make ag bi fu i6 ⟨eH,0,0⟩ i4 i4 n n o0 o0 (qk _) i5 λj F o Q m=>?_;have m:=m.aY;have k:=m.box 1 i4;refine⟨⟨k.cell i4,k.cell i4,trivial⟩,s,i4,?_,?_⟩
  ·refine m.make ag bi fu i6 ⟨eH,0,0⟩ i4 i4 n n o0 o0 (qk _) i5 λd J g A i=>?_;have i:=i.aY;have e:=i.box 2 i4;refine⟨⟨e.cell i4,e.cell i4,trivial⟩,?_⟩;refine i.store ag 2 i4 i4 9 [j] i4 i4 i4 n0 λh3 w=>⟨trivial,s,i4,?_⟩
   refine w.store ag 2 i4 i4 10 [d] i4 i4 i4 n0 λq M=>⟨trivial,?_⟩
   exact P j d q o g (M.aK 4 [2,1,0,3])
  ·refine m.store ag 1 i4 i4 9 [j] i4 i4 i4 n0 λJ i=>⟨trivial,?_⟩
   refine i.make ag bi fu i6 ⟨eH,0,0⟩ i4 i4 n n o0 o0 (qk _) i5 λd h3 g A w=>⟨trivial,s,i4,?_⟩
   have w:=w.aY;refine w.store ag 2 i4 i4 10 [d] i4 i4 i4 n0 λq M=>⟨trivial,?_⟩
   exact P j d q o g (M.aK 4 [2,1,0,3])
 ·refine H.make ag bi fu i6 ⟨eH,0,0⟩ i4 i4 n n o0 o0 (qk _) i5 λd F o Q m=>?_;have m:=m.aY;have k:=m.box 1 i4;refine⟨⟨k.cell i4,k.cell i4,trivial⟩,?_⟩;refine m.make ag bi fu i6 ⟨eH,0,0⟩ i4 i4 n n o0 o0 (qk _) i5 λj J g A i=>?_;have i:=i.aY;have e:=i.box 2 i4;refine⟨⟨e.cell i4,e.cell i4,trivial⟩,s,i4,?_⟩;refine i.store ag 2 i4 i4 9 [j] i4 i4 i4 n0 λh3 w=>⟨trivial,s,i4,?_⟩
  refine w.store ag 2 i4 i4 10 [d] i4 i4 i4 n0 λq M=>⟨trivial,?_⟩
  exact P j d q g o (M.aK 4 [2,0,1,3])
theorem WI(n nd w:Nat)(d:au):(fZ n nd w d).1.length=n/\(fZ n nd w d).2.length=n:=by
 unfold fZ;have:∀(l:List (Int×Nat)) (s:aI×aI),(l.foldl (λs p=>(s.1.set p.1.toNat (nt nd p.2),s.2.set p.1.toNat (aG w))) s).1.length=i0 s.1/\(l.foldl (λs p=>(s.1.set p.1.toNat (nt nd p.2),s.2.set p.1.toNat (aG w))) s).2.length=i0 s.2:=by
  intro l
  induction l with
  |nil=>intro s;exact⟨i4,i4⟩
  |cons a l ih=>intro s;rw[zr];have:=ih (s.1.set a.1.toNat (nt nd a.2),s.2.set a.1.toNat (aG w));simpa using this
 have:=this d.zipIdx (qh n [],qh n []);simpa using this
abbrev Told(s f:f7)(p:Int×Int×Int)(v r c d e b a:Sl)(g h:List Sl)(pl:List (Sl×Row)):List HP:=[SA s (gX f p v r c d e b a),HA b g,HA a h,lF pl]
theorem TC(s f:f7)(p:Int×Int×Int)(v r st J lf wa M:Sl)(I mr:List Sl)(pl:List (Sl×Row))(c:Int)(nd w:Nat)(H:aa B h0 h (Told s f p v r st J lf wa M I mr pl++As))(ar:0<=c)(hw:c.toNat<i0 I)(hm:c.toNat<i0 mr)(X:p.2.2=w)(hd:J.len=nd)(ap:nd<=64)(R:w<=2^20){K:Unit->f9->Prop}
  (hk:∀a b h',aa B h0 h' (RA a (aG nd)::RA b (aG w)::(Told s f p v r st J lf wa M (I.set c.toNat a) (mr.set c.toNat b) pl++As))->K () h'):(λ(S:bK) (K3:Unit->f9->Prop)=>
 ∃l:f7,(S=dB l)/\
 ∃g:Sl,f8 h (l.add 9)=dB (xA g.ptr g.len g.cap)/\
 ∃a25:f7,(S=dB a25)/\
 ∃d:Sl,f8 h (a25.add 10)=dB (xA d.ptr d.len d.cap)/\
 ∃O:f7,(S=dB O)/\
 ∃j:Int,f8 h ((O.add 1).add 2)=dB (xz xF j)/\
 (bG xJ (zt 34 (xz xF ((J.len:Nat):Int)) (xz xF ((J.len:Nat):Int))) (.one (.sc .slc)) h λo V=>
 (bH.ok [((O.add 1).add 2,(xz xF j)),(a25.add 10,(xA d.ptr d.len d.cap)),(l.add 9,(xA g.ptr g.len g.cap))] V)/\
 ∃N:f7,(g.ptr=dB N/\0<=c/\c<((g.len:Nat):Int))/\
 (bG xJ (zt 34 (xz xF j) (xz xF j)) (.one (.sc .slc)) V λU ao=>
 (bH.ok [(a25.add 10,(xA d.ptr d.len d.cap)),(l.add 9,(xA g.ptr g.len g.cap))] ao)/\
 aj xJ (qE 34 (xB (dB (N.add (c.toNat*1)))) (xA o.ptr o.len o.cap)) ao λ_ q=>
 (bH.ok [] q)/\
 ∃t:f7,(d.ptr=dB t/\0<=c/\c<((d.len:Nat):Int))/\
 aj xJ (qE 34 (xB (dB (t.add (c.toNat*1)))) (xA U.ptr U.len U.cap)) q λ_ E=>
 (bH.ok [] E)/\
 K3 () E)/\(aj xJ (qE 34 (xB (dB (N.add (c.toNat*1)))) (xA o.ptr o.len o.cap)) V λ_ D=>
 (bH.ok [] D)/\
 bG xJ (zt 34 (xz xF j) (xz xF j)) (.one (.sc .slc)) D λk F=>
 (bH.ok [] F)/\
 ∃u:f7,(d.ptr=dB u/\0<=c/\c<((d.len:Nat):Int))/\
 aj xJ (qE 34 (xB (dB (u.add (c.toNat*1)))) (xA k.ptr k.len k.cap)) F λ_ z=>
 (bH.ok [] z)/\
 K3 () z))/\(bG xJ (zt 34 (xz xF j) (xz xF j)) (.one (.sc .slc)) h λW ah=>
 (bH.ok [(a25.add 10,(xA d.ptr d.len d.cap)),(l.add 9,(xA g.ptr g.len g.cap))] ah)/\
 bG xJ (zt 34 (xz xF ((J.len:Nat):Int)) (xz xF ((J.len:Nat):Int))) (.one (.sc .slc)) ah λQ am=>
 (bH.ok [(a25.add 10,(xA d.ptr d.len d.cap)),(l.add 9,(xA g.ptr g.len g.cap))] am)/\
 ∃al:f7,(g.ptr=dB al/\0<=c/\c<((g.len:Nat):Int))/\
 aj xJ (qE 34 (xB (dB (al.add (c.toNat*1)))) (xA Q.ptr Q.len Q.cap)) am λ_ ab=>
 (bH.ok [] ab)/\
 ∃ad:f7,(d.ptr=dB ad/\0<=c/\c<((d.len:Nat):Int))/\
 aj xJ (qE 34 (xB (dB (ad.add (c.toNat*1)))) (xA W.ptr W.len W.cap)) ab λ_ Z=>
 (bH.ok [] Z)/\
 K3 () Z)) (dB s) K:=by
 have hb:=H.box 0 i4;have mk:∀{Y:f9} {Cs:List HP} (m:Nat) (hm:m<=2^20) {z1 z2:Int},z1=(m:Int)->z2=(m:Int)->aa B h0 Y Cs->∀{K:Sl->f9->Prop},(∀a h',aa B h0 h' (RA a (aG m)::Cs)->K a h')->
   bG xJ (zt 34 (xz xF z1) (xz xF z2)) (.one (.sc .slc)) Y K:=by
  intro Y Cs m hm z1 z2 e1 e2 G K hK;subst e1;subst e2;exact G.make ag aB gp i6 0 i4 i4 m m i4 i4 (qk _) i5 λa h' _ _ H'=>hK a h' H'.aY
 refine⟨s,i4,wa,hb.cell i4,s,i4,M,hb.cell i4,s,i4,p.2.2,show f8 h (s.add 3)=_ from hb.cell i4,?_,?_⟩
 ·refine mk nd i5 (by rw[hd]) (by rw[hd]) H λa Y G=>?_;have n:=G.box 1 i4;refine⟨⟨show f8 Y (s.add 3)=_ from n.cell i4,n.cell i4,n.cell i4,trivial⟩,?_⟩;have A:∀{h2:f9} {Cs:List HP} {I:List Sl} (i:Nat) (a:Sl) {s':Sl},aa B h0 h2 Cs->Cs[i]?=dB (HA s' I)->c.toNat<i0 I->∀{K:f9->Prop},(∀h',aa B h0 h' (Cs.set i (HA s' (I.set c.toNat a)))->K h')->∃x:f7,(s'.ptr=dB x/\0<=c/\c<((s'.len:Nat):Int))/\aj xJ (qE 34 (xB (dB (x.add (c.toNat*1)))) (xA a.ptr a.len a.cap)) h2 λ_ h'=>K h':=by intro h2 Cs I i a s' T hi hl K hK;exact T.set ag i hi (λ_=>rfl) i4 c.toNat i5 hl a i4 i4 i4 λh3 P=>hK h3 P
  obtain⟨x,hx,-⟩:=A (K:=λ_=>True) 2 a G rfl hw λ_ _=>trivial;refine⟨x,hx,?_,?_⟩
  ·refine mk w R X X G λb h2 T=>?_;have y:=T.box 2 i4;refine⟨⟨y.cell i4,y.cell i4,trivial⟩,?_⟩;obtain⟨x',L,hr⟩:=A (K:=λq=>bH.ok [] q/\∃t:f7,(M.ptr=dB t/\0<=c/\c<((M.len:Nat):Int))/\
 aj xJ (qE 34 (xB (dB (t.add (c.toNat*1)))) (xA b.ptr b.len b.cap)) q λ_ E=>(bH.ok [] E)/\K () E) 3 a T i4 hw λh3 P=>⟨trivial,A 4 b P i4 hm λh4 H4=>⟨trivial,hk a b h4 (H4.aK 6 [1,0,2,3,4,5])⟩⟩
   have e:x=x':=zQ.inj (hx.1.symm.trans L.1);subst e;exact hr
  ·obtain⟨x',L,hr⟩:=A (K:=λD=>bH.ok [] D/\bG xJ (zt 34 (xz xF p.2.2) (xz xF p.2.2)) (.one (.sc .slc)) D λk F=>
 (bH.ok [] F)/\
 ∃u:f7,(M.ptr=dB u/\0<=c/\c<((M.len:Nat):Int))/\
 aj xJ (qE 34 (xB (dB (u.add (c.toNat*1)))) (xA k.ptr k.len k.cap)) F λ_ z=>
 (bH.ok [] z)/\K () z) 2 a G i4 hw λh3 P=>⟨trivial,mk w R X X P λb h4 H4=>⟨trivial,A 4 b H4 i4 hm λh5 H5=>⟨trivial,hk a b h5 (H5.aK 6 [1,0,2,3,4,5])⟩⟩⟩
   have e:x=x':=zQ.inj (hx.1.symm.trans L.1);subst e;exact hr
 ·refine mk w R X X H λb Y G=>?_;have n:=G.box 1 i4;refine⟨⟨n.cell i4,n.cell i4,trivial⟩,?_⟩;refine mk nd i5 (by rw[hd]) (by rw[hd]) G λa h2 T=>?_;have y:=T.box 2 i4;refine⟨⟨y.cell i4,y.cell i4,trivial⟩,?_⟩;refine T.set ag 3 i4 (λ_=>rfl) i4 c.toNat i5 hw a i4 i4 i4 λh3 P=>⟨trivial,?_⟩
  refine P.set ag 4 i4 (λ_=>rfl) i4 c.toNat i5 hm b i4 i4 i4 λh4 H4=>⟨trivial,hk a b h4 (H4.aK 6 [0,1,2,3,4,5])⟩
theorem NQ{h:f9}{Cs:List HP}(x:Sl)(m:Row)(nd:Nat)(z:Int)(H:aa B h0 h Cs)(w:z=nd)(v:nd<=64)(E:i0 m<=2^20){L L2:bH}(D:L.ok h)(l:L2.ok h)(q:St B h0 Cs λh=>Rd h x 1 aB m){K:Sl->Sl->f9->Prop}
  (t:∀a b h',aP (λb=>b<h.size) h h'->aa B h0 h' (RA a (aG nd)::RA b m::Cs)->K a b h'):
  (bG xJ (zt 34 (xz xF z) (xz xF z)) (.one (.sc .slc)) h λn e=>
 (bH.ok L e)/\
 ol xJ 124 #[(xA x.ptr x.len x.cap)] (.one (.sc .slc)) e λp g=>K n p g)/\(ol xJ 124 #[(xA x.ptr x.len x.cap)] (.one (.sc .slc)) h λf d=>
 (bH.ok L2 d)/\
 bG xJ (zt 34 (xz xF z) (xz xF z)) (.one (.sc .slc)) d λj k=>K j f k):=by
 subst w;constructor
 ·refine H.Lg ag aB gp i6 0 i4 i4 nd nd i4 i4 (qk _) i5 λa s _ r c=>⟨lh r D,?_⟩
  have c:=c.aY;refine(eK x m s (q.at [_] c) i5).mono ?_;rintro _ o ⟨b,rfl,u⟩;exact⟨b,i4,t a b o (up r u.ac) ((c.bR u).nf)⟩
 ·refine(eK x m h (q.at [] H) i5).mono ?_;rintro _ s ⟨b,rfl,i⟩;have c:=H.bR i;refine⟨b,i4,lh i.ac l,?_⟩;refine c.Lg ag aB gp i6 0 i4 i4 nd nd i4 i4 (qk _) i5 λa o _ A y=>?_;exact t a b o (up i.ac A) y.aY
structure lP (pool pl:List (Sl×Row)) (wr mr:List Sl) (W M:aI):Prop where
 sub:∀x∈pool,x∈pl
 way:gW pl id wr W
 more:gW pl id mr M
theorem lP.step{pool pl:List (Sl×Row)}{e f:List Sl}{W M:aI}(x:lP pool pl e f W M)(c:Nat)(a b:Sl)(l m:Row):lP pool ((b,m)::(a,l)::pl) (e.set c a) (f.set c b) (W.set c l) (M.set c m):=
 ⟨λy d=>by simp[x.sub y d],(x.way.mono λy d=>by simp[d]).set c jj,(x.more.mono λy d=>by simp[d]).set c jj⟩
theorem TD(s f:f7)(p:Int×Int×Int)(v r A q I a3 a1:Sl)(rr:List (Sl×Sl))(R:List fi)(ST:List (Int×Int))(D L:au)(n nd w:Nat)(pool:List (Sl×Row))(H:aa B h0 h (SA s (gX f p v r A q I a3 a1)::lF pool::As))(hS:St B h0 As λh=>TB h f r A q I rr R ST D L)
  (hv:v.len=n) (hn:n<=64) (hp:p.2.2=w) (hw:w<=2^20) (bb:i0 D=nd) (ab:nd<=64) (hR:∀e∈R,iI n w e) (hD:∀c∈D,0<=c/\c<(n:Int)) (b3:D.Nodup) (hg:rx (R.map qL) (·∈D) ST) (b7:i0 ST<=2^20) (bd:∀e∈R,i0 e.1<=2^20) (a8:(⟨eH,0,0⟩,[])∈pool):
  ai xJ 216 #[xB (dB s)] h λv' h'=>v'=.tuple #[]/\∃k m E z pl,aa B h0 h' (Told s f p v r A q I k m E z pl++As)/\lP pool pl E z (ST.foldl (gQ R nd) (fZ n nd w D)).1 (ST.foldl (gQ R nd) (fZ n nd w D)).2:=by
 refine ts Tryz.func216 ?_ (.two .n (.two (.join [] [(18,36)] .n) (.two (.two .n (.inn (.loop [(42,aT)] [(3,5),(42,77)] (.two .n (.two .n (.two (.inn (.two .n (.two (.join [] [(47,67)] .n) .n))) .n)))))) (.two .n (.inn (.loop [(83,aT)] [(6,10),(11,12),(83,134)] (.two .n (.two .n (.two (.inn (.two .n (.two (.join [(7,(.sc .adr))] [(7,8),(87,95)] .n) (.two (.join [(8,cF),(9,cF)] [(8,10),(95,100)] .n) (.two (.two .n (.inn (.loop [(103,aT)] [(11,12),(103,117)] .n))) .n))))) .n))))))))) [(1,(.y [0,1,2,3,4,5,6,8,9,10,11,12] (.y [7,14,15] (.l [13,16,17,18,19]) (.l [16,13,17,18,19])) (.l [13,7,14,15,16,17,18,19]))),(5,(.y [0,1,2,3,4,5,6,7,8,9,10,12,13,14,15,16] (.y [11,18] (.l [17,19,20,21]) (.l [19,17,20,21])) (.l [17,11,18,19,20,21]))),(12,(.y [0,2,3] (.l [1,4,5,6]) (.l [4,1,5,6])))];have hb:=H.box 0 i4;have ar:q.len=nd:=by rw[(hS.at [_,_] H).dead.len,bb]
 refine⟨s,i4,q,show f8 h (s.add 7)=_ from hb.cell i4,?_⟩;refine bE (λ_ h'=>∃k m,k.len=n/\m.len=n/\aa B h0 h' (Told s f p v r A q I k m (qh n ⟨eH,0,0⟩) (qh n ⟨eH,0,0⟩) pool++As)) ?_ ?_
 ·exact Pu (K:=λ_ h'=>∃k m,k.len=n/\m.len=n/\aa B h0 h' (Told s f p v r A q I k m (qh n ⟨eH,0,0⟩) (qh n ⟨eH,0,0⟩) pool++As)) s f p v r A q I a3 a1 n pool H hv hn λk m h' h1 h2 O=>⟨k,m,h1,h2,O⟩
 rintro-h1 ⟨k,m,cd,cf,H1⟩;have b5:=H1.box 0 i4;refine⟨s,i4,q,show f8 h1 (s.add 7)=_ from b5.cell i4,?_⟩;refine aq (λt:Nat×List Sl×List Sl×List (Sl×Row)=>(t.1:Int)) (λt h'=>t.1<=nd/\aa B h0 h' (Told s f p v r A q I k m t.2.1 t.2.2.1 t.2.2.2++As)/\lP pool t.2.2.2 t.2.1 t.2.2.1 (fZ n nd w (D.take t.1)).1 (fZ n nd w (D.take t.1)).2) (λt=>nd-t.1)
  (0,qh n ⟨eH,0,0⟩,qh n ⟨eH,0,0⟩,pool) i4 ⟨i5,H1,⟨λ_ h=>h,HO pool a8 n,HO pool a8 n⟩⟩ ?_
 rintro⟨i,E,z,pl⟩ h2 ⟨hi,H2,T2⟩;dsimp only at*;have b2:=WI n nd w (D.take i);have V:=T2.way.1;have S:=T2.more.1;refine ae (λe=>?_) (λe=>?_)
 ·have Z:i<nd:=i5
  have X:=hD _ (qf (show i<i0 D by omega));refine(hS.at [_,_,_,_] H2).dead.bo i i4 i5 _ i4 ?_;refine bE (λ_ h'=>∃a b,aa B h0 h' (RA a (aG nd)::RA b (aG w)::(Told s f p v r A q I k m (E.set D[i].toNat a) (z.set D[i].toNat b) pl++As))) ?_ ?_
  ·exact TC (K:=λ_ h'=>∃a b,aa B h0 h' (RA a (aG nd)::RA b (aG w)::(Told s f p v r A q I k m (E.set D[i].toNat a) (z.set D[i].toNat b) pl++As))) s f p v r A q I k m E z pl D[i] nd w H2 X.1 i5 i5 hp ar ab hw λa b h' O=>⟨a,b,O⟩
  rintro-h3 ⟨a,b,H3⟩;refine⟨s,i4,k,(H3.box 2 i4).cell i4,?_⟩;refine(H3.seq 3 i4 λ_=>rfl).lr D[i].toNat i5 i9 ?_;rw[yo];refine H3.set ag 0 i4 (λ_=>rfl) i4 i i4 (by simp[aG];omega) 1 i4 i4 i4 λh4 H4=>?_;have H5:=(H4.freeze 0 i4 λ_=>rfl).pool 5 0 i6 i4 i4;have H6:=(H5.freeze 1 i4 λ_=>rfl).pool 5 1 i6 i4 i4;refine⟨(i+1,E.set D[i].toNat a,z.set D[i].toNat b,_),js,⟨i7,H6.aK 6 [2,3,4,5],?_⟩,i7⟩
  try dsimp only
  have e1:D.take (i+1)=D.take i++[D[i]]:=aD _ _;have e2:i0 (D.take i)=i:=i9
  rw[e1,GO,e2];exact T2.step D[i].toNat a b (nt nd i) (aG w)
 have ah:i=i0 D:=i5
 subst ah;rw[qU]at T2 b2 V S;refine⟨s,i4,A,(H2.box 0 i4).cell i4,?_⟩;have b9:=(hS.at [_,_,_,_] H2).steps.len;refine aq (λt:Nat×List Sl×List Sl×List (Sl×Row)=>(t.1:Int)) (λt h'=>t.1<=i0 ST/\aa B h0 h' (Told s f p v r A q I k m t.2.1 t.2.2.1 t.2.2.2++As)/\lP pool t.2.2.2 t.2.1 t.2.2.1 ((ST.take t.1).foldl (gQ R nd) (fZ n nd w D)).1 ((ST.take t.1).foldl (gQ R nd) (fZ n nd w D)).2) (λt=>i0 ST-t.1)
  (0,E,z,pl) i4 ⟨jj,H2,T2⟩ ?_
 clear V S T2 H2 hi e;rintro⟨i,E,z,pl⟩ h3 ⟨hi,H3,T3⟩;dsimp only at*;obtain⟨dk,-⟩:=IM (nd:=nd) (w:=w) hD b3 D.length (qk _);rw[qU]at dk;have a4:=Kr (l1:=ST.take i) (l2:=ST.drop i) (by rw[qB];exact hg);obtain⟨a7,-⟩:=FD hR a4.1 dk;obtain⟨W,hW⟩:∃W,W=((ST.take i).foldl (gQ R nd) (fZ n nd w D)).1:=⟨_,rfl⟩
 obtain⟨M,hM⟩:∃M,M=((ST.take i).foldl (gQ R nd) (fZ n nd w D)).2:=⟨_,rfl⟩
 have al:(ST.take i).foldl (gQ R nd) (fZ n nd w D)=(W,M):=by rw[hW,hM]
 have J:Vg n nd w (λc=>c∈D∨∃j,(j,c)∈ST.take i) W M:=by rw[hW,hM];exact a7
 rw[<-hW,<-hM]at T3;clear a7 hW hM;have cp:=J.wl;have cq:=J.ml;have V:=T3.way.1;have S:=T3.more.1;refine ae (λe=>?_) (λe=>?_)
 ·have Z:i<i0 ST:=i5
  have ao:=a4.2;rw[qI Z]at ao;obtain⟨row,bj,ad⟩:∃row bj,ST[i]=(row,bj):=⟨_,_,rfl⟩
  rw[ad]at ao;obtain⟨g1,g2,g3,g4,-⟩:=ao;have o:row.toNat<i0 R:=by have:=g1.2;rw[qy]at this;omega
  obtain⟨d,U⟩:∃d,d=R[row.toNat]:=⟨_,rfl⟩
  have er:R.getD row.toNat ([],[])=d:=by rw[qd,qc o,U];rfl
  have bs:(R.map qL).getD row.toNat []=d.1:=by rw[qd,qO,qc o,U];rfl
  rw[bs]at g3 g4;have N:=hR d (U▸qf o);have cl:=bd d (U▸qf o);have cn:=N.cM bj g3;have G3:=hS.at [_,_,_,_] H3;have hF:=G3.rest.2.1;refine G3.steps.dY (g:=gc) i i4 Z ST[i] i4 ?_;rw[ad];refine H3.Cq ag i4 λa50 h4 P4 H4=>?_;have H4:=H4.aY;refine H4.storeAll ag 0 i4 i4 (gc (row,bj)) i4 i4 i4 i4 λh5 H5=>?_;have br:row.toNat<i0 rr:=by rw[hF];exact o
  obtain⟨y,hy⟩:∃y,y=rr[row.toNat]:=⟨_,rfl⟩
  have G:∀{h'},ng jX 2 qv h' r rr R->jX.p h' (λb=>b<h'.size) y d:=λhh=>by rw[hy,U];exact Fix.row hh o
  refine bE (λa' h'=>aa B h0 h' (av a' 276 (qv y)::av a50 349 (gc (row,bj))::(Told s f p v r A q I k m E z pl++As))) ?_ ?_
  ·have a0:=H5.box 1 i4;have G5:=hS.at [_,_,_,_,_] H5;refine⟨s,i4,r,a0.cell i4,row,(H5.box 0 i4).cell0 i4,?_⟩;obtain⟨b4,ha,x,X,rfl⟩:=G5.rest.1.dY (g:=qv) (i:=row) row.toNat i5 br y (by rw[hy]) (K:=λx=>x=y) rfl;refine⟨b4,ha,_,X,?_⟩;refine H5.Cq ag i4 λQ h6 P6 H6=>⟨⟨nY X.1 P6,nY X.2.1 P6,nY ((H5.box 0 i4).cell0 i4) P6,nY (a0.cell i4) P6,trivial⟩,?_⟩
   have H6:=H6.aY;refine H6.storeAll ag 0 i4 i4 (qv x) i4 i4 i4 i4 λh7 H7=>⟨trivial,H7⟩
  intro Q h7 H7;refine bE (λt h'=>aa B h0 h' (RA t.1 (aG nd)::RA t.2 d.2::av Q 276 (qv y)::av a50 349 (gc (row,bj))::(Told s f p v r A q I k m E z pl++As))) ?_ ?_
  ·have ay:=H7.box 0 i4;refine⟨y.2,ay.cell i4,?_⟩;exact NQ (L:=[(Q.add 1,xA y.2.ptr y.2.len y.2.cap)]) (K:=λa b h'=>bH.ok [] h'/\aa B h0 h' (RA a (aG nd)::RA b d.2::av Q 276 (qv y)::av a50 349 (gc (row,bj))::(Told s f p v r A q I k m E z pl++As))) y.2 d.2 nd _ H7 (by rw[ar]) ab (by rw[N.len];exact hw) ⟨ay.cell i4,trivial⟩ (L2:=[]) trivial (St.mk' λh' O=>(G (hS.at [_,_,_,_,_,_] O).rest).2) λa b h' _ O=>⟨trivial,O⟩
  rintro⟨P,u⟩ h8 H8;dsimp only at H8;refine⟨y.1,(H8.box 2 i4).cell0 i4,?_⟩;have ca:=(G (hS.at [_,_,_,_,_,_,_,_] H8).rest).1.len;let F:Nat->au:=λj=>(d.1.take j).filter λc=>!decide (c=bj);refine aq (λj:Nat=>(j:Int)) (λj h'=>j<=i0 d.1/\aa B h0 h' (RA P (cH W (aG nd) (F j))::RA u (cH M d.2 (F j))::av Q 276 (qv y)::av a50 349 (gc (row,bj))::(Told s f p v r A q I k m E z pl++As))) (λj=>i0 d.1-j) 0 i4 ⟨i5,by simpa[F,cH]using H8⟩ ?_;rintro j h9 ⟨hj,H9⟩;have told:∀c∈F j,i0 (aA W c.toNat)=nd/\(aA M c.toNat).length=w:=λc X=>by
   have ap:=qC.1 X;have hm:=zN ap.1;exact J.rw_ c (g4 c hm (by simpa using ap.2)) (N.cM c hm).1 (N.cM c hm).2
  have ax:i0 (cH W (aG nd) (F j))=nd:=jL k8 λc X=>(told c X).1;have a2:i0 (cH M d.2 (F j))=w:=jL N.len λc X=>(told c X).2;refine ae (λe2=>?_) (λe2=>?_)
  ·have T:j<i0 d.1:=i5
   have am:=N.cM _ (qf T);refine(G (hS.at [_,_,_,_,_,_,_,_] H9).rest).1.bo j i4 T _ i4 ?_;refine⟨bj,(H9.box 3 i4).cell i4,?_⟩;refine bz (λa6=>?_) (λbk=>?_)
   ·have tc:=J.rw_ d.1[j] (g4 _ (qf T) a6) am.1 am.2;refine(DN s f 1 d.1[j] P u k m _ _ E z W M H9 (St.mk' λh' O=>?_) am.1 i5 i5 (by rw[tc.1,ax]) (by rw[tc.2,a2]) i5 i5).mono ?_
    ·exact Ay.of (O.box 2 i4) (hS.at [_,_,_,_,_,_] O).field (O.Bw 3 5 i4 i4 T3.way) (O.Bw 4 5 i4 i4 T3.more)
    rintro _ b6 ⟨rfl,Y⟩;have e3:F (j+1)=F j++[d.1[j]]:=by simp only[F];rw[jA _ _ T];simp[a6]
    exact⟨(),i4,j+1,j0,⟨i5,by rw[e3,rE,rE];exact Y⟩,i5⟩
   ·have e3:F (j+1)=F j:=by simp only[F];rw[jA _ _ T];simp[bk]
    exact⟨j+1,j0,⟨i5,by rw[e3];exact H9⟩,i5⟩
  ·have bq:j=i0 d.1:=i5
   subst bq;have a5:=H9.box 3 i4;have a9:=H9.box 4 i4;refine⟨s,i4,k,a9.cell i4,bj,a5.cell i4,s,i4,m,a9.cell i4,bj,a5.cell i4,?_⟩;refine H9.set ag 5 i4 (λ_=>rfl) i4 bj.toNat i5 i5 P i4 i4 i4 λb6 Y=>⟨⟨(Y.box 3 i4).cell i4,trivial⟩,?_⟩
   refine Y.set ag 6 i4 (λ_=>rfl) i4 bj.toNat i5 i5 u i4 i4 i4 λcc b1=>⟨trivial,?_⟩
   have b0:=(b1.freeze 0 i4 λ_=>rfl).pool 7 0 i6 i4 i4;have bl:=(b0.freeze 1 i4 λ_=>rfl).pool 7 1 i6 i4 i4;refine⟨(i+1,E.set bj.toNat P,z.set bj.toNat u,_),js,⟨i7,bl.aK 8 [4,5,6,7],?_⟩,i7⟩
   try dsimp only
   rw[aD _ _ Z,zK,al,ad];have e3:[(row,bj)].foldl (gQ R nd) (W,M)=(W.set bj.toNat (cH W (aG nd) (F d.1.length)),M.set bj.toNat (cH M d.2 (F d.1.length))):=by simp only[zr,wx,gQ,er,F,qU]
   rw[e3];exact T3.step bj.toNat P u _ _
 ·have ah:i=i0 ST:=i5
  subst ah;rw[qU]at al;exact⟨i4,k,m,E,z,pl,H3,by rw[al];exact T3⟩
def ku(nd:Nat)(known:List Bool)(vals:aI)(s:aI×aI)(i:Nat):aI×aI:=
 (s.1.mapIdx λc r=>if c<i/\known.getD c eS=eR then aG nd else r,s.2.mapIdx λc r=>if c<i/\known.getD c eS=eR then aA vals c else r)
theorem TE(nd:Nat)(known:List Bool)(vals:aI)(s:aI×aI):ku nd known vals s 0=s:=by unfold ku;refine vd ?_ ?_<;>refine wB jj λi b a=>?_<;>simp
theorem WJ(nd:Nat)(known:List Bool)(vals:aI)(s:aI×aI){n:Nat}(a:i0 s.1=n)(b:i0 s.2=n):ku nd known vals s n=il nd known vals s:=by unfold ku il;refine vd ?_ ?_<;>refine wB jj λi a b=>?_<;>simp at a<;>simp[show i<n by omega]
theorem WK(nd:Nat)(known:List Bool)(vals:aI)(s:aI×aI){i:Nat}(d:known.getD i eS=eR):ku nd known vals s (i+1)=((ku nd known vals s i).1.set i (aG nd),(ku nd known vals s i).2.set i (aA vals i)):=by
 unfold ku;refine vd ?_ ?_<;>refine wB jj λj f e=>?_<;>simp only[List.getElem_mapIdx,List.getElem_set]<;>by_cases c:i=j
 ·subst c;rw[g0 ⟨i5,d⟩,g0 rfl]
 ·rw[g9 c];congr 1;simp only[eq_iff_iff];constructor<;>rintro⟨a,b⟩<;>exact⟨i5,b⟩
 ·subst c;rw[g0 ⟨i5,d⟩,g0 rfl]
 ·rw[g9 c];congr 1;simp only[eq_iff_iff];constructor<;>rintro⟨a,b⟩<;>exact⟨i5,b⟩
theorem Zq(nd:Nat)(known:List Bool)(vals:aI)(s:aI×aI){i:Nat}(e:known.getD i eS=eS):ku nd known vals s (i+1)=ku nd known vals s i:=by
 have c:∀j,(j<i+1/\known.getD j eS=eR)↔(j<i/\known.getD j eS=eR):=λj=>by
  constructor
  ·rintro⟨a,b⟩;by_cases d:j=i
   ·subst d;rw[e]at b;cases b
   ·exact⟨i5,b⟩
  ·rintro⟨a,b⟩;exact⟨i5,b⟩
 unfold ku;simp only[c]
theorem WL(s f:f7)(p:Int×Int×Int)(v r O D N J I:Sl)(j g d:List Sl)(pl:List (Sl×Row))(known:List Bool)(V W M:aI)(n nd:Nat)(H:aa B h0 h (Told s f p v r O D N J I g d pl++HA v j::As))(hn:n<=64)(y:D.len=nd)(T:nd<=64)(X:lP pl pl g d W M)(S:gW pl id j V)(ab:i0 V=n)(A:i0 W=n)(F:i0 M=n)
  (hk:∀(c:Nat) (hc:c<i0 j),j[c].ptr.isNone=!(known.getD c eS)):
  ai xJ 217 #[xB (dB s)] h λv' h'=>v'=.tuple #[]/\∃g d b,aa B h0 h' (Told s f p v r O D N J I g d b++HA v j::As)/\lP pl b g d (il nd known V (W,M)).1 (il nd known V (W,M)).2:=by
 refine ts Tryz.func217 ?_ (.two .n (.inn (.loop [(9,aT)] [(2,4),(9,37)] .n))) [(4,(.l [0,1,2,3,4,5,6,7,8,9,10,11,12,13,14,15,17,16,18,19,20,21]))];have R:=S.1;have K:v.len=n:=by rw[(H.own 4 i4).len];omega
 refine⟨s,i4,v,(H.box 0 i4).cell i4,?_⟩;refine aq (λt:Nat×List Sl×List Sl×List (Sl×Row)=>(t.1:Int)) (λt h'=>t.1<=n/\aa B h0 h' (Told s f p v r O D N J I t.2.1 t.2.2.1 t.2.2.2++HA v j::As)/\lP pl t.2.2.2 t.2.1 t.2.2.1 (ku nd known V (W,M) t.1).1 (ku nd known V (W,M) t.1).2) (λt=>n-t.1) (0,g,d,pl) i4 ⟨i5,H,by rw[TE];exact X⟩ ?_;rintro⟨i,g,d,b⟩ Z ⟨hi,E,k⟩;dsimp only at*;have Y:(ku nd known V (W,M) i).1.length=n:=by simp[ku,A]
 have U:(ku nd known V (W,M) i).2.length=n:=by simp[ku,F]
 have Q:=k.way.1;have P:=k.more.1;refine ae (λe=>?_) (λe=>?_)
 ·have ad:i<n:=i5
  refine(E.seq 4 i4 λ_=>rfl).lr i i4 i5 ?_;have u:=hk i i5;refine aU (λw=>?_) (λw=>?_)
  ·have o:known.getD i eS=eR:=by rw[u]at w;simpa using w
   have q:=E.box 0 i4;refine⟨s,i4,J,q.cell i4,s,i4,I,q.cell i4,s,i4,D,show f8 Z (s.add 7)=_ from q.cell i4,?_⟩;refine E.Lg ag aB gp i6 0 i4 i4 nd nd (by rw[y]) (by rw[y]) (qk _) i5 λa h2 _ P2 G=>?_;have G:=G.aY;have m:=G.box 1 i4;refine⟨⟨show f8 h2 (s.add 7)=_ from m.cell i4,m.cell i4,m.cell i4,trivial⟩,?_⟩;refine G.set ag 2 i4 (λ_=>rfl) i4 i i4 i5 a i4 i4 i4 λh3 H3=>⟨trivial,?_⟩
   refine H3.set ag 3 i4 (λ_=>rfl) i4 i i4 i5 (j[i]'(by omega)) i4 i4 i4 λh4 H4=>⟨trivial,?_⟩
   have H5:=(H4.freeze 0 i4 λ_=>rfl).pool 4 0 i6 i4 i4;refine⟨(i+1,g.set i a,d.set i (j[i]'(by omega)),_),js,⟨i7,H5.aK 5 [1,2,3,4],?_⟩,i7⟩
   try dsimp only
   rw[WK nd known V (W,M) o];have hm:((j[i]'(by omega)),aA V i)∈pl:=by have:=S.get (i:=i) i5;rw[lX i5];exact this
   exact⟨λx z=>qz _ (k.sub x z),(k.way.mono λx z=>qz _ z).set i k8,(k.more.mono λx z=>qz _ z).set i (qz _ (k.sub _ hm))⟩
  ·have o:known.getD i eS=eS:=by rw[u]at w;simpa using w
   exact⟨(i+1,g,d,b),js,⟨i7,E,by dsimp only;rw[Zq nd known V (W,M) o];exact k⟩,i7⟩
 ·have L:i=n:=i5
  subst L;exact⟨i4,g,d,b,E,by rw[<-WJ nd known V (W,M) A F];exact k⟩
def mT(nd:Nat)(known:List Bool)(vals W M D:aI)(i:Nat):aI:=vals.mapIdx λc r=>if c<i/\known.getD c eS=eS then gG D (aA W c) (aA M c) nd else r
theorem WM(nd:Nat)(known:List Bool)(vals W M D:aI):mT nd known vals W M D 0=vals:=by unfold mT;refine wB jj λi b a=>?_;simp
theorem Zr(nd:Nat)(known:List Bool)(vals W M D:aI){n:Nat}(a:i0 vals=n):mT nd known vals W M D n=tH nd known vals W M D:=by
 unfold mT tH;refine wB jj λi a b=>?_;simp at a;simp only[List.getElem_mapIdx];cases hk:known.getD i eS
 ·rw[g0 ⟨i5,i4⟩,g9 jj]
 ·rw[g9 jj,g0 rfl]
theorem Zs(nd:Nat)(known:List Bool)(vals W M D:aI){i:Nat}(e:known.getD i eS=eR):mT nd known vals W M D (i+1)=mT nd known vals W M D i:=by
 have c:∀j,(j<i+1/\known.getD j eS=eS)↔(j<i/\known.getD j eS=eS):=λj=>by
  constructor
  ·rintro⟨a,b⟩;by_cases d:j=i
   ·subst d;rw[e]at b;cases b
   ·exact⟨i5,b⟩
  ·rintro⟨a,b⟩;exact⟨i5,b⟩
 unfold mT;simp only[c]
theorem acg(nd:Nat)(known:List Bool)(vals W M D:aI){i:Nat}(d:known.getD i eS=eS):mT nd known vals W M D (i+1)=(mT nd known vals W M D i).set i (gG D (aA W i) (aA M i) nd):=by
 unfold mT;refine wB jj λj f e=>?_;simp only[List.getElem_mapIdx,List.getElem_set];by_cases c:i=j
 ·subst c;rw[g0 ⟨i5,d⟩,g0 rfl]
 ·rw[g9 c];congr 1;simp only[eq_iff_iff];constructor<;>rintro⟨a,b⟩<;>exact⟨i5,b⟩
theorem WN(s f:f7)(p:Int×Int×Int)(v r Z T U P G dead:Sl)(g A z dr:List Sl)(pl:List (Sl×Row))(known:List Bool)(V W M D:aI)(n nd w:Nat)(H:aa B h0 h (Told s f p v r Z T U P G A z pl++HA v g::As))(hS:St B h0 As λh=>fG h f/\ib h (λb=>b<h.size) dead 1 aB D dr)(hn:n<=64)(hw:w<=2^20)(a4:nd<=64)(X:lP pl pl A z W M)(hV:gW pl id g V)(O:i0 V=n)(a9:i0 W=n)(bb:i0 M=n)
  (E:∀c,c<n->i0 (aA W c)=nd/\(aA M c).length=w) (a5:i0 D=nd) (R:aQ w D) (hk:∀(c:Nat) (l:c<i0 g),g[c].ptr.isNone=!(known.getD c eS)):
  ai xJ 220 #[xB (dB s),dead] h λv' h'=>v'=.tuple #[]/\∃L a,aa B h0 h' (Told s f p v r Z T U P G A z a++HA v L::As)/\gW a id L (tH nd known V W M D):=by
 refine ts Tryz.func220 ?_ (.two .n (.inn (.loop [(15,aT)] [(4,10),(15,80)] (.two .n (.two .n (.two (.inn (.two .n (.two .n (.two .n (.two (.two .n (.inn (.loop [(42,aT)] [(6,10),(42,72)] (.two .n (.two .n (.two (.inn (.two .n (.two .n (.inn (.loop [(52,aT)] [(8,10),(52,71)] .n))))) .n)))))) .n))))) .n))))));have a3:=hV.1;have am:v.len=n:=by rw[(H.own 4 i4).len];omega
 have a1:=X.way.1;have a0:=X.more.1;refine⟨s,i4,v,(H.box 0 i4).cell i4,?_⟩;refine aq (λt:Nat×List Sl×List (Sl×Row)=>(t.1:Int)) (λt h'=>t.1<=n/\aa B h0 h' (Told s f p v r Z T U P G A z t.2.2++HA v t.2.1::As)/\gW t.2.2 id t.2.1 (mT nd known V W M D t.1)/\(∀x∈pl,x∈t.2.2)/\∀(c:Nat) (l:c<i0 t.2.1),t.1<=c->t.2.1[c].ptr.isNone=!(known.getD c eS)) (λt=>n-t.1) (0,g,pl) i4 ⟨i5,H,by rw[WM];exact hV,λ_ h=>h,λc l _=>hk c l⟩ ?_;rintro⟨i,g,a⟩ h1 ⟨hi,y,S,d,q⟩;dsimp only at*;have a8:i0 (mT nd known V W M D i)=n:=by simp[mT,O]
 have a2:=S.1;refine ae (λe=>?_) (λe=>?_)
 ·have ah:i<n:=i5
  have Q:=y.box 0 i4;refine⟨s,i4,v,Q.cell i4,?_⟩;refine(y.seq 4 i4 λ_=>rfl).lr i i4 i5 ?_;have J:=q i i5 (qk _);refine aU (λK=>?_) (λK=>?_)
  ·have u:known.getD i eS=eR:=by rw[J]at K;simpa using K
   exact⟨(i+1,g,a),js,⟨i7,y,by dsimp only;rw[Zs nd known V W M D u];exact S,d,λc l h=>q c l (by dsimp only at h;omega)⟩,i7⟩
  have u:known.getD i eS=eS:=by rw[J]at K;simpa using K
  have ax:=E i ah;have ay:((z[i]'(by omega)),aA M i)∈a:=by have:=(X.more.mono d).get (i:=i) i5;rw[lX i5];exact this
  have F:((A[i]'(by omega)),aA W i)∈a:=by have:=(X.way.mono d).get (i:=i) i5;rw[lX i5];exact this
  refine⟨s,i4,G,Q.cell i4,?_⟩;refine(y.seq 2 i4 λ_=>rfl).lr i i4 i5 ?_;refine(eK _ (aA M i) h1 (y.HJ 3 i4 ay) i5).mono ?_;rintro _ h2 ⟨b,rfl,R2⟩;have Y:=y.bR R2;have al:=Y.box 1 i4;refine⟨b,i4,s,i4,P,al.cell i4,?_⟩;refine(Y.seq 2 i4 λ_=>rfl).lr i i4 i5 ?_;have ab:=(Y.HJ 4 i4 F).len;refine aq (λj:Nat=>(j:Int)) (λj h'=>j<=nd/\aa B h0 h' (RA b (gG D (aA W i) (aA M i) j)::(Told s f p v r Z T U P G A z a++HA v g::As))) (λj=>nd-j) 0 i4 ⟨i5,Y⟩ ?_;rintro j h3 ⟨hj,I⟩;refine ae (λe3=>?_) (λe3=>?_)
  ·have a7:j<nd:=i5
   have o:j<i0 (aA W i):=i5
   refine(I.HJ 4 i4 F).bo j i4 o _ i4 ?_;obtain⟨S1,S2⟩:=hS.at [_,_,_,_,_,_] I;have a6:=S2.len;refine S2.top.lr j i4 i5 ?_;have ap:i0 (D[j]'(by omega))=w:=R _ (qf _);have N:(aA W i)[j]'o=aJ (aA W i) j:=by rw[aJ,qd,qc o];rfl
   have ar:i0 (gG D (aA W i) (aA M i) j)=w:=lB _ ax.2 λk hk=>ce R;rw[N];refine DM s f (aJ (aA W i) j) (dr[j]'(by omega)) b (D[j]'(by omega)) _ I (St.mk' λh' H'=>?_) (by rw[ap,ar]) i5 λh4 H4=>?_
   ·obtain⟨q1,q2⟩:=hS.at [_,_,_,_,_] H';exact⟨(H'.box 0 i4).cell0 i4,q1,q2.row _ _ _ (qc _) (qc _)⟩
   ·refine⟨j+1,j0,⟨i5,?_⟩,i5⟩;rw[gG,lX (m:=D) (i:=j) i5];exact H4
  ·have ad:j=nd:=i5
   subst ad;refine⟨s,i4,v,(I.box 1 i4).cell i4,?_⟩;refine I.set ag 5 i4 (λ_=>rfl) i4 i i4 i5 b i4 i4 i4 λh4 H4=>?_;have H5:=(H4.freeze 0 i4 λ_=>rfl).pool 4 0 i6 i4 i4;refine⟨(i+1,g.set i b,_),js,⟨i7,H5.aK 6 [1,2,3,4,5],?_,λx hx=>qz _ (d x hx),λc l h=>?_⟩,i7⟩
   ·try dsimp only
    rw[acg j known V W M D u];exact(S.mono λx hx=>qz _ hx).set i jj
   ·dsimp only at l h⊢;rw[List.getElem_set_ne i5];exact q c (by simpa using l) i5
 ·have ao:i=n:=i5
  subst ao;exact⟨i4,g,a,y,by rw[<-Zr nd known V W M D O];exact S⟩
abbrev MA(s:Sl)(m:aI):HP:=gn 34 s 1 aB m
abbrev NR:iF Sl Row:=acX (cw 1 aB) λr _=>r.len<=r.cap
abbrev CA(s:Sl)(m:aI):HP:=ck 34 s 1 bi NR m
theorem aa.WO{e:Nat}{s:Sl}{l:Row}(H:aa B h0 h As)(i:Nat)(c:As[i]?=dB (an e s 1 aB l)):aa B h0 h (As.set i (EA NR s l)):=
 H.fM i c λ_ ⟨a,b⟩=>⟨a.seq (λ_=>rfl) b,a.cap⟩
theorem TF(s f:f7)(p:Int×Int×Int)(v r V J S Q O:Sl)(I G:List Sl)(pl:List (Sl×Row))(rr:List (Sl×Sl))(R:List fi)(ST:List (Int×Int))(D L:au)(W M:aI)(n nd w:Nat)(H:aa B h0 h (Told s f p v r V J S Q O I G pl++As))(hS:St B h0 As λh=>TB h f r V J S rr R ST D L)
  (hn:n=p.1.toNat+p.2.1.toNat) (hp:p.2.2=w) (hw:w<=2^20) (ar:bx p=eR) (bb:i0 D=nd) (a8:nd<=64) (hR:∀e∈R,iI n w e) (bd:∀e∈R,i0 e.1<=2^20) (hL:∀i∈L,0<=i/\i<(i0 R:Int)) (b7:i0 L<=2^20) (hT:lP pl pl I G W M) (cd:i0 W=n) (cf:i0 M=n)
  (o:∀c,c<n->i0 (aA W c)=nd/\(aA M c).length=w):
  ai xJ 218 #[xB (dB s)] h λv' h'=>∃a b:Sl,v'=.tuple #[a,b]/\aa B h0 h' (MA a (dq n nd R W L (bn p.1.toNat p.2.1.toNat))::CA b (fE n w R M L (bn p.1.toNat p.2.1.toNat))::(Told s f p v r V J S Q O I G pl++As)):=by
 refine ts Tryz.func218 ?_ (.two .n (.two .n (.two (.two .n (.inn (.loop [(2,cF),(3,cF),(29,aT)] [(2,4),(6,9),(10,11),(29,72)] (.two .n (.two .n (.two (.inn (.two .n (.two (.join [(7,cF),(8,cF)] [(7,9),(33,44)] .n) (.two (.two .n (.inn (.loop [(53,aT)] [(10,11),(53,63)] .n))) .n)))) .n)))))) (.two (.two .n (.inn (.loop [(2,cF),(3,cF),(78,aT)] [(2,4),(12,17),(78,113)] (.two .n (.two .n (.two (.inn (.two .n (.two (.join [(13,cF),(14,cF)] [(13,15),(82,90)] .n) (.two (.two .n (.inn (.loop [(92,aT)] [(15,17),(92,104)] .n))) .n)))) .n)))))) .n)))) [(5,(.y [0,2,3,4,5,6,7,8,9] (.l [1,10,11,12]) (.l [10,1,11,12]))),(16,(.y [0,2,3,4,5,6] (.l [1,8,7,9]) (.l [7,1,8,9])))];have hb:=H.box 0 i4;have Y:J.len=nd:=by rw[(hS.at [_,_,_,_] H).dead.len,bb]
 have b5:=(bN p).1 ar;have b2:=hT.way.1;have b1:=hT.more.1;refine⟨s,i4,J,show f8 h (s.add 7)=_ from hb.cell i4,s,i4,S,show f8 h (s.add 8)=_ from hb.cell i4,?_⟩;have b9:=(hS.at [_,_,_,_] H).left.len;have ap:∀{h':f9} {Cs:List HP},aa B h0 h' (Cs++(Told s f p v r V J S Q O I G pl++As))->aa B h0 h' (Told s f p v r V J S Q O I G pl++As):=λ{h' Cs} T=>T.take Cs.length λi A hi=>by
  rw[List.getElem?_append_right i5,Nat.add_sub_cancel_left];exact hi
 have SR:∀{h':f9},aa B h0 h' (Told s f p v r V J S Q O I G pl++As)->Ay h' s f Q O I G W M:=λT=>Ay.of (T.box 0 i4) (hS.at [_,_,_,_] T).field (T.Bw 1 3 i4 i4 hT.way) (T.Bw 2 3 i4 i4 hT.more);let rA:Int->Row:=λi=>cH W (aG nd) (R.getD i.toNat ([],[])).1;let rB:Int->Row:=λi=>cH M (R.getD i.toNat ([],[])).2 (R.getD i.toNat ([],[])).1;have H0:=((H.Co 34 1 bi NR).aY.GA 34 1 aB).aY;refine aq (λt:Nat×Sl×Sl=>(t.2.1,t.2.2,(t.1:Int))) (λt h'=>t.1<=i0 L/\aa B h0 h' (MA t.2.1 ((L.take t.1).map rA)::CA t.2.2 ((L.take t.1).map rB)::(Told s f p v r V J S Q O I G pl++As))) (λt=>i0 L-t.1) (0,⟨eH,0,0⟩,⟨eH,0,0⟩) i4 ⟨jj,H0⟩ ?_;rintro⟨i,a,b⟩ h1 ⟨hi,H1⟩;dsimp only at*;refine ae (λe=>?_) (λe=>?_)
 ·have u:i<i0 L:=i5
  have G1:=hS.at [_,_,_,_,_,_] H1;refine G1.left.bo i i4 u _ i4 ?_;have hx:=hL _ (qf u);generalize bs:L[i]=x at hx⊢;have F:x.toNat<i0 R:=i5
  obtain⟨d,ao⟩:∃d,d=R[x.toNat]:=⟨_,rfl⟩
  have er:R.getD x.toNat ([],[])=d:=by rw[qd,qc F,ao];rfl
  have al:=hR d (ao▸qf F);have ca:=bd d (ao▸qf F);have hF:=G1.rest.2.1;have a7:x.toNat<i0 rr:=by rw[hF];exact F
  obtain⟨y,hy⟩:∃y,y=rr[x.toNat]:=⟨_,rfl⟩
  have N:∀{h'},ng jX 2 qv h' r rr R->jX.p h' (λb=>b<h'.size) y d:=λhh=>by rw[hy,ao];exact Fix.row hh F
  refine bE (λt h'=>aa B h0 h' (RA t.1 (aG nd)::RA t.2 d.2::MA a ((L.take i).map rA)::CA b ((L.take i).map rB)::(Told s f p v r V J S Q O I G pl++As))) ?_ ?_
  ·have am:=H1.box 2 i4;refine⟨s,i4,r,am.cell i4,?_⟩;obtain⟨a6,ha,z,hc,rfl⟩:=G1.rest.1.dY (g:=qv) (i:=x) x.toNat i5 a7 y (by rw[hy]) (K:=λz=>z=y) rfl;refine⟨a6,ha,z.2,hc.2.1,?_⟩;have a3:bH.ok [(s.add 5,xA r.ptr r.len r.cap)] h1:=⟨am.cell i4,trivial⟩
   exact NQ (L:=[((a6.add (x.toNat*2)).add 1,xA z.2.ptr z.2.len z.2.cap),(s.add 5,xA r.ptr r.len r.cap)]) (L2:=[(s.add 5,xA r.ptr r.len r.cap)]) (K:=λa' b' h'=>bH.ok [(s.add 5,xA r.ptr r.len r.cap)] h'/\aa B h0 h' (RA a' (aG nd)::RA b' d.2::MA a ((L.take i).map rA)::CA b ((L.take i).map rB)::(Told s f p v r V J S Q O I G pl++As)))
    z.2 d.2 nd _ H1 (by rw[Y]) a8 (by rw[al.len];exact hw) ⟨hc.2.1,a3⟩ a3 (St.mk' λh' T=>(N (hS.at [_,_,_,_,_,_] T).rest).2) λa b h' P T=>⟨lh P a3,T⟩
  rintro⟨X,E⟩ h2 H2;dsimp only at H2;have G2:=hS.at [_,_,_,_,_,_,_,_] H2;refine⟨s,i4,r,(H2.box 4 i4).cell i4,?_⟩;obtain⟨bk,ha,z,hc,rfl⟩:=G2.rest.1.dY (g:=qv) (i:=x) x.toNat i5 a7 y (by rw[hy]) (K:=λz=>z=y) rfl;refine⟨bk,ha,z.1,hc.1,?_⟩;have bl:=(N G2.rest).1.len;refine aq (λj:Nat=>(j:Int)) (λj h'=>j<=i0 d.1/\aa B h0 h' (RA X (cH W (aG nd) (d.1.take j))::RA E (cH M d.2 (d.1.take j))::MA a ((L.take i).map rA)::CA b ((L.take i).map rB)::(Told s f p v r V J S Q O I G pl++As))) (λj=>i0 d.1-j) 0 i4 ⟨i5,by simpa[cH]using H2⟩ ?_;rintro j h3 ⟨hj,H3⟩;have told:∀c∈d.1.take j,i0 (aA W c.toNat)=nd/\(aA M c.toNat).length=w:=λc hc=>by
   have b4:=al.cM c (zN hc);exact o c.toNat i5
  have Z:i0 (cH W (aG nd) (d.1.take j))=nd:=jL k8 λc hc=>(told c hc).1;have ad:i0 (cH M d.2 (d.1.take j))=w:=jL al.len λc hc=>(told c hc).2;refine ae (λe2=>?_) (λe2=>?_)
  ·have ab:j<i0 d.1:=i5
   have br:=al.cM _ (qf ab);refine(N (hS.at [_,_,_,_,_,_,_,_] H3).rest).1.bo j i4 ab _ i4 ?_;have tc:=o d.1[j].toNat i5;refine(DN s f 1 d.1[j] X E Q O _ _ I G W M H3 (St.mk' λh' T=>SR (ap (Cs:=[_,_]) T)) br.1 i5 i5 (by rw[tc.1,Z]) (by rw[tc.2,ad]) i5 i5).mono ?_;rintro _ h4 ⟨rfl,U⟩;exact⟨(),i4,j+1,j0,⟨i5,by rw[aD _ _ ab,rE,rE];exact U⟩,i5⟩
  ·have ay:j=i0 d.1:=i5
   subst ay;rw[qU]at H3;have U:=aa.WO (H3.freeze 0 i4 λ_=>rfl) 1 i4;refine U.sK ag 2 0 i6 i4 i4 fu i9 λa' h5 H5=>?_;refine H5.pQ ag 3 1 i6 i4 i4 fu i4 i6 (λ_=>rfl) jG i4 i6 i9 λb' h6 H6=>?_;refine⟨(i+1,a',b'),js,⟨i7,?_⟩,i7⟩
   try dsimp only
   rw[aD _ _ u,qT,qT,bs];have e3:[x].map rA=[cH W (aG nd) d.1]:=by simp only[wm,vR,rA,er]
   have e4:[x].map rB=[cH M d.2 d.1]:=by simp only[wm,vR,rB,er]
   rw[e3,e4];exact H6.aK 8 [2,3,4,5,6,7]
 have a1:i=i0 L:=i5
 subst a1;rw[qU]at H1;have am:=H1.box 2 i4;refine⟨s,i4,p,am.cells 1 _ i4,(rT p h1).mono ?_⟩;rintro _ h2 ⟨q,rfl,R2⟩;rw[ar,g0 rfl]at R2;obtain⟨m,a4⟩:∃m,m=bn p.1.toNat p.2.1.toNat:=⟨_,rfl⟩
 have b3:i0 m=p.2.1.toNat:=by rw[a4];simp[bn]
 have a5:∀x∈m,i0 x=n:=λx hx=>by rw[hn];exact GL _ _ x (a4▸hx)
 rw[<-a4]at R2⊢;have H2:=(H1.bR R2).Lf 0 i4;obtain⟨qr,H2⟩:=H2.IB 0 rfl λ_=>rfl;have cc:=(H2.eu 0 i4).1.len;have b6:=(H2.eu 0 i4).2.1;refine⟨q,i4,?_⟩;let ax:Row->Row:=λx=>gG W x (aG nd) n;let a0:Row->Row:=λx=>gG M x (aG w) n;refine aq (λt:Nat×Sl×Sl=>(t.2.1,t.2.2,(t.1:Int))) (λt h'=>t.1<=i0 m/\aa B h0 h' (cJ (cw 1 aB) 1 bi q qr m::MA t.2.1 (L.map rA++(m.take t.1).map ax)::CA t.2.2 (L.map rB++(m.take t.1).map a0)::(Told s f p v r V J S Q O I G pl++As))) (λt=>i0 m-t.1) (0,a,b) i4 ⟨jj,by simpa using H2⟩ ?_;rintro⟨i,a,b⟩ h3 ⟨hi,H3⟩;dsimp only at*;refine ae (λe=>?_) (λe=>?_)
 ·have u:i<i0 m:=i5
  have b0:=a5 _ (qf u);have F3:=H3.eu 0 i4;refine F3.1.lr i i4 i5 ?_;have bl:(qr[i]'(by omega)).len=n:=by rw[(Fix.row F3 u).len,b0]
  refine bE (λt h'=>aa B h0 h' (RA t.1 (aG nd)::RA t.2 (aG w)::cJ (cw 1 aB) 1 bi q qr m::MA a (L.map rA++(m.take i).map ax)::CA b (L.map rB++(m.take i).map a0)::(Told s f p v r V J S Q O I G pl++As))) ?_ ?_
  ·have bq:=H3.box 3 i4;refine⟨s,i4,p.2.2,show f8 h3 (s.add 3)=_ from bq.cell i4,?_,?_⟩
   ·refine H3.make ag aB gp i6 0 i4 i4 nd nd (by rw[Y]) (by rw[Y]) (qk _) i5 λx h4 _ _ U=>?_;have U:=U.aY;refine⟨⟨show f8 h4 (s.add 3)=_ from(U.box 4 i4).cell i4,trivial⟩,?_⟩;refine U.make ag aB gp i6 0 i4 i4 w w hp hp (qk _) i5 λy h5 _ _ H5=>⟨trivial,H5.aY.nf⟩
   ·refine H3.make ag aB gp i6 0 i4 i4 w w hp hp (qk _) i5 λy h4 _ _ U=>⟨trivial,?_⟩
    refine U.aY.make ag aB gp i6 0 i4 i4 nd nd (by rw[Y]) (by rw[Y]) (qk _) i5 λx h5 _ _ H5=>⟨trivial,H5.aY⟩
  rintro⟨X,E⟩ h4 U;dsimp only at U⊢;refine aq (λj:Nat=>(j:Int)) (λj h'=>j<=n/\aa B h0 h' (RA X (gG W m[i] (aG nd) j)::RA E (gG M m[i] (aG w) j)::cJ (cw 1 aB) 1 bi q qr m::MA a (L.map rA++(m.take i).map ax)::CA b (L.map rB++(m.take i).map a0)::(Told s f p v r V J S Q O I G pl++As))) (λj=>n-j) 0 i4 ⟨i5,U⟩ ?_;rintro j h5 ⟨hj,H5⟩;have Z:i0 (gG W m[i] (aG nd) j)=nd:=lB _ k8 λk hk=>(o k i5).1;have ad:i0 (gG M m[i] (aG w) j)=w:=lB _ k8 λk hk=>(o k i5).2;refine ae (λe2=>?_) (λe2=>?_)
  ·have ab:j<n:=i5
   have a2:j<m[i].length:=i5
   refine(Fix.row (H5.eu 2 i4) u).bo j i4 a2 _ i4 ?_;have a9:m[i][j]'a2=aJ m[i] j:=by rw[aJ,qd,qc a2];rfl
   rw[a9];have tc:=o j ab;refine(DN s f (aJ m[i] j) (j:Int) X E Q O _ _ I G W M H5 (St.mk' λh' T=>SR (ap (Cs:=[_,_,_]) T)) i5 i5 i5 (by rw[qj,tc.1,Z]) (by rw[qj,tc.2,ad]) i5 i5).mono ?_;rintro _ h6 ⟨rfl,H6⟩;rw[qj]at H6;exact⟨(),i4,j+1,j0,⟨i5,H6⟩,i5⟩
  ·have ay:j=n:=i5
   subst ay;have H6:=aa.WO (H5.freeze 0 i4 λ_=>rfl) 1 i4;refine H6.sK ag 3 0 i6 i4 i4 fu i9 λa' h7 H7=>?_;refine H7.pQ ag 4 1 i6 i4 i4 fu i4 i6 (λ_=>rfl) jG i4 i6 i9 λb' h8 H8=>?_;refine⟨(i+1,a',b'),js,⟨i7,?_⟩,i7⟩
   try dsimp only
   rw[aD _ _ u,qT,qT,<-qn,<-qn];exact H8.aK 9 [2,3,4,5,6,7,8]
 ·have a1:i=i0 m:=i5
  subst a1;rw[qU]at H3;exact⟨a,b,i4,H3.rest⟩
end Go.Qw
