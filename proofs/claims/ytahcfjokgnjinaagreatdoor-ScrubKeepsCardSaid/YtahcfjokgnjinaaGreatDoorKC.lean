/- Lemmas for the proof of the law; no condition. -/
import Derived.Test.YtahcfjokgnjinaaGreatDoorKB
set_option linter.unusedVariables false
set_option maxHeartbeats 4000000
set_option linter.unusedSimpArgs false
open Go.Proofs.Tryz renaming prog -> xD
open Go.Value renaming agg -> xy, bool -> xx, int -> xt, pointer -> xv, slice -> xu, string -> xw
open Go.IntKind renaming bits -> qk, i64 -> xz, u32 -> xB, u8 -> xA, wrap -> qc
open List renaming drop -> xr, drop_length -> yK, eq_replicate_iff -> vT, map_set -> vO, range' -> zR, replicate -> qh, replicate_zero -> vz, zipWith -> zm
open Nat renaming le_of_ble_eq_true -> zN
open Prod renaming fst -> qK
open Option renaming some -> zP
open Bool renaming and_eq_false_iff -> vl, eq_iff_iff -> vF
open Go.Instr renaming makeSlice -> qG, storeAt -> qf
open BitVec renaming ofInt -> qE
set_option maxRecDepth 100000
open Option renaming some -> dB, none -> eH
open Bool renaming true -> eR, false -> eS
open Go renaming Addr -> eY
open Go.Vc renaming cellOf -> f7, Heap -> f8
open List renaming length -> ii
namespace Go.Qw
open Go Go.Vc Go.Proofs Wl
variable {B:aA} {h0 h:f8} {As:List HP} {a pw b:eY} {mc:ba} {offs:Int} {da:List bm} {w:Pow} {ds:aE} {d:bj}
theorem ra{p:aA}(s:Sl)(l:aw)(x:Int)(h:f8)(f:Seq h p s 1 ak l)(n:ii l<=2^40:=by omega):aq xD 50 #[s,xt xz x] h λv h'=>v=xx (decide (x∈l))/\h'=h:=by
 refine lG s x ?_;refine(mT s x (R:=λv h'=>(∃i:Int,v=xt xz i/\(decide (i>=0)=decide (x∈l)))/\h'=h) ?_).mono ?_
 ·skip
  have j:=f.len;refine av (λi:Nat=>(i:Int)) (λi h'=>i<=ii l/\x∉l.take i/\h'=h) (λi=>ii l-i) 0 i0 ⟨i4,i9,i0⟩ ?_;rintro i m ⟨g,b,rfl⟩;refine ac (λd=>?_) (λd=>?_)
  ·have a:i<ii l:=by have k:(i:Int)<(s.len:Int):=d;omega
   refine f.bD i i0 a l[i] i0 ?_;refine cy (λe=>⟨⟨i,i0,?_⟩,i0⟩) (λe=>?_)
   ·rw[g9 (show(i:Int)>=0 by omega),g9 (by rw[e];exact qg a)]
   ·refine⟨i+1,js,⟨i4,λc=>?_,i0⟩,i4⟩;rw[aH _ _ a]at c;rcases qA.1 c with c|c
    ·exact b c
    ·exact e (qB.1 c)
  ·have k:¬(i:Int)<(s.len:Int):=d;rw[qi i4]at b;exact⟨⟨-1,i0,o6⟩,i0⟩
 ·rintro _ m ⟨⟨i,rfl,g⟩,rfl⟩;exact⟨i,i0,by rw[g],i0⟩
theorem Fh(H:aa B h0 h (bh bw a pw mc offs da w ds::As)):aq xD 93 #[xv (dB a)] h λv h'=>v=xx (fd w offs)/\h'=h:=by refine Nr (dB a) ?_;refine bA (λe=>j0) λ_=>(pV H).mono ?_;rintro _ _ ⟨rfl,rfl⟩;exact⟨_,i0,i0,i0⟩
def Lz(slot cells:Int):Bool:=decide ((0<=slot/\slot<64)/\1<=cells/\cells<=512)
theorem SK(slot cells:Int)(h:f8):aq xD 94 #[xt xz slot,xt xz cells] h λv h'=>v=xx (Lz slot cells)/\h'=h:=by
 refine Jc slot cells ?_;unfold Lz;refine ac (λa=>ac (λc=>ac (λb=>⟨?_,i0⟩) λb=>⟨?_,i0⟩) λc=>⟨?_,i0⟩) λa=>⟨?_,i0⟩
 ·congr 1;rw[decide_eq_decide];omega
 all_goals (rw[hU i4])
theorem YJ(n:Nat)(i:n<64)(x:bX)(H:aa B h0 h (iU pw b d::bh bw a pw (aS x) offs da w ds::As)):
  aq xD 95 #[xv (dB a),xt xz n,xv (dB b)] h λv h'=>v=.tuple #[]/\aa B h0 h' (bh bw a pw (aS x) offs (da.set n (dB b)) w (ds.set n (dB d))::As):=by
 refine pC (dB a) n (dB b) ?_;refine bA (λ_=>?_) λe=>j0
 refine ac (λ_=>ac (λ_=>?_) λe=>absurd (show(n:Int)<64 by omega) e) λe=>absurd (show(n:Int)>=0 by omega) e;refine⟨a,i0,⟨i4,i4⟩,?_⟩;rw[ql,z8];have g:aa B h0 h (bh bw a pw (aS x) offs da w ds::iU pw b d::As):=H.aT 2 [1,0];obtain⟨ok,f⟩:=Go.Vc.aa.oc g;have j:(a.add 10).add n=a.add (10+n):=by unfold Addr.add;simp[w5]
 rw[j];refine f.storeAt an 0 i0 i0 i0 i0 i0 (by simp[ok.la];omega) λh' c=>?_;rw[zw,Mr ok.l8]at c;exact⟨i0,aa.abm ok i c⟩
theorem QH(slot:Int)(x:bX)(m:aC)(k:dH h x m)(d:dh m)(H:aa B h0 h (bh bw a pw (aS x) offs da w ds::As))(b:fd w offs=eR∨slot∉aQ ds m.drives):
  aq xD 45 #[xv (dB a),xt xz slot] h λv h'=>v=xt xz (if fd w offs then 14 else 5)/\Sp h h' []:=by
 refine AY (dB a) slot ?_;have g:=d.dr;refine(Fh H).mono ?_;rintro _ l ⟨rfl,rfl⟩;refine⟨_,i0,bA (λe=>⟨o1,Sp.refl _⟩) λe=>?_⟩;refine(gg x m k d H).mono ?_;rintro _ i ⟨r,rfl,f⟩;have j:ii (aQ ds m.drives)<=ii m.drives:=qT _ _;refine⟨r,i0,(ra r _ slot i (f.seq 0 i0 λ_=>rfl)).mono ?_⟩;rintro _ h3 ⟨rfl,rfl⟩;refine⟨_,i0,bi (λc=>⟨o1,.zip f.ag⟩) λc=>?_⟩;rcases b with b|b
 ·rw[e]at b;cases b
 ·exact absurd (hZ c) b
theorem VM(H:aa B h0 h (iU pw b d::As)):aq xD 103 #[xv (dB b)] h λv h'=>v=.tuple #[]/\aa B h0 h' (iU pw b d.BM::As):=by
 refine Cp (dB b) ?_;obtain⟨ok,s,l,c⟩:=H.oX;refine bA (λ_=>?_) λe=>j0
 refine⟨b,i0,c.store an 0 i0 i0 6 [xx eR] i0 i0 i0 ln λm a=>?_⟩;refine⟨b,i0,a.store an 0 i0 i0 2 [xu eH 0 0] i0 i0 i0 ln λh3 g=>?_⟩;refine⟨b,i0,g.store an 0 i0 i0 3 [xt xz 0] i0 i0 i0 ln λn j=>?_⟩;refine⟨b,i0,j.store an 0 i0 i0 4 [xu eH 0 0] i0 i0 i0 ln λk f=>?_⟩;refine⟨b,i0,f.store an 0 i0 i0 5 [xx eS] i0 i0 i0 ln λo i=>⟨i0,?_⟩⟩;refine aa.ut (s:=⟨eH,0,0⟩) (b:=⟨eH,0,0⟩) ⟨qm _,zo _,ok.room,by simp[bj.BM],zo _,by simp[bj.BM]⟩ ?_;exact((i.Aj 71 5 1 aD).Aj 71 5 1 aD).aT 5 [2,0,1]
theorem SL(n:Nat)(x:bX)(m:aC)(E:dH h x m)(i:dh m)(H:aa B h0 h (bh bw a pw (aS x) offs da w ds::As))(t:fd w offs=eS)(A:(n:Int)∈aQ ds m.drives)(D:ds[n]?=dB (dB d)):
  aq xD 45 #[xv (dB a),xt xz n] h λv h'=>v=xt xz 0/\aa B h0 h' (bh bw a pw (aS x) offs da w (ds.set n (dB d.BM))::As):=by
 refine AY (dB a) n ?_;have q:=i.dr;refine(Fh H).mono ?_;rintro _ G ⟨rfl,rfl⟩;refine⟨_,i0,bA (λe=>by rw[t]at e;cases e) λe=>?_⟩;refine(gg x m E i H).mono ?_;rintro _ u ⟨r,rfl,l⟩;have z:ii (aQ ds m.drives)<=ii m.drives:=qT _ _;refine⟨r,i0,(ra r _ (n:Int) u (l.seq 0 i0 λ_=>rfl)).mono ?_⟩;rintro _ h3 ⟨rfl,rfl⟩;refine⟨_,i0,bi (λf=>absurd A (of_decide_eq_false f)) λf=>?_⟩;have g:=H.up l.ag;obtain⟨ok,o⟩:=aa.dl g;refine(mj (n:Int) ok o).mono ?_;rintro _ F ⟨rfl,rfl⟩;obtain⟨b,c,p⟩:=Go.Vc.aa.jA g D;have j:n<64:=by have:=(qn.1 c).1;rw[ok.la]at this;exact this
 have y:ib da (n:Int)=dB b:=by unfold ib;rw[f9 i4,ql,c];rfl
 rw[y];refine⟨_,i0,(VM p).mono ?_⟩;rintro _ I ⟨rfl,s⟩;exact⟨(),i0,i0,Go.Vc.aa.pU (k:=bw) (n:=n) c s⟩
end Go.Qw
namespace Go.Vc
open Go Wl
variable {k:Kit} {B:aA} {h0 h:f8} {As:List HP} {a pw b:eY} {mc:ba} {offs:Int} {da:List bm} {w:Pow} {ds:aE} {d:bj} {n:Nat}
theorem VN(h8:ii mc=8):(cQ mc pw offs da).set (10+n) (xv eH)=cQ mc pw offs (da.set n eH):=by unfold cQ;rw[qX _ _ i4,h8,show 10+n-8=n+1+1 by omega,zA,zA,vO]
theorem aa.abn(ok:gm mc da ds)(q:n<64)(H:aa B h0 h (al a k.tS (cQ mc pw offs (da.set n eH))::dv k.tP pw w::(gf k pw da ds++As))):aa B h0 h (bh k a pw mc offs (da.set n eH) w (ds.set n eH)::As):=by
 have o:=ok.la;have g:=ok.ls;have l:gm mc (da.set n eH) (ds.set n eH):=⟨ok.l8,by simp[o],mn,λi=>by
  by_cases c:n=i
  ·subst c;rw[qe,qe,zj i4,zj i4];rfl
  ·have:=ok.same i;rw[qe,qe]at this⊢;rw[zC c,zC c];exact this⟩
 have m:=CC (k:=k) (pw:=pw) ok;have d:gf k pw (da.set n eH) (ds.set n eH)=(gf k pw da ds).set n emp:=by
  apply List.ext_getElem?;intro j;simp only[gf,zb,List.getElem?_zipWith,List.length_zipWith];by_cases e:n=j
  ·subst e;rw[f9 i0,f9 i4,f9 i0,f9 i4,f9 i0,f9 i4];rfl
  ·simp[e]
 refine aa.ou l ?_;rw[d];obtain⟨L,f⟩:∃L,L=gf k pw da ds:=⟨_,rfl⟩
 rw[<-f]at H m⊢;have b:n<ii L:=i4
 have H:=H.gb (n+2) (A:=L[n]) (D:=emp) (by rw[qy,qy,qo b,qd b]) λ_ _=>trivial;have p:(al a k.tS (cQ mc pw offs (da.set n eH))::dv k.tP pw w::(L++As)).set (n+2) emp=al a k.tS (cQ mc pw offs (da.set n eH))::dv k.tP pw w::(L.set n emp++As):=by rw[zA,zA,List.set_append_left _ _ b]
 rw[p]at H;exact H
end Go.Vc
namespace Go.Qw
open Go Go.Vc Go.Proofs Wl
def Gj(m:aC)(l:aw):aC:={m with seq:=m.seq+1,drives:=l}
def lB(m:aC)(offs:Int)(w:Pow)(ds:aE)(slot cells:Int):Int×aC×Pow×aE:=
 if fd w offs then(14,m,w,ds)else if Lz slot cells=eS then(1,m,w,ds)else if slot∈m.drives then(4,m,w,ds)else if m.seq>=2147483647 then(7,m,w,ds)else
 let r:=dc m offs w (ds.set slot.toNat (dB (bj.new cells.toNat))) (Gj m (ja (m.drives++[slot])))
 (r.1,r.2.1,r.2.2.1,if r.1=7 then r.2.2.2.set slot.toNat eH else r.2.2.2)
variable {B:aA} {h0 h:f8} {As:List HP} {a pw b:eY} {offs:Int} {da:List bm} {w:Pow} {ds:aE} {d:bj}
theorem QI(n:Nat)(d:n<64)(x:bX)(H:aa B h0 h (bh bw a pw (aS x) offs da w ds::As)):
  aq xD 95 #[xv (dB a),xt xz n,xv eH] h λv h'=>v=.tuple #[]/\aa B h0 h' (bh bw a pw (aS x) offs (da.set n eH) w (ds.set n eH)::As):=by
 refine pC (dB a) n eH ?_;refine bA (λ_=>?_) λe=>j0
 refine ac (λ_=>ac (λ_=>?_) λe=>absurd (show(n:Int)<64 by omega) e) λe=>absurd (show(n:Int)>=0 by omega) e;refine⟨a,i0,⟨i4,i4⟩,?_⟩;rw[ql,z8];obtain⟨ok,c⟩:=Go.Vc.aa.oc H;have f:(a.add 10).add n=a.add (10+n):=by unfold Addr.add;simp[w5]
 rw[f];refine c.storeAt an 0 i0 i0 i0 i0 i0 (by simp[ok.la];omega) λh' b=>?_;rw[zw,VN ok.l8]at b;exact⟨i0,aa.abn ok d b⟩
theorem JU(x:bX)(m:aC)(q:dH h x m)(k:dh m)(H:aa B h0 h (bh bw a pw (aS x) offs da w ds::As)):
  aq xD 8 #[xv (dB a)] h λv h'=>∃(y:bX) (L:List (dV×Wl.cz)) (pool:List (Sl×aw)),v=fT y/\(y.1=m.seq/\y.2.1=m.next/\(y.2.2.1,y.2.2.2.1,y.2.2.2.2.1)=m.p/\y.2.2.2.2.2.1=m.extra)/\L.map Prod.snd=m.aF/\(∀p∈L,Cy pool p)/\
   Sp h h' [dM 1 ak pool,ae 3 y.2.2.2.2.2.2.1 1 ak m.drives,ae 94 y.2.2.2.2.2.2.2 4 bE (L.map qK)]:=by
 refine mR (dB a) ?_;obtain⟨ok,d⟩:=aa.dl H;refine(Sp.refl h).alloc an i0 λs o b=>?_;have c:=d.ag b.ag d.lt;refine bA (λe=>j0) λ_=>⟨a,i0,x,c.aP _ i0,(np x m o (q.up b.ag) k).mono ?_⟩;rintro _ r ⟨y,L,pool,rfl,l,j,i,n⟩;have g:=b.comp n;refine⟨y,i0,?_⟩;refine g.store an 0 i0 i0 0 (aS y) i0 i0 i0 j7 λh3 f=>?_;exact⟨y,(f.box 0 i0).aP _ i0,y,L,pool,i0,l,j,i,f.cu [1,2,3]⟩
theorem YK(slot cells:Int)(x:bX)(m:aC)(V:bL m=eR)(H:aa B h0 h (bh bw a pw (aS x) offs da w ds::bS x m::As)):
  aq xD 37 #[xv (dB a),xt xz slot,xt xz cells] h λv h'=>v=xt xz (lB m offs w ds slot cells).1/\
   ∃y R,aa B h0 h' (bh bw a pw (aS y) offs R (lB m offs w ds slot cells).2.2.1 (lB m offs w ds slot cells).2.2.2::bS y (lB m offs w ds slot cells).2.1::As):=by
 refine Nl (dB a) slot cells ?_;have N:=kl V;have ad:=jy V;obtain⟨g1,g2,g3,g4⟩:=(fy m).1 ((cx m).1 V).1;refine(Fh H).mono ?_;rintro _ h1 ⟨rfl,rfl⟩;refine⟨_,i0,bA (λe=>?_) λK=>?_⟩
 ·have j:lB m offs w ds slot cells=(14,m,w,ds):=by unfold lB;rw[f9 e]
  rw[j];exact⟨i0,x,da,H⟩
 refine(JU x m (H.at 1 i0) N H).mono ?_;rintro _ h2 ⟨y,L,pool,rfl,z,T,hL,R2⟩;have H2:=(H.comp R2).front;refine⟨y,i0,H2.alloc an i0 λa3 h3 Z=>?_⟩;have Z:=Z.bv;refine Z.storeAll an 0 i0 i0 (aS y) i0 i0 i0 i0 λh4 l=>?_;have l:aa B h0 h4 (al a3 29 (aS y)::dM 1 ak pool::ae 3 y.2.2.2.2.2.2.1 1 ak m.drives::ae 94 y.2.2.2.2.2.2.2 4 bE (L.map qK)::bh bw a pw (aS x) offs da w ds::bS x m::As):=l;refine(SK slot cells h4).mono ?_;rintro _ h5 ⟨rfl,rfl⟩;refine⟨_,i0,bi (λA=>?_) λA=>?_⟩
 ·have j:lB m offs w ds slot cells=(1,m,w,ds):=by unfold lB;rw[g0 m5,f9 A]
  rw[j];exact⟨i0,x,da,l.aT 6 [4,5]⟩
 refine⟨y.2.2.2.2.2.2.1,(l.box 0 i0).cell i0,(ra _ m.drives slot h5 (l.seq 2 i0 λ_=>rfl)).mono ?_⟩;rintro _ h6 ⟨rfl,rfl⟩;refine⟨_,i0,bA (λU=>?_) λU=>?_⟩
 ·have j:lB m offs w ds slot cells=(4,m,w,ds):=by unfold lB;rw[g0 m5,g0 (by rw[A];decide),f9 (hZ U)]
  rw[j];exact⟨i0,x,da,l.aT 6 [4,5]⟩
 have p:slot∉m.drives:=of_decide_eq_false U;refine⟨y.1,(l.box 0 i0).cell0 i0,ac (λE=>?_) λE=>?_⟩
 ·rw[z.1]at E;have j:lB m offs w ds slot cells=(7,m,w,ds):=by unfold lB;rw[g0 m5,g0 (by rw[A];decide),g0 p,f9 E]
  rw[j];exact⟨i0,x,da,l.aT 6 [4,5]⟩
 rw[z.1]at E;have D:=hZ A;obtain⟨n,hn⟩:∃n:Nat,slot=n:=⟨slot.toNat,i4⟩
 have s:n<64:=i4
 have H5:aa B h0 h6 (bh bw a pw (aS x) offs da w ds::al a3 29 (aS y)::dM 1 ak pool::ae 3 y.2.2.2.2.2.2.1 1 ak m.drives::ae 94 y.2.2.2.2.2.2.2 4 bE (L.map qK)::bS x m::As):=l.aT 6 [4,0,1,2,3,5];refine(ND H5).mono ?_;rintro _ h7 ⟨rfl,rfl⟩;refine⟨_,i0,(Ju cells pw h7).mono ?_⟩;rintro _ h8 ⟨Q1,_⟩;obtain⟨b,rfl,R8⟩:=Q1 ⟨D.2.1,D.2.2⟩;have H8:=H5.cj R8;subst hn;refine⟨_,i0,(YJ n s x H8).mono ?_⟩;rintro _ h9 ⟨rfl,I⟩;obtain⟨c,q⟩:∃c,c=ds.set n (dB (bj.new cells.toNat)):=⟨_,rfl⟩
 rw[<-q]at I;have I:aa B h0 h9 (al a3 29 (aS y)::ae 3 y.2.2.2.2.2.2.1 1 ak m.drives::dM 1 ak pool::ae 94 y.2.2.2.2.2.2.2 4 bE (L.map qK)::bh bw a pw (aS x) offs (da.set n (dB b)) w c::bS x m::As):=I.aT 6 [1,3,2,4,0,5];refine⟨(),i0,y.1,(I.box 0 i0).cell0 i0,?_⟩;dsimp only;rw[z.1,af (m.seq+1)];refine I.jJ an 0 i0 i0 [xt xz (m.seq+1)] i0 i0 i0 j7 λW k=>?_;have k:aa B h0 W (al a3 29 (xt xz (m.seq+1)::(aS y).drop 1)::ae 3 y.2.2.2.2.2.2.1 1 ak m.drives::dM 1 ak pool::ae 94 y.2.2.2.2.2.2.2 4 bE (L.map qK)::bh bw a pw (aS x) offs (da.set n (dB b)) w c::bS x m::As):=k;refine⟨_,(k.box 0 i0).cell i0,?_⟩;refine k.push an 1 i0 fS i0 i5 (λ_=>rfl) eJ (n:Int) i0 i5 i4 λo ah X=>?_;refine X.store an 0 i0 i0 6 [o] i0 i0 i0 j7 λF f=>?_;obtain⟨d,i⟩:∃d:bX,d=(m.seq+1,y.2.1,y.2.2.1,y.2.2.2.1,y.2.2.2.2.1,y.2.2.2.2.2.1,o,y.2.2.2.2.2.2.2):=⟨_,rfl⟩
 have ed:d.2.2.2.2.2.2.1=o:=by rw[i]
 have eo:d.2.2.2.2.2.2.2=y.2.2.2.2.2.2.2:=by rw[i]
 have f:aa B h0 F (al a3 29 (aS d)::ae 3 d.2.2.2.2.2.2.1 1 ak (m.drives++[(n:Int)])::dM 1 ak pool::ae 94 d.2.2.2.2.2.2.2 4 bE (L.map qK)::bh bw a pw (aS x) offs (da.set n (dB b)) w c::bS x m::As):=by rw[ed,eo,i];exact f
 refine⟨_,(f.box 0 i0).cell i0,(EL d.2.2.2.2.2.2.1 (m.drives++[(n:Int)]) F (f.own 1 i0) i7).mono ?_⟩;rintro _ G ⟨rfl,P,Y⟩;have g:=f.nc 1 i0 Y P;obtain⟨dr,t⟩:∃dr,dr=ja (m.drives++[(n:Int)]):=⟨_,rfl⟩
 rw[<-t]at g;have g:aa B h0 G (al a3 29 (aS d)::ae 3 d.2.2.2.2.2.2.1 1 ak dr::dM 1 ak pool::ae 94 d.2.2.2.2.2.2.2 4 bE (L.map qK)::bh bw a pw (aS x) offs (da.set n (dB b)) w c::bS x m::As):=g;refine⟨(),i0,d,(g.box 0 i0).aP _ i0,?_⟩;obtain⟨M,J⟩:∃M,M=Gj m dr:=⟨_,rfl⟩
 have ab:aa B h0 G (bS d M::bh bw a pw (aS x) offs (da.set n (dB b)) w c::bS x m::As):=aa.Cz (m:=M) (L:=L) (pool:=pool) (by rw[J,i];exact⟨i0,z.2.1,z.2.2.1,z.2.2.2⟩) (by rw[J];exact T) hL (by rw[J];exact g.aT 6 [2,1,3,4,5]);have S:dh M:=by rw[J];exact⟨by show dr.length<=_;rw[t,DY];simp;omega,N.ob,N.nm⟩
 refine(GS x m d M (As:=bS d M::As) (St.dS 0 i0 λ_ hq=>hq) N S i4 (ab.aT 3 [1,2,0])).mono ?_;rintro _ ao ⟨rfl,O,u⟩;have j:lB m offs w ds n cells=((dc m offs w c M).1,(dc m offs w c M).2.1,(dc m offs w c M).2.2.1,if(dc m offs w c M).1=7 then(dc m offs w c M).2.2.2.set n eH else(dc m offs w c M).2.2.2):=by unfold lB;rw[g0 m5,g0 (by rw[A];decide),g0 p,g0 E,J,t,q];rfl
 rw[j];obtain⟨r,hr⟩:∃r,r=dc m offs w c M:=⟨_,rfl⟩
 rw[<-hr]at u⊢;refine⟨_,i0,bc (cy (λe7=>?_) λe7=>?_)⟩
 ·refine(QI n s O (u.aT 3 [0,1])).mono ?_;rintro _ am ⟨rfl,Q⟩;exact⟨(),i0,i0,O,_,by rw[f9 e7];exact Q⟩
 ·exact⟨i0,O,_,by rw[g0 e7];exact u.aT 3 [0,1]⟩
variable {mc:ba}
theorem QJ{k:Int}{d:bj}(e:aX ds k=dB d)(H:aa B h0 h (bh bw a pw mc offs da w ds::As)):∃(b:eY) (s g:Sl),ib da k=dB b/\cw h b 119 (fz pw d s g)/\fW h s 1 aD d.l/\iP d:=by
 obtain⟨ok,_⟩:=aa.dl H;rcases mU ok k with⟨h1,_⟩|⟨n,d',b,rfl,hn,h1,h2,h3,h4⟩
 ·rw[h1]at e;cases e
 ·rw[h2]at e;injection e with e
  subst e;obtain⟨m,c,j⟩:=Go.Vc.aa.jA H h1;rw[h3]at c;injection c with c
  injection c with c
  subst c;obtain⟨f,s,g,i⟩:=aa.oX j;exact⟨b,s,g,h4,i.box 0 i0,(i.aT 2 [1,0]).DX λ_=>rfl,f⟩
theorem afw{k:Int}(c:aX ds k=eH)(H:aa B h0 h (bh bw a pw mc offs da w ds::As)):ib da k=eH:=by
 obtain⟨ok,_⟩:=aa.dl H;rcases mU ok k with⟨_,h2⟩|⟨n,d',b,rfl,hn,h1,h2,h3,h4⟩
 ·exact h2
 ·rw[h2]at c;cases c
theorem QK{k:Int}(H:aa B h0 h (bh bw a pw mc offs da w ds::As)):aq xD 23 #[xv (dB a),xt xz k] h λv h'=>v=.pointer (ib da k)/\h'=h:=by obtain⟨ok,b⟩:=aa.dl H;exact mj k ok b
def Bw(a b c:Int):Int×Int×Int:=(1+a%6,1+b%3,1+c%9)
theorem VO(a b c:Int)(h:f8):aq xD 70 #[xt xz a,xt xz b,xt xz c] h λv h'=>v=kb (Bw a b c)/\Sp h h' []:=by refine un a b c ?_;refine(Sp.refl h).alloc an i0 λx f e=>?_;refine(cD a 6 f).mono ?_;rintro v g ⟨rfl,rfl⟩;refine⟨_,i0,(cD b 3 g).mono ?_⟩;rintro v h3 ⟨rfl,rfl⟩;refine⟨_,i0,(cD c 9 h3).mono ?_⟩;rintro v j ⟨rfl,rfl⟩;refine⟨_,i0,?_⟩;dsimp only;rw[af _,af _,af _];refine e.storeAll an 0 i0 i0 [xt xz (1+a%6),xt xz (1+b%3),xt xz (1+c%9)] i0 i0 i0 i0 λi d=>?_;exact⟨Bw a b c,(d.box 0 i0).aP _ i0,i0,.zip d.ag⟩
theorem YL(a b c:Int):bM (Bw a b c)=eR:=by rw[cm];unfold Bw;dsimp only;omega
theorem SM(m n:aC):cM m (bn n)=[]:=by unfold cM;rw[Va];simp[oJ]
def bu(a pw:eY)(b:List bm)(offs:Int)(w:Pow)(ds:aE)(m:aC):HP:=HP.ex λx:bX=>(bh bw a pw (aS x) offs b w ds).sep (bS x m)
variable {m:aC}
theorem gK(H:aa B h0 h (bu a pw da offs w ds m::As)):∃x,aa B h0 h (bh bw a pw (aS x) offs da w ds::bS x m::As):=by obtain⟨x,H⟩:=H.rx;exact⟨x,H.rO.nC⟩
theorem kP{x:bX}(H:aa B h0 h (bh bw a pw (aS x) offs da w ds::bS x m::As)):aa B h0 h (bu a pw da offs w ds m::As):=
 aa.tQ (F:=λx:bX=>(bh bw a pw (aS x) offs da w ds).sep (bS x m)) x H.nC.lJ
theorem md(H:aa B h0 h (bu a pw da offs w ds m::As)):ii ds=64/\∀k d,aX ds k=dB d->ii d.l<=d.room/\d.room<=512/\iP d:=by obtain⟨x,H⟩:=gK H;obtain⟨ok,_⟩:=aa.dl H;refine⟨ok.ls,λk d e=>?_⟩;obtain⟨b,s,f,_,_,_,c⟩:=QJ e H;exact⟨c.len,c.room,c⟩
theorem JV(p:Pm)(extra:Int)(s:Sl)(l:aw)(g:St B h0 As λh=>Rd h s 1 ak l)(j:ii l<=64)(e:pZ p extra l=0)(f:w=Pow.new)(H:aa B h0 h (dv 121 pw w::As)):
  aq xD 32 #[kb p,xt xz extra,xv (dB pw),s] h λv h'=>∃(a:eY) (da:List bm) (D:aE),v=.tuple #[xv (dB a),xt xz 0]/\D.length=64/\
   (∀s,aX D s=if s∈bo l l.length then dB ⟨(l.getD s.toNat 0).toNat,bn (cE p extra l),0,[],eS,eS⟩else eH)/\aa B h0 h' (bu a pw da 0 Pow.new D (cE p extra l)::As):=by
 subst f;obtain⟨D,c,i,k⟩:=YH (p:=p) (extra:=extra) (l:=l) j e;refine(SE p extra s l g i4 H).mono ?_;rintro _ h' ⟨_,b⟩;rw[c]at b;obtain⟨a,y,da,rfl,d⟩:=b rfl;exact⟨a,da,D,i0,i,k,kP d⟩
theorem adS(name:ByteArray)(s:Sl)(b:aV)(i:St B h0 As λh=>Rd h s 1 aD b)(e:s.len<=s.cap)(j:name.size<=2^40)(c:bL m=eR)(d:ii b<=2^20)(H:aa B h0 h (bu a pw da offs w ds m::As)):
  aq xD 35 #[xv (dB a),xw name,s] h λv h'=>v=xt xz (iy m offs w ds name b).1/\
   aa B h0 h' (bu a pw da offs (iy m offs w ds name b).2.2.1 (iy m offs w ds name b).2.2.2 (iy m offs w ds name b).2.1::As):=by
 obtain⟨x,H⟩:=gK H;obtain⟨n,l,k,f⟩:=(fy m).1 ((cx m).1 c).1;refine(abc x m name s b i e j (kl c) k f (kL c) (jy c) i4 i4 d H).mono ?_;rintro _ h' ⟨rfl,y,g⟩;exact⟨i0,kP g⟩
theorem adT(slot cells:Int)(c:bL m=eR)(H:aa B h0 h (bu a pw da offs w ds m::As)):
  aq xD 37 #[xv (dB a),xt xz slot,xt xz cells] h λv h'=>v=xt xz (lB m offs w ds slot cells).1/\
   ∃b,aa B h0 h' (bu a pw b offs (lB m offs w ds slot cells).2.2.1 (lB m offs w ds slot cells).2.2.2 (lB m offs w ds slot cells).2.1::As):=by
 obtain⟨x,H⟩:=gK H;refine(YK slot cells x m c H).mono ?_;rintro _ h' ⟨rfl,y,b,d⟩;exact⟨i0,b,kP d⟩
theorem CL(b:bL m=eR)(H:aa B h0 h (bu a pw da offs w ds m::As)):
  aq xD 9 #[xv (dB a)] h λv h'=>∃r:Sl,v=r/\Sp h h' [ae 3 r 1 ak (aQ ds m.drives)]:=by
 obtain⟨x,H⟩:=gK H;exact gg x m (H.at 1 i0) (kl b) H
theorem Ie(b:bL m=eR)(H:aa B h0 h (bu a pw da offs w ds m::As)):
  aq xD 8 #[xv (dB a)] h λv h'=>∃y:bX,v=fT y/\Sp h h' [bS y m]:=by
 obtain⟨x,H⟩:=gK H;exact Lv x m (H.at 1 i0) (kl b) H
theorem Fi(k:Int)(H:aa B h0 h (bu a pw da offs w ds m::As)):aq xD 23 #[xv (dB a),xt xz k] h λv h'=>v=.pointer (ib da k)/\h'=h:=by obtain⟨x,H⟩:=gK H;exact QK H
theorem LA{k:Int}{d:bj}(e:aX ds k=dB d)(H:aa B h0 h (bu a pw da offs w ds m::As)):∃b,ib da k=dB b:=by obtain⟨x,H⟩:=gK H;obtain⟨b,_,_,c,_⟩:=QJ e H;exact⟨b,c⟩
theorem YM{k:Int}(b:aX ds k=eH)(H:aa B h0 h (bu a pw da offs w ds m::As)):ib da k=eH:=by obtain⟨x,H⟩:=gK H;exact afw b H
theorem If{k:Int}{d:bj}{b:eY}(g:aX ds k=dB d)(f:ib da k=dB b)(H:aa B h0 h (bu a pw da offs w ds m::As)):∃s e:Sl,cw h b 119 (fz pw d s e)/\fW h s 1 aD d.l/\iP d:=by
 obtain⟨x,H⟩:=gK H;obtain⟨o,s,e,c,j,n,i⟩:=QJ g H;rw[f]at c;injection c with c
 subst c;exact⟨s,e,j,n,i⟩
theorem Fj(o b:Int)(e:bL m=eR)(H:aa B h0 h (bu a pw da offs w ds m::As)):
  aq xD 11 #[xv (dB a),xt xz o,xt xz b] h λv h'=>∃r:Sl,v=r/\Sp h h' [dg 22 r 3 1 ak (cb m ds o b (aQ ds m.drives))]:=by
 have c:=(md H).2;obtain⟨x,H⟩:=gK H;exact VF x m o b (H.at 1 i0) (kl e) (jy e) (λk d f=>by have:=c k d f;omega) H
theorem QL(H:aa B h0 h (bu a pw da offs w ds m::As)):aq xD 52 #[xv (dB a)] h λv h'=>v=xx (fd w offs)/\h'=h:=by obtain⟨x,H⟩:=gK H;exact pV H
end Go.Qw
namespace Wl
open Go Go.Qw Go.Vc
def cS(m:aC):aw->Pow->aE->Int×Pow×aE
 |[],w,ds=>(0,w,ds)
 |k::l,w,ds=>match aX ds k with
  |none=>cS m l w ds
  |some d=>if d.l=bN m d.l then cS m l w ds else
   if(d.rewrite w (bN m d.l)).1=0 then cS m l (d.rewrite w (bN m d.l)).2.1 (bK ds k (d.rewrite w (bN m d.l)).2.2)
   else((d.rewrite w (bN m d.l)).1,(d.rewrite w (bN m d.l)).2.1,bK ds k (d.rewrite w (bN m d.l)).2.2)
theorem Ig{m:aC}{w:Pow}{ds:aE}:∀{l:aw},(∀k∈l,∀d,aX ds k=dB d->d.l=bN m d.l)->cS m l w ds=(0,w,ds)
 |[],_=>rfl
 |k::l,h=>by
  unfold cS;cases hd:aX ds k with
  |none=>exact Ig λj a=>h j (qD _ a)
  |some d=>
   dsimp only;rw[f9 (h k List.mem_cons_self d hd)];exact Ig λj a=>h j (qD _ a)
end Wl
namespace Go.Qw
open Go Go.Vc Go.Proofs Wl
theorem SN(a b:Sl)(c f:cI)(h:f8)(o:fW h a 1 aD c)(p:fW h b 1 aD f)(x:ii c<=2^30):
  aq xD 63 #[a,b,.func (.func 64) #[] #[]] h λv h'=>v=xx (decide (c=f))/\h'=h:=by
 refine kT a b (64,#[],#[]) ?_;have m:=o.len;have l:=p.len;refine ci (λe=>⟨?_,i0⟩) λe=>?_
 ·rw[hU λh=>e (by rw[m,l,h])]
 have u:ii c=ii f:=i4
 refine av (λi:Nat=>(i:Int)) (λi h'=>i<=ii c/\c.take i=f.take i/\h'=h) (λi=>ii c-i) 0 i0 ⟨i4,i9,i0⟩ ?_;rintro i w ⟨y,k,rfl⟩;refine ac (λj=>?_) (λj=>?_)
 ·have d:i<ii c:=by have q:(i:Int)<(a.len:Int):=j;omega
  refine o.get i i0 d λr s=>p.get i i0 i4 λt g=>fo ld ?_;refine(uu r t _ _ w s g).mono ?_;rintro _ _ ⟨rfl,rfl⟩;refine⟨_,i0,bi (λn=>⟨?_,i0⟩) λn=>?_⟩
  ·rw[hU λh=>of_decide_eq_false n (by simp only[h])]
  ·refine⟨i+1,js,⟨i4,?_,i0⟩,i4⟩;rw[aH _ _ d,aH _ _ (show i<ii f by omega),k,hZ n]
 ·have q:¬(i:Int)<(a.len:Int):=j;rw[qi i4,qi i4]at k;exact⟨by rw[g9 k],i0⟩
abbrev cR(a:eY)(y:bX)(b:Sl)(t most k:Int):ba:=xv (dB a)::(aS y++[xu b.ptr b.len b.cap,xt xz t,xt xz most,xt xz k])
variable {B:aA} {h0 h:f8} {As:List HP} {a pw:eY} {offs:Int} {da:List bm} {w:Pow} {ds:aE} {m:aC}
theorem SO{k:Int}{d:bj}{b:eY}(x:Sl)(l:cI)(A:St B h0 As λh=>fW h x 1 aD l)(D:ii l<=2^20)(p:∀c∈l,ii c<=2^20)(f:aX ds k=dB d)(i:ib da k=dB b)(H:aa B h0 h (bu a pw da offs w ds m::As)):
  aq xD 65 #[xv (dB b),x] h λv h'=>v=xt xz (d.rewrite w l).1/\aa B h0 h' (bu a pw da offs (d.rewrite w l).2.1 (bK ds k (d.rewrite w l).2.2) m::As):=by
 obtain⟨y,H⟩:=gK H;obtain⟨ok,_⟩:=aa.dl H;obtain⟨n,rfl,E⟩:=kD f;have z:ds[n]?=dB (dB d):=by
  unfold aX at f;rw[f9 i4,ql]at f;cases hX:ds[n]? with
  |none=>rw[hX]at f;cases f
  |some o=>rw[hX]at f;exact congrArg dB f
 obtain⟨s,g,r⟩:=Go.Vc.aa.jA H z;have j:s=b:=by unfold ib at i;rw[f9 i4,ql,g]at i;injection i
 subst j;refine(EV x l r (λBs h' u=>(A.cons.cons) Bs h' u) D p).mono ?_;rintro _ h' ⟨rfl,q⟩;have t:=Go.Vc.aa.pU (k:=bw) (n:=n) g q;refine⟨i0,?_⟩;have e:bK ds (n:Int) (d.rewrite w l).2.2=ds.set n (dB (d.rewrite w l).2.2):=by simp only[bK,ql]
 rw[e];exact kP t
theorem NK{m:aC}{l:cI}(b:dh m)(d:ii l<=512):ii (bN m l)<=4000/\∀c∈bN m l,ii c<=64:=by
 refine⟨?_,λc a=>?_⟩
 ·have:=kz m b;have:=sU m l;unfold bN;rw[qw];omega
 ·unfold bN at a;rcases qA.1 a with a|a
  ·exact Nat.le_of_eq (sG a)
  ·exact GP a
theorem JW{c:eY}(y:bX)(N:Sl)(live:aw)(t most k:Int)(hm:bL m=eR)(hl:ii live<=64)(r:∀k∈live,∃d,aX ds k=dB d)
  (W:St B h0 As λh=>cw h c 104 (cR a y N t most k)/\dH h y m/\Rd h N 1 ak live) (H:aa B h0 h (bu a pw da offs w ds m::As)):
  aq xD 54 #[xv (dB c)] h λv h'=>v=xt xz (cS m live w ds).1/\aa B h0 h' (bu a pw da offs (cS m live w ds).2.1 (cS m live w ds).2.2 m::As):=by
 refine ul (dB c) ?_;have X:=kl hm;have x:=W.at [_] H;have Y:=x.2.2.len;refine⟨c,i0,N,x.1.cell i0,?_⟩;refine av (λt:Nat×Pow×aE=>(t.1:Int)) (λt h'=>t.1<=ii live/\(∀k∈live,∃d,aX t.2.2 k=dB d)/\cS m live w ds=cS m (live.drop t.1) t.2.1 t.2.2/\aa B h0 h' (bu a pw da offs t.2.1 t.2.2 m::As)) (λt=>ii live-t.1) (0,w,ds) i0 ⟨i4,r,i0,H⟩ ?_;rintro⟨i,o,n⟩ h1 ⟨hi,f,g,p⟩;dsimp only at hi f g p⊢;obtain⟨z,hy,R⟩:=W.at [_] p;refine ac (λe=>?_) λe=>?_
 ·have q:i<ii live:=i4
  obtain⟨d,u⟩:=f live[i] (qg q);obtain⟨b,P⟩:=LA u p;refine R.bD i i0 q live[i] i0 ⟨c,i0,dB a,z.cell0 i0,(Fi _ p).mono ?_⟩;rintro _ h2 ⟨rfl,rfl⟩;rw[P];obtain⟨s,V,K,q2,F⟩:=If u P p;have ab:=F.len;have Q:=F.room;obtain⟨k1,k2⟩:=NK X (show d.l.length<=512 by omega);refine⟨_,i0,c,i0,y,z.cells 1 _ i0,(EW s V y m K q2 F hy X).mono ?_⟩;rintro _ h3 ⟨j,rfl,I⟩;refine⟨j,i0,(PR s V (K.ag I.ag K.lt) (q2.up I.ag) F).mono ?_⟩;rintro _ U ⟨D,rfl,L⟩;have S:fW U j 1 aD (bN m d.l):=(I.DX λ_=>rfl).up L.ag;refine⟨D,i0,(SN D j _ _ U (L.DX λ_=>rfl) S i4).mono ?_⟩;rintro _ h5 ⟨rfl,rfl⟩;have J:live.drop i=live[i]::live.drop (i+1):=qQ q;have Z:=(p.cj I).up L.ag;refine⟨_,i0,ac (λG=>?_) λG=>?_⟩
  ·refine⟨(i+1,o,n),jj,⟨i6,f,?_,Z.aT 1 []⟩,i6⟩;rw[g,J];show cS m (live[i]::live.drop (i+1)) o n=cS m (live.drop (i+1)) o n;rw[cS,u];dsimp only;rw[f9 G]
  ·obtain⟨rs,T⟩:=Z.aaL λ_=>rfl;have T:aa B h0 h5 (bu a pw da offs o n m::cO (cF 1 aD) 1 bp j rs (bN m d.l)::As):=T.aT 2 [1,0];refine(SO j (bN m d.l) (St.dS (A:=cO (cF 1 aD) 1 bp j rs (bN m d.l)) 0 i0 λh' M=>⟨rs,M.1,M.2.1,M.2.2⟩) i4 (λc hc=>by have:=k2 c hc;omega) u P T).mono ?_;rintro _ h6 ⟨rfl,E⟩;have E:=E.aT 2 [0];refine⟨_,i0,ci (λO=>?_) λO=>?_⟩
   ·have ec:cS m live w ds=((d.rewrite o (bN m d.l)).1,(d.rewrite o (bN m d.l)).2.1,bK n live[i] (d.rewrite o (bN m d.l)).2.2):=by rw[g,J,cS,u];dsimp only;rw[g0 G,g0 O]
    rw[ec];exact⟨i0,E⟩
   ·refine⟨(i+1,(d.rewrite o (bN m d.l)).2.1,bK n live[i] (d.rewrite o (bN m d.l)).2.2),jj,⟨i6,λk hk=>?_,?_,E⟩,i6⟩
    ·dsimp only;rw[gq (md p).1 u];split
     ·exact⟨_,i0⟩
     ·exact f k hk
    ·dsimp only;rw[g,J,cS,u];dsimp only;rw[g0 G,f9 (by simpa using O)]
 ·have:i=ii live:=i4
  subst this;rw[yK]at g;rw[g];exact⟨i0,p⟩
def ints(l:List Nat):aw:=l.map λx:Nat=>(x:Int)
theorem kQ(l:List Nat):ii (ints l)=ii l:=by simp[ints]
theorem Ih{l:List Nat}{k:Nat}(h:k<ii l):(ints l)[k]'(by rw[kQ];exact h)=(l[k]:Int):=by simp[ints]
theorem Ue{n:Nat}:∀{j i:Nat},i<=j->2*j<=n->ch n i<=ch n j
 |0,i,h,_=>by
   have:i=0:=i4
   subst this;exact qm _
 |j+1,i,h,hj=>by
  by_cases a:i=j+1
  ·subst a;exact qm _
  ·exact zd (Ue i4 i4) (afX i4)
theorem Bx(n t:Int)(h:f8):aq xD 111 #[xt xz n,xt xz t] h λv h'=>v=xx (decide (0<=n/\n<=64/\0<=t/\t<=n))/\h'=h:=by
 refine KY n t ?_;refine ac (λa=>ac (λb=>ac (λh3=>⟨?_,i0⟩) λh3=>⟨?_,i0⟩) λb=>⟨?_,i0⟩) (λa=>⟨?_,i0⟩)
 ·congr 1;exact decide_eq_decide.2 i4
 ·rw[hU i4]
 ·rw[hU i4]
 ·rw[hU i4]
theorem rc(n t:Int)(h:f8)(D:-(2^62)<=n/\n<=2^62)(A:-(2^62)<=t/\t<=2^62):aq xD 53 #[xt xz n,xt xz t] h λv h'=>v=xt xz (gI n t)/\h'=h:=by
 refine KU n t ?_;refine(Bx n t h).mono ?_;rintro v x ⟨rfl,rfl⟩;refine⟨_,i0,bi (λe=>?_) λe=>?_⟩
 ·have e:=of_decide_eq_false e;unfold gI;rw[g0 e];exact⟨i0,i0⟩
 ·have e:=hZ e;obtain⟨N,rfl⟩:∃N:Nat,n=N:=⟨n.toNat,i4⟩
  obtain⟨T,rfl⟩:∃T:Nat,t=T:=⟨t.toNat,i4⟩
  have u:gI N T=((min (ch N T) 4097:Nat):Int):=by unfold gI;rw[f9 e];rfl
  rw[u];obtain⟨m,r⟩:∃m,m=min T (N-T):=⟨_,rfl⟩
  have f:ch N m=ch N T:=by
   rw[r];rcases Nat.le_total T (N-T)with b|b
   ·rw[Nat.min_eq_left b]
   ·rw[Nat.min_eq_right b,<-Pc N T i4]
  have a:(if qc xz ((N:Int)-T)<(T:Int)then qc xz ((N:Int)-T)else(T:Int))=(m:Int):=by rw[af _];split<;>omega
  rw[a];refine av (λi:Nat=>(((ch N i:Nat):Int),(i:Int))) (λi h'=>h'=x/\i<=m/\ch N i<=4096) (λi=>m-i) 0 (by rw[ng];rfl) ⟨i0,i4,by rw[ng];omega⟩ ?_;rintro i b ⟨rfl,B,d⟩;dsimp only;refine ac (λy=>?_) (λy=>?_)
  ·have p:i<m:=i4
   have E:N<=64:=i4
   have c:=TN (n:=N) (k:=i) i4;have g:ch N i*(N-i)<=4096*64:=Nat.mul_le_mul d i4;have l:qc xz ((N:Int)-i)=((N-i:Nat):Int):=j3
   have s:qc xz (((ch N i:Nat):Int)*((N-i:Nat):Int))=((ch N i*(N-i):Nat):Int):=by rw[<-Int.natCast_mul,af _]
   have q:qc xz ((i:Int)+1)=((i+1:Nat):Int):=js
   have w:Int.tdiv ((ch N i*(N-i):Nat):Int) ((i+1:Nat):Int)=((ch N (i+1):Nat):Int):=by rw[<-c,<-Int.ofNat_tdiv,Nat.mul_div_cancel _ i4]
   have o:ch N (i+1)<=4096*64:=by have:ch N (i+1)*1<=ch N (i+1)*(i+1):=Nat.mul_le_mul_left _ i4;omega
   rw[l,s,q,w,af _];refine⟨i4,ac (λz=>?_) λz=>?_⟩
   ·have:=Ue (n:=N) (j:=m) (i:=i+1) i4 i4;refine⟨?_,i0⟩;rw[show min (ch N T) 4097=4097 by omega];rfl
   ·exact⟨i+1,i0,⟨i0,i4,i4⟩,i4⟩
  ·have:i=m:=i4
   subst this;refine⟨?_,i0⟩;rw[show min (ch N T) 4097=ch N i by omega]
theorem index_spec(s:Sl)(l:aw)(x:Int)(h:f8)(g:Rd h s 1 ak l)(m:ii l<=2^30):aq xD 107 #[s,xt xz x] h λv h'=>(∃i:Int,v=xt xz i/\(0<=i↔x∈l)/\(0<=i->l[i.toNat]?=dB x/\∀j,j<i.toNat->l[j]?≠dB x)/\i<ii l/\-1<=i)/\h'=h:=by
 refine mT s x ?_;have k:=g.len;refine av (λi:Nat=>(i:Int)) (λi h'=>h'=h/\i<=ii l/\∀j,j<i->l[j]?≠dB x) (λi=>ii l-i) 0 i0 ⟨i0,i4,λj b=>i4⟩ ?_;rintro i o ⟨rfl,n,c⟩;refine ac (λe=>?_) (λe=>?_)
 ·have a:i<ii l:=i4
  refine g.bD i i0 a _ i0 ?_;refine cy (λf=>?_) (λf=>?_)
  ·refine⟨⟨i,i0,⟨λ_=>f▸qg a,λ_=>i4⟩,λ_=>⟨by rw[ql,qd a,f],λj b=>c j i4⟩,i4,i4⟩,i0⟩
  ·refine⟨i+1,js,⟨i0,i4,λj b=>?_⟩,i4⟩;rcases zy.1 b with b|rfl
   ·exact c j b
   ·rw[qd a];intro d;exact f (zP.inj d).symm
 ·refine⟨⟨-1,i0,⟨λd=>i4,λd=>?_⟩,λd=>i4,i4,i4⟩,i0⟩;obtain⟨j,b,rfl⟩:=qL d;exact absurd (qd b) (c j i4)
theorem nR(s:Sl)(l:aw)(x:Int)(h:f8)(a:Rd h s 1 ak l)(b:ii l<=2^30):aq xD 50 #[s,xt xz x] h λv h'=>v=xx (decide (x∈l))/\h'=h:=by refine lG s x ?_;refine(index_spec s l x h a b).mono ?_;rintro v d ⟨⟨i,rfl,c,_⟩,rfl⟩;refine⟨i,i0,?_,i0⟩;congr 1;exact decide_eq_decide.2 c
theorem YN(n:Nat)(s:Sl)(l:List Nat){B:aA}{t h:f8}{As:List HP}(H:aa B t h As)(i:Nat)(o:As[i]?=dB (ae 3 s 1 ak (ints l)))(R:n<=64)(M:ii l<=n)(G:∀x∈l,x<n):
  aq xD 179 #[s,xt xz n] h λv h'=>match jU n l with
   |some l'=>v=xx eR/\aa B t h' (As.set i (ae 3 s 1 ak (ints l')))
   |none=>v=xx eS/\h'=h:=by
 refine Nw s n ?_;have d:=(H.own i o).len;rw[kQ]at d;refine av (λk:Nat=>(k:Int)-1) (λk h'=>h'=h/\k<=ii l/\jU n (l.drop k)=eH) (λk=>k) l.length (by rw[d,af _]) ⟨i0,qm _,by rw[yK];rfl⟩ ?_;rintro k S ⟨rfl,O,c⟩;refine ac (λe=>?_) (λe=>?_)
 ·obtain⟨k,rfl⟩:∃j,k=j+1:=⟨k-1,i4⟩
  have b:k<ii l:=i4
  have A:=H.seq i o λ_=>rfl;have g:(((k+1:Nat):Int)-1)=(k:Int):=i4
  have L:=G _ (qg b);have m:jU n (l.drop k)=if l[k]+(ii l-k-1)+1<n then dB (zR (l[k]+1) (ii l-k-1+1))else eH:=by rw[qQ b];unfold jU;rw[c];simp[Nat.sub_sub]
  refine A.bD k g (by rw[kQ];exact b) _ i0 ?_;rw[Ih b,g,af ((n:Int)-((s.len:Nat):Int)),af _];refine ac (λK=>?_) (λK=>?_)
  ·refine A.bD k i0 (by rw[kQ];exact b) _ i0 ?_;rw[Ih b,af _];rw[f9 i4]at m;have F:=Pa k l _ i4 m;rw[F];dsimp only;refine H.set an i o (λ_=>rfl) i0 k i0 (by rw[kQ];exact b) ((l[k]:Int)+1) i0 i0 i0 λP z=>?_;let a:Nat->List Nat:=λj=>l.take k++zR (l[k]+1) (j+1)++l.drop (k+1+j);have f:(ints l).set k ((l[k]:Int)+1)=ints (a 0):=by
    have:a 0=l.set k (l[k]+1):=by simp only[a];rw[List.set_eq_take_append_cons_drop,f9 b];simp[List.range'_succ]
    rw[this];simp[ints,vO]
   rw[f]at z;refine av (λj:Nat=>((k+1+j:Nat):Int)) (λj h'=>k+1+j<=ii l/\aa B t h' (As.set i (ae 3 s 1 ak (ints (a j))))) (λj=>ii l-j) 0 js ⟨i4,z⟩ ?_;rintro j h3 ⟨N,r⟩;have D:ii (a j)=ii l:=by simp[a];omega
   have u:i<ii As:=(qn.1 o).1;have E:(As.set i (ae 3 s 1 ak (ints (a j))))[i]?=dB (ae 3 s 1 ak (ints (a j))):=zj u;refine ac (λJ=>?_) (λJ=>?_)
   ·have p:k+1+j<ii l:=i4
    have w:(a j)[k+j]'(by omega)=l[k]+1+j:=by simp only[a,qp];rw[z6 i7,List.getElem_append_left i7];simp[List.getElem_range'];omega
    refine(r.seq i E λ_=>rfl).bD (k+j) j3 (by rw[kQ];omega) _ i0 ?_;rw[Ih i4,w,af _];refine r.set an i E (λ_=>rfl) i0 (k+1+j) i0 (by rw[kQ];omega) (((l[k]+1+j:Nat):Int)+1) i0 i0 i0 λQ y=>?_;refine⟨j+1,j3,⟨i4,?_⟩,i4⟩;rw[yz]at y;have:(ints (a j)).set (k+1+j) (((l[k]+1+j:Nat):Int)+1)=ints (a (j+1)):=by
     have I:(a j).set (k+1+j) (l[k]+1+j+1)=a (j+1):=by
      simp only[a];rw[qX _ _ i7];have:k+1+j-ii (List.take k l++zR (l[k]+1) (j+1))=0:=i7
      rw[this,qQ p,zw,List.range'_concat (n:=j+1)];simp[w5]
     rw[<-I];simp[ints,vO]
    rw[this]at y;exact y
   ·have q:k+1+j=ii l:=i4
    refine⟨i0,?_⟩;have:l.take k++zR (l[k]+1) (ii l-k-1+1)=a j:=by simp only[a];rw[q,yK,qM,show l.length-k-1+1=j+1 by omega]
    rw[this];exact r
  ·rw[g0 i4]at m;exact⟨k,by rw[af _],⟨i0,i4,m⟩,i4⟩
 ·have:k=0:=i4
  subst this;rw[List.drop_zero]at c;rw[c];exact⟨i0,i0⟩
end Go.Qw
namespace Wl
open Go Go.Qw Go.Vc
def nv(m:aC)(offs:Int)(w:Pow)(ds:aE)(t most:Int):Int:=
 if fd w offs then 14 else if t<0∨t>=(ii (aQ ds m.drives):Int)∨most<0∨most>64 then 1 else if gI (ii (aQ ds m.drives):Int) t>4096 then 13 else 0
end Wl
namespace Go.Qw
open Go Go.Vc Go.Proofs Wl
variable {B:aA} {h0 h:f8} {As:List HP} {a pw:eY} {offs:Int} {da:List bm} {w:Pow} {ds:aE} {m:aC}
theorem GU(t most:Int)(s:bL m=eR)(N:m.aF=[])(R:∀k∈aQ ds m.drives,∀d,aX ds k=dB d->d.l=bN m d.l)(S:-(2^62)<=t/\t<=2^62)(H:aa B h0 h (bu a pw da offs w ds m::As)):
  aq xD 13 #[xv (dB a),xt xz t,xt xz most] h λv h'=>v=.tuple #[xt xz 0,xt xz (nv m offs w ds t most)]/\aa B h0 h' (bu a pw da offs w ds m::As):=by
 refine xR (dB a) t most ?_;have u:=jy s;obtain⟨live,c⟩:∃live,live=aQ ds m.drives:=⟨_,rfl⟩
 have G:ii live<=64:=by rw[c];exact zd (qT _ _) u
 refine bc (bA (λe=>j0) λ_=>(QL H).mono ?_);rintro _ h1 ⟨rfl,rfl⟩;refine⟨_,i0,bA (λe=>?_) λO=>?_⟩
 ·have:nv m offs w ds t most=14:=by unfold nv;rw[f9 e]
  rw[this];exact⟨i0,H⟩
 have P:nv m offs w ds t most=(if t<0∨t>=(ii live:Int)∨most<0∨most>64 then 1 else if gI (ii live:Int) t>4096 then 13 else 0):=by unfold nv;rw[g0 (by rw[O];decide),<-c]
 rw[P];refine(Ie s H).mono ?_;rintro _ h2 ⟨y,rfl,U⟩;have I:=H.cj U;refine⟨y,i0,(CL s (I.aT 2 [1,0])).mono ?_⟩;rintro _ h3 ⟨f,rfl,K⟩;rw[<-c]at K;have M:=I.cj K;refine⟨f,i0,M.boxed λa5 J g=>?_⟩;have g:aa B h0 J (bu a pw da offs w ds m::al a5 104 (cR a y f t most 0)::ae 3 f 1 ak live::bS y m::As):=(g.bv).aT 4 [3,0,1,2];have n:=(g.own 2 i0).len;have j:=g.box 1 i0;refine bc (bT (λ(b:Bool) h'=>b=decide (t<0∨t>=(ii live:Int)∨most<0∨most>64)/\h'=J) ?_ ?_)
 ·refine ac (λe=>⟨by rw[g9 (.inl e)],i0⟩) λZ=>⟨a5,i0,f,j.cell i0,ac (λe=>⟨by rw[g9 (.inr (.inl i4))],i0⟩) λX=>ac (λe=>⟨by rw[g9 (.inr (.inr (.inl e)))],i0⟩) λY=>⟨?_,i0⟩⟩
  rw[decide_eq_decide];omega
 rintro b W ⟨rfl,rfl⟩;refine ac (λe=>by rw[f9 e];exact⟨i0,g.aT 4 [0]⟩) λV=>?_;rw[g0 V];refine⟨a5,i0,f,j.cell i0,(rc ((f.len:Nat):Int) t W i4 S).mono ?_⟩;rintro _ h7 ⟨rfl,rfl⟩;rw[n];refine⟨_,i0,ac (λe=>by rw[f9 e];exact⟨i0,g.aT 4 [0]⟩) λL=>?_⟩;rw[g0 L];have T:St B h0 (al a5 104 (cR a y f t most 0)::ae 3 f 1 ak live::bS y m::As) λh=>cw h a5 104 (cR a y f t most 0)/\dH h y m/\Rd h f 1 ak live:=λBs h' E=>
  ⟨(St.dS (A:=al a5 104 (cR a y f t most 0)) 0 i0 λ_ i=>i.1) Bs h' E,(St.dS (A:=bS y m) 2 i0 λ_ i=>i) Bs h' E,(St.dS (A:=ae 3 f 1 ak live) (Q:=λh=>Rd h f 1 ak live) 1 i0 λh' i=>i.1.seq (λ_=>rfl) i.2) Bs h' E⟩
 refine(JW y f live t most 0 s G (λk x=>by obtain⟨_,d,D,_⟩:=jh (show k∈aQ ds m.drives by rw[<-c];exact x);exact⟨d,D⟩) T g).mono ?_;rintro _ h8 ⟨rfl,r⟩;have F:cS m live w ds=(0,w,ds):=Ig λk x d D=>R k (by rw[<-c];exact x) d D;rw[F]at r⊢;have o:=r.box 1 i0;have z:dH h8 y m:=r.at 3 i0;have q:=bH.len z.aF;rw[N]at q;have p:y.2.2.2.2.2.2.2.len=0:=q;refine⟨_,i0,ci (λe=>absurd i0 e) λ_=>⟨a5,i0,y.2.2.2.2.2.2.2,by rw[addr_add];exact o.cell i0,?_⟩⟩;refine av (λ_:Unit=>(0:Int)) (λ_ h'=>h'=h8) (λ_=>0) () i0 i0 ?_;rintro _ h9 rfl;refine ac (λe=>?_) λ_=>⟨a5,i0,0,o.cell i0,i0,r.aT 4 [0]⟩
 exfalso;rw[p]at e;exact absurd e i5
theorem adU(h:f8)(x:UInt8):aq xD 250 #[xt xA x.toNat] h λv h'=>v=xx (x !=0)/\h'=h:=by
 refine Lk _ ?_;refine⟨?_,i0⟩;congr 1;by_cases a:x=0
 ·subst a;rfl
 ·have:((x.toNat:Nat):Int)≠0:=λb=>a (AB.1 b);rw[bne_iff_ne.2 a];exact bne_iff_ne.2 this
theorem Fk(a:Sl)(l:Row)(h:f8)(o:Rd h a 1 aD l)(t:ii l<=2^30:=by omega):aq xD 183 #[a] h λv h'=>v=xt xz (if fk l<ii l then(fk l:Int)else-1)/\h'=h:=by
 refine PJ a ?_;refine(oW a (250,#[],#[]) (R:=λv h'=>v=xt xz (if fk l<ii l then(fk l:Int)else-1)/\h'=h) ?_).mono ?_
 ·skip
  have q:=o.len;refine av (λi:Nat=>(i:Int)) (λi h'=>h'=h/\i<=ii l/\∀j (b:j<ii l),j<i->l[j]=0) (λi=>ii l-i) 0 i0 ⟨i0,i4,λj _ b=>i4⟩ ?_;rintro i p ⟨rfl,u,d⟩;refine ac (λe=>?_) (λe=>?_)
  ·have c:i<ii l:=i4
   refine o.bD i i0 c _ i0 ?_;refine fo ld ?_;refine(adU p l[i]).mono ?_;rintro v s ⟨rfl,rfl⟩;refine⟨_,i0,bA (λn=>?_) λn=>?_⟩
   ·have k:fk l=i:=by rw[fk,List.findIdx_eq c];exact⟨n,λj b=>by simp[d j i4 b]⟩
    rw[k,f9 c];exact⟨i0,i0⟩
   ·refine⟨i+1,js,⟨i0,i4,λj b m=>?_⟩,i4⟩;rcases zy.1 m with h3|rfl
    ·exact d j b h3
    ·simpa using n
  ·have g:¬fk l<ii l:=by rw[fk,wY];rintro⟨x,r,f⟩;obtain⟨j,b,rfl⟩:=qL r;rw[d j b i4]at f;simp at f
   rw[g0 g];exact⟨i0,i0⟩
 ·rintro v p ⟨rfl,rfl⟩;exact⟨_,i0,i0,i0⟩
theorem abo(a b:Sl)(c d:Row)(h:f8)(j:Rd h a 1 aD c)(l:Rd h b 1 aD d)(z:ii c=ii d)(w:ii c<=2^30):aq xD 306 #[a,b] h λv h'=>∃r:Sl,v=.tuple #[r,xx eR]/\Sp h h' [ae 5 r 1 aD (zm (·^^^·) c d)]:=by
 refine Si a b ?_;have A:=j.len;have u:=l.len;refine ci (λe=>i4) λ_=>?_;refine(Sp.refl h).make an aD gU i5 0 i0 i0 c.length c.length i4 i4 (qm _) i4 λs h3 o y n=>?_;refine av (λk:Nat=>(k:Int)) (λk h'=>k<=ii c/\Sp h h' [ae 5 s 1 aD (zm (·^^^·) (c.take k) (d.take k)++qh (ii c-k) 0)]) (λk=>ii c-k) 0 i0 ⟨i4,l6⟩ ?_;rintro k x ⟨t,g⟩;refine ac (λe=>?_) (λe=>?_)
 ·have f:k<ii c:=i4
  refine(Seq.up j g.ag).bD k i0 f _ i0 ?_;refine(Seq.up l g.ag).bD k i0 i4 _ i0 ?_;rw[mV];refine g.set an 0 i0 (λ_=>rfl) i0 k i0 i7 (c[k]^^^d[k]) i0 i0 i0 λq m=>⟨trivial,?_⟩
  refine⟨k+1,js,⟨i4,?_⟩,i4⟩;have i:ii (zm (·^^^·) (c.take k) (d.take k))=k:=i7
  have p:(zm (·^^^·) (c.take k) (d.take k)++qh (ii c-k) (0:UInt8)).set k (c[k]^^^d[k])=zm (·^^^·) (c.take (k+1)) (d.take (k+1))++qh (ii c-(k+1)) 0:=by rw[qX _ _ i4,i,ze,show c.length-k=ii c-(k+1)+1 by omega,yl,zw,aH _ _ f,aH _ _ (show k<ii d by omega),yH i7,qp];rfl
  rw[<-p];exact m
 ·have:k=ii c:=i4
  subst this;refine⟨s,i0,?_⟩;rw[qi (qm _),qi i4,ze,vz,qM]at g;exact g
theorem adV(c:UInt8)(a b:Row):zm (·^^^·) (scaleB c a) b=cY c a b:=by unfold scaleB cY;rw[List.zipWith_map_left];congr 1;funext x y;exact UInt8.xor_comm _ _
theorem YO(f:eY)(c:UInt8)(a b:Sl)(d e:Row)(h:f8)(n:fH h f)(l:Rd h a 1 aD d)(m:Rd h b 1 aD e)(o:ii d=ii e)(j:ii d<=2^30):
  aq xD 248 #[xv (dB f),xt xA c.toNat,a,b] h λv h'=>∃r:Sl,v=.tuple #[r,xx eR]/\Sp h h' [ae 5 r 1 aD (cY c d e)]:=by
 refine PO (dB f) _ a b ?_;refine(JG f c a d h n l j).mono ?_;rintro v q ⟨r,rfl,g⟩;refine⟨r,i0,(abo r b _ e q (g.seq 0 i0 λ_=>rfl) (Seq.up m g.ag) (by rw[oh];exact o) (by rw[oh];exact j)).mono ?_⟩;rintro v s ⟨w,rfl,p⟩;refine⟨(w,eR),i0,w,i0,?_⟩;rw[<-adV];exact(g.comp p).take 1 λi A k=>by cases i with|zero=>exact k|succ i=>simp at k
def gx(f:eY)(n:Nat)(a:Sl):ba:=[xv (dB f),xt xz n,a]
def ie(b f:eY)(n:Nat)(M:aL):HP:=.ex λa:Sl=>(al b 242 (gx f n a)).sep (ce 71 a 1 bp (cF 1 aD) M)
theorem YP(d f:eY)(n:Nat)(b r:Sl)(M:aL)(l:Row)(h:f8)(m:cw h d 242 (gx f n b))(G:fH h f)(H:dQ (bH (cF 1 aD) 1 bp) h b M)(F:Rd h r 1 aD l)
  (R:ii l=n) (W:n<=64) (p:aY n M) (z:∀x∈M,fk x<n) (S:ii M<=2^30):
  aq xD 182 #[xv (dB d),r] h λv h'=>∃w:Sl,v=.tuple #[w,xx eR]/\Sp h h' [ae 5 w 1 aD (eG M l)]:=by
 refine EE (dB d) r ?_;have N:=F.len;have K:=bH.len H;refine bc ?_;refine bA (λe=>j0) λ_=>?_;refine⟨d,i0,n,m.cell i0,ci (λe=>i4) λ_=>?_⟩;refine(fc r l h F i4).mono ?_;rintro v X ⟨w,rfl,E⟩;refine⟨w,i0,d,i0,b,(m.ag E.ag m.lt).cell i0,?_⟩;refine av (λt:Sl×Nat=>(t.1,(t.2:Int))) (λt h'=>t.2<=ii M/\Sp h h' [ae 5 t.1 1 aD (eG (M.take t.2) l)]) (λt=>ii M-t.2) (w,0) i0 ⟨i9,by simpa[eG]using E⟩ ?_;rintro⟨o,k⟩ P ⟨U,a⟩;dsimp only at*;refine ac (λe=>?_) (λe=>?_)
 ·have c:k<ii M:=i4
  have Q:M[k].length=n:=p _ (qg _);have B:=z _ (qg c);have s:aY n (M.take k):=λx y=>p x (zD y);have q:=Hx s R;have T:=(a.own 0 i0).len;refine bH.mv (dQ.up H a.ag) k i0 c λx y=>?_;refine(Fk x _ P y).mono ?_;rintro v h3 ⟨rfl,rfl⟩;refine⟨_,i0,?_⟩;dsimp only;rw[f9 i4];refine(a.seq 0 i0 λ_=>rfl).bD (fk M[k]) i0 i4 _ i0 ?_;have u:(eG (M.take k) l)[fk M[k]]'(by omega)=aN (eG (M.take k) l) (fk M[k]):=(KO i4).symm;have g:eG (M.take (k+1)) l=cY (aN (eG (M.take k) l) (fk M[k])) M[k] (eG (M.take k) l):=by unfold eG;rw[aH _ _ c,zQ];rfl
  rw[u];refine ci (λJ=>?_) (λJ=>?_)
  ·refine⟨d,i0,dB f,(m.ag a.ag m.lt).cell0 i0,?_⟩;refine(YO f (aN (eG (M.take k) l) (fk M[k])) x o M[k] _ h3 (G.ag a.ag G.lt) y (a.seq 0 i0 λ_=>rfl) i4 i4).mono ?_;rintro v V ⟨D,rfl,L⟩;refine⟨(D,eR),i0,⟨(D,k+1),jj,⟨i6,?_⟩,i6⟩⟩;dsimp only;rw[g];exact(a.comp L).take 1 λi A I=>by cases i with|zero=>exact I|succ i=>simp at I
  ·refine⟨(o,k+1),jj,⟨i6,?_⟩,i6⟩;have O:aN (eG (M.take k) l) (fk M[k])=0:=AB.1 J;have:eG (M.take (k+1)) l=eG (M.take k) l:=by rw[g,O];refine eO (n:=n) (by rw[bZ];exact q) q λj _=>?_;rw[cN i4,Gf.zero_mul,UInt8.xor_zero]
   dsimp only;rw[this];exact a
 ·refine⟨o,i0,?_⟩;rw[qi i4]at a;exact a
theorem NL(f:eY)(n:Nat)(h:f8)(i:n<=64):aq xD 117 #[xv (dB f),xt xz n] h λv h'=>∃c:eY,v=xv (dB c)/\Sp h h' [ie c f n []]:=by refine PD (dB f) n ?_;refine bc ?_;refine ac (λe=>i4) λ_=>ac (λe=>i4) λ_=>?_;refine bc ?_;refine bA (λe=>j0) λ_=>?_;refine(Sp.refl h).boxed λa j g=>?_;refine⟨a,i0,?_⟩;have d:=(g.DS 71 1 bp (cF 1 aD)).join 0 1 i5 i0 i0;exact(d.close' (F:=λb:Sl=>(al a 242 (gx f n b)).sep (ce 71 b 1 bp (cF 1 aD) [])) 0 ⟨eH,0,0⟩ i0).del 1
theorem ie.open{B:aA}{b h:f8}{As:List HP}{c f:eY}{n:Nat}{M:aL}(H:aa B b h (ie c f n M::As)):
  ∃a:Sl,aa B b h (ce 71 a 1 bp (cF 1 aD) M::al c 242 (gx f n a)::As):=by
 obtain⟨a,d⟩:=H.rx;exact⟨a,d.rO⟩
theorem ie.close{B:aA}{c h:f8}{As:List HP}{b f:eY}{n:Nat}{M:aL}{a:Sl}(H:aa B c h (ce 71 a 1 bp (cF 1 aD) M::al b 242 (gx f n a)::As)):
  aa B c h (ie b f n M::As):=H.lJ.tQ (F:=λa:Sl=>(al b 242 (gx f n a)).sep (ce 71 a 1 bp (cF 1 aD) M)) a
theorem By(a f:eY)(n:Nat)(M:aL){B:aA}{d h:f8}{As:List HP}(H:aa B d h (ie a f n M::As)):aq xD 185 #[xv (dB a)] h λv h'=>v=xt xz M.length/\h'=h:=by refine EF (dB a) ?_;obtain⟨b,c⟩:=ie.open H;refine bA (λe=>j0) λ_=>?_;exact⟨a,i0,b,(c.box 1 i0).cell i0,by rw[(c.UE 0 i0).1],i0⟩
theorem Ds(d f:eY)(n:Nat)(M:aL)(r:Sl)(l:Row){B:aA}{p h:f8}{As:List HP}(H:aa B p h (ie d f n M::As))(I:St B p As λh=>fH h f)(S:Rd h r 1 aD l)
  (J:ii l=n) (K:n<=64) (j:aY n M) (A:∀x∈M,fk x<n) (V:ii M<=64):
  aq xD 119 #[xv (dB d),r] h λv h'=>(∃b,v=xx b)/\aa B p h' (ie d f n (Pd M l)::As):=by
 refine Gt (dB d) r ?_;obtain⟨k,s⟩:=ie.open H;have m:=Hx j J;refine(YP d f n k r M l h (s.box 1 i0) (I [_,_] h s) (s.LR 0 i0 λ_=>rfl) S J K j A i4).mono ?_;rintro v X ⟨w,rfl,F⟩;have E:=s.cj F;have T:=F.seq 0 i0 λ_=>rfl;refine⟨(w,eR),i0,bc ?_⟩;refine bi (λe=>j0) λ_=>?_;refine(Fk w _ X T).mono ?_;rintro v Z ⟨rfl,rfl⟩;refine⟨_,i0,?_⟩;dsimp only;by_cases c:fk (eG M l)<ii (eG M l)
 ·rw[f9 c];refine tK (hU (Int.not_lt.2 (wc _))) ?_;have u:=E.IF 0 i0 λ_=>rfl;have a:=u.box 2 i0;refine⟨d,i0,dB f,a.cell0 i0,d,i0,k,a.cell i0,?_⟩;have o:aY n (M++[eG M l]):=mO j m;refine u.ne an bp fF i0 [w] i0 (show 1*1<=2^20 by decide) i0 ⟨a.cell i0,a.cell0 i0,trivial⟩ ?_;refine u.rv an 1 0 i5 i0 i0 fF i0 i5 (λ_=>rfl) jK i0 i5 i4 λD t W=>?_;have g:aa B p t (ce 71 D 1 bp (cF 1 aD) (M++[eG M l])::al d 242 (gx f n k)::As):=W.nM;have y:=g.box 1 i0;refine⟨⟨y.cell0 i0,trivial⟩,?_⟩;refine(GO f D _ n t (I [_,_] t g) (bH.tofW (g.LR 0 i0 λ_=>rfl)) o K i7).mono ?_;rintro v O ⟨q,rs,rfl,U,z,R,P⟩;have i:=(gV o (eK (M++[eG M l]))).2;have L:Sp t O [ce 71 ⟨q.ptr,ca (M++[eG M l]),q.cap⟩ 1 bp (cF 1 aD) (mQ (M++[eG M l]))]:=by have:=aa.adh (As:=[]) P (by rw[i];exact z) (λ_=>rfl) (ca (M++[eG M l])) (by rw[i];omega);exact this
  have N:=g.cj L;refine⟨q,i0,trivial,d,i0,?_⟩;refine N.storeAt an 2 i0 i0 (off:=2) (v:=xu q.ptr q.len q.cap) i0 i0 i0 (by simp[gx]) λY G=>⟨trivial,⟨_,i0⟩,?_⟩
  have Q:aa B p Y (ce 71 ⟨q.ptr,ca (M++[eG M l]),q.cap⟩ 1 bp (cF 1 aD) (mQ (M++[eG M l]))::ce 71 D 1 bp (cF 1 aD) (M++[eG M l])::al d 242 (gx f n ⟨q.ptr,ca (M++[eG M l]),q.cap⟩)::As):=by rw[show q.len=ca (M++[eG M l])from U]at G;exact G
  rw[Pd,f9 c];exact ie.close Q.oD
 ·rw[g0 c];refine DM (g9 i5) ⟨⟨_,i0⟩,?_⟩;rw[Pd,g0 c];exact ie.close E.nM
theorem NM(i f:eY)(n:Nat)(M:aL)(a:Sl)(h:f8)(m:cw h i 242 (gx f n a))(d:dQ (bH (cF 1 aD) 1 bp) h a M)(y:ii M<=64)(j:aY n M)(E:n<=64):
  aq xD 251 #[xv (dB i)] h λv h'=>∃r:Sl,v=r/\Sp h h' [ce 71 r 1 bp (cF 1 aD) M]:=by
 refine EH (dB i) ?_;refine bA (λe=>j0) λ_=>?_;have l:=bH.len d;refine⟨i,i0,a,m.cell i0,?_⟩;refine av (λt:Sl×Nat=>(t.1,(t.2:Int))) (λt h'=>t.2<=ii M/\Sp h h' [ce 71 t.1 1 bp (cF 1 aD) (M.take t.2)]) (λt=>ii M-t.2) (⟨eH,0,0⟩,0) i0 ⟨i9,(Sp.refl h).DS 71 1 bp (cF 1 aD)⟩ ?_;rintro⟨s,k⟩ q ⟨B,g⟩;dsimp only at*;refine ac (λe=>?_) (λe=>?_)
 ·have b:k<ii M:=i4
  have u:=j _ (qg b);refine bH.mv (dQ.up d g.ag) k i0 b λx A=>?_;refine(fc x M[k] q A i4).mono ?_;rintro v h3 ⟨c,rfl,p⟩;have o:=(g.cj p).IF 0 i0 λ_=>rfl;refine⟨c,i0,?_⟩;refine o.rv an 1 0 i5 i0 i0 fF i0 i5 (λ_=>rfl) jK i0 i5 i7 λw D z=>?_;refine⟨(w,k+1),jj,⟨i6,?_⟩,i6⟩;dsimp only;rw[aH _ _ b];exact z.nM
 ·rw[qi i4]at g;exact⟨s,i0,g⟩
theorem ie.rd{B:aA}{p h:f8}{As:List HP}{m f:eY}{n:Nat}{M:aL}(H:aa B p h As)(i:Nat)(s:As[i]?=dB (ie m f n M)):∃g:Sl,cw h m 242 (gx f n g)/\dQ (bH (cF 1 aD) 1 bp) h g M:=by obtain⟨g,y,z,v,u,k,o,rs,w,a,b,c,d,e⟩:=H.at i s;exact⟨g,o.1,rs,a.seq (λ_=>rfl) λx j=>k x (b x j).1,d,λi r l t q=>(cF 1 aD).mono (e i r l t q) λx j=>k x (c x j)⟩
theorem LB(b f:eY)(n:Nat)(M:aL)(c:Sl)(h:f8)(d:cw h b 242 (gx f n c))(j:dQ (bH (cF 1 aD) 1 bp) h c M)(l:ii M<=64)(i:aY n M)(s:n<=64):
  aq xD 184 #[xv (dB b)] h λv h'=>∃g:eY,v=xv (dB g)/\Sp h h' [ie g f n M]:=by
 refine Dw (dB b) ?_;refine bA (λe=>j0) λ_=>?_;refine⟨b,i0,dB f,d.cell0 i0,b,i0,n,d.cell i0,?_⟩;have m:au.ok [(b.add 1,(xt xz (n:Int))),(b,(xv (dB f)))] h:=⟨d.cell i0,d.cell0 i0,trivial⟩
 refine(NM b f n M c h d j l i s).mono ?_;rintro v u ⟨r,rfl,p⟩;have k:=kp p.ag m;refine⟨r,i0,k,p.boxed λa q o=>?_⟩;have t:Sp h q (al a 242 (gx f n r)::ce 71 r 1 bp (cF 1 aD) M::[]):=o.bv;refine⟨kp o.ag m,a,i0,?_⟩;exact ie.close t.nC
def dt(p:Pm)(seed:Int)(a:aw):aL:=if bM p then(a.filter bW).map (nU (bG p).toNat seed)else[]
theorem GV{p:Pm}{seed:Int}{a:aw}{k:Nat}(c:k<ii a):dt p seed (a.take (k+1))=dt p seed (a.take k)++(if(bM p&&bW a[k])=eR then[nU (bG p).toNat seed a[k]]else[]):=by
 unfold dt;by_cases b:bM p=eR
 ·rw[f9 b,f9 b,nV c];by_cases h:bW a[k]=eR
  ·rw[f9 h,f9 (by rw[b,h];rfl),qS];rfl
  ·rw[g0 h,g0 tg,qM]
 ·rw[g0 b,g0 b,g0 l4];rfl
theorem SP(p:Pm)(seed:Int)(b:aw):aY (bG p).toNat (dt p seed b):=λr a=>by
 unfold dt at a;split at a
 ·obtain⟨i,_,rfl⟩:=qu.1 a;exact OO _ _ _
 ·cases a
theorem JX(p:Pm)(seed:Int)(a:aw):ii (dt p seed a)<=ii a:=by
 unfold dt;split
 ·rw[qx];exact qT _ _
 ·simp
abbrev Fl:iZ Sl aL:=bH (cF 1 aD) 1 bp
theorem YQ(p:Pm)(seed:Int)(w:Sl)(W:bP)(h:f8)(Q:dQ (bH (cF 1 ak) 1 bp) h w W)(Z:ii W<=2^20)(O:∀l∈W,ii l<=2^20):
  aq xD 120 #[kb p,xt xB seed,w] h λv h'=>∃r:Sl,v=r/\Sp h h' [ce 56 r 1 bp Fl (W.map (dt p seed))]:=by
 refine Je p seed w ?_;obtain⟨T,y,N,D⟩:=bH.jl Q;have R:=y.len;refine(Sp.refl h).boxed λa h1 H=>?_;refine av (λt:Sl×Nat=>(t.1,(t.2:Int))) (λt h'=>t.2<=ii W/\Sp h h' [ce 56 t.1 1 bp Fl ((W.take t.2).map (dt p seed)),al a 26 [xt xz p.1,xt xz p.2.1,xt xz p.2.2]]) (λt=>ii W-t.2) (⟨eH,0,0⟩,0) i0 ⟨i9,(H.DS 56 1 bp Fl).bv⟩ ?_;rintro⟨o,k⟩ X ⟨V,z⟩;dsimp only at*;refine ac (λe=>?_) (λe=>?_)
 ·have m:k<ii W:=i4
  have I:=O _ (qg m);have G:=D k i4 m;refine(Seq.up y z.ag).lK k i0 i4 ?_;generalize T[k]'(by omega)=x at G;have K:=Seq.len G;refine av (λt:Sl×Nat=>(t.1,(t.2:Int))) (λt h'=>t.2<=W[k].length/\Sp h h' [ce 71 t.1 1 bp (cF 1 aD) (dt p seed (W[k].take t.2)),ce 56 o 1 bp Fl ((W.take k).map (dt p seed)),al a 26 [xt xz p.1,xt xz p.2.1,xt xz p.2.2]]) (λt=>W[k].length-t.2) (⟨eH,0,0⟩,0) i0 ⟨i9,by
    have:=(z.DS 71 1 bp (cF 1 aD)).bv;have M:dt p seed []=[]:=by unfold dt;split<;>rfl
    dsimp only;rw[List.take_zero,M];exact this⟩ ?_
  rintro⟨s,j⟩ h3 ⟨U,u⟩;dsimp only at*;refine ac (λS=>?_) (λS=>?_)
  ·have g:j<W[k].length:=i4
   refine(Seq.up G u.ag).bD j i0 g _ i0 ?_;refine⟨p,(u.box 2 i0).aP _ i0,(Qe p seed W[k][j] h3).mono ?_⟩;rintro v Y ⟨c,rfl,L,f⟩;refine⟨c,i0,?_⟩;have q:=(u.cj L).IF 0 i0 λ_=>rfl;have i:=JX p seed (W[k].take j);rw[qU]at i;refine bi (λn=>?_) (λn=>?_)
   ·rw[f]at n;have d:(bM p&&bW W[k][j])=eR:=l6
    rw[d,f9 rfl]at q;refine q.rv an 1 0 i5 i0 i0 fF i0 i5 (λ_=>rfl) jK i0 i5 i4 λF J A=>?_;have B:=A.nM;refine⟨(F,j+1),jj,⟨i6,?_⟩,i6⟩;dsimp only;rw[GV g,f9 d];exact B
   ·rw[f]at n;have d:¬(bM p&&bW W[k][j])=eR:=λP=>by rw[P]at n;cases n
    refine⟨(s,j+1),jj,⟨i6,?_⟩,i6⟩;dsimp only;rw[GV g,g0 d,qM];exact q.nM
  ·rw[qi i4]at u;have q:=u.TC 0 i0 λ_=>rfl;refine q.rv an 1 0 i5 (E:=Fl) (a:=s) (b:=dt p seed W[k]) i0 i0 (⟨_,_,i0,i0,i0,i0,i0,i0⟩:bU C.toAO 55 56 1 [xu eH 0 0] 24) i0 i5 (λ_=>rfl) jK i0 i5 i7 λF J A=>?_;refine⟨(F,k+1),jj,⟨i6,?_⟩,i6⟩;dsimp only;rw[aH _ _ m,qS];exact A.nM
 ·rw[qi i4]at z;exact⟨o,i0,z.oD⟩
def lC(R:List aL)(a:aw):Nat->aL
 |0=>[]
 |k+1=>lC R a k++if(k:Int)∈a then[]else R.getD k []
theorem MG{n:Nat}{R:List aL}(c:∀m∈R,aY n m)(b:aw):∀k,aY n (lC R b k)
 |0=>λr a=>by cases a
 |k+1=>λr a=>by
  rcases qA.1 a with a|a
  ·exact MG c b k r a
  ·split at a
   ·cases a
   ·rw[qe]at a;cases hg:R[k]? with
    |none=>rw[hg]at a;cases a
    |some m=>rw[hg]at a;exact c m (List.mem_of_getElem? hg) r a
theorem QM(R:List aL)(a:aw):∀{j k:Nat},j<=k->∃X,lC R a k=lC R a j++X
 |j,0,h=>⟨[],by
   have:j=0:=i4
   subst this;simp⟩
 |j,k+1,h=>by
  by_cases b:j=k+1
  ·subst b;exact⟨[],i9⟩
  ·obtain⟨X,c⟩:=QM R a (j:=j) (k:=k) i4;exact⟨X++if(k:Int)∈a then[]else R.getD k [],by rw[lC,c,qp]⟩
theorem abp{n:Nat}{m:aL}(d:aY n m)(h:ca m=n){b:aL}(a:aY n b)(c:∀r∈m,r∈b):ca b=n:=by have f:=lm a;have e:=Eh d a c;omega
theorem SQ(I f:eY)(n:Nat)(M A:aL)(u l g:Sl)(R:List aL)(a:aw)(h:f8)(hb:cw h I 242 (gx f n u))(T:dQ Fl h u M)(K:fH h f)(hl:dQ (bH Fl 1 bp) h l R)(hg:Rd h g 1 ak a)
  (hn:n<=64) (i:BX n M A) (hR:∀m∈R,aY n m/\m.length<=2^20) (ab:ii R<=2^20) (L:ii a<=2^30):
  aq xD 121 #[xv (dB I),l,g,xt xz n] h λv h'=>v=xx (decide (ca (A++lC R a R.length)=n))/\Sp h h' []:=by
 refine Jf (dB I) l g n ?_;obtain⟨ls,H,ao,Q⟩:=bH.jl hl;have ap:=H.len;have o:∀{p A':aL},BX n p A'->ii p<=64:=λx=>by have:=x.len;have:=lm x.evenA;omega
 have S:St (λb=>b<h.size) h [] λh'=>fH h' f:=.base K λh' hp=>K.ag hp K.lt;have N:aY n (A++lC R a R.length):=λr d=>(qA.1 d).elim (i.evenA r) (MG (λm hm=>(hR m hm).1) a _ r);refine(LB I f n M u h hb T (o i) i.even hn).mono ?_;rintro v h1 ⟨s,rfl,R1⟩;refine⟨dB s,i0,?_⟩;refine av (λk:Nat=>(k:Int)) (λk h'=>k<=ii R/\∃p,BX n p (A++lC R a k)/\Sp h h' [ie s f n p]) (λk=>ii R-k) 0 i0 ⟨i4,M,by simpa[lC]using i,R1⟩ ?_;rintro k h2 ⟨hk,M2,t,B⟩;refine ac (λe=>?_) (λe=>?_)
 ·have w:k<ii R:=i4
  have V:=Q k i4 w;refine(Seq.up H B.ag).lK k i0 i4 ?_;generalize ls[k]'(by omega)=x at V;have E:=hR _ (qg w);refine(nR g a k h2 (Seq.up hg B.ag) L).mono ?_;rintro v h3 ⟨rfl,rfl⟩;refine⟨_,i0,ac (λO=>?_) λq=>?_⟩
  ·refine⟨k+1,js,⟨i4,M2,?_,B⟩,i4⟩;rw[lC,f9 O,qM];exact t
  ·obtain⟨xs,G,am,P⟩:=bH.jl V;have ah:=G.len;have F:R.getD k []=R[k]:=by rw[qe,qd w];rfl
   refine av (λj:Nat=>(j:Int)) (λj h'=>j<=R[k].length/\∃p,BX n p ((A++lC R a k)++R[k].take j)/\Sp h h' [ie s f n p]) (λj=>R[k].length-j) 0 i0 ⟨i4,M2,sb,B⟩ ?_;rintro j h4 ⟨hj,J,c,D⟩;refine ac (λe2=>?_) (λe2=>?_)
   ·have z:j<R[k].length:=i4
    have U:=P j i4 z;refine(Seq.up G D.ag).lK j i0 i4 ?_;generalize xs[j]'(by omega)=y at U;refine(By s f n J D).mono ?_;rintro v h5 ⟨rfl,rfl⟩;refine⟨_,i0,cy (λY=>?_) λY=>?_⟩
    ·refine⟨?_,.zip D.ag⟩;have ad:((ii J:Nat):Int)=(n:Int):=Y;have W:ca ((A++lC R a k)++R[k].take j)=n:=by have:=c.len;omega
     have h7:ca (A++lC R a R.length)=n:=by
      refine abp c.evenA W N λr d=>?_;obtain⟨X,hX⟩:=QM R a (j:=k+1) (k:=ii R) i4;rw[hX,lC,g0 q,F];simp only[qA]at d⊢;rcases d with(d|d)|d
      ·exact .inl d
      ·exact .inr (.inl (.inl d))
      ·exact .inr (.inl (.inr (zD d)))
     rw[h7];simp
    ·refine(Ds s f n J y _ D S (Seq.up U D.ag) (E.1 _ (qg _)) hn c.even c.lead (o c)).mono ?_;rintro v W ⟨⟨b,rfl⟩,H6⟩;refine⟨b,i0,⟨j+1,js,⟨i4,_,?_,H6⟩,i4⟩⟩;have:=XC c (E.1 _ (qg z));rw[aH _ _ z,<-qp];exact this
   ·refine⟨k+1,js,⟨i4,J,?_,D⟩,i4⟩;rw[qi i4]at c;rw[lC,g0 q,F,<-qp];exact c
 ·have:k=ii R:=i4
  subst this;refine(By s f n M2 B).mono ?_;rintro v h5 ⟨rfl,rfl⟩;refine⟨_,i0,?_,.zip B.ag⟩;have:=t.len;congr 1;by_cases Z:ca (A++lC R a R.length)=n
  ·rw[g9 Z];exact beq_iff_eq.2 (show((ii M2:Nat):Int)=n by omega)
  ·rw[hU Z];exact beq_eq_false_iff_ne.2 (show((ii M2:Nat):Int)≠n by omega)
def sX(n t:Nat):bP:=(kt t 0 n).map ints
def Fm(n t:Int)(h:f8)(v:Value)(h':f8):Prop:=
 if 0<=n/\n<=64/\0<=t/\t<=n then
  if gI n t>4096 then v=.tuple #[xu eH 0 0,xt xz 13]/\h'=h
  else∃r:Sl,v=.tuple #[r,xt xz 0]/\Sp h h' [ce 22 r 1 bp (cF 1 ak) (sX n.toNat t.toNat)]
 else v=.tuple #[xu eH 0 0,xt xz 1]/\h'=h
theorem QN(n t:Int)(h:f8)(hn:0<=n/\n<=2^30)(ht:(0:Int)<=0):aq xD 115 #[xt xz n,xt xz t] h (Fm n t h):=by
 refine PB n t ?_;refine(Bx n t h).mono ?_;rintro v R ⟨rfl,rfl⟩;refine⟨_,i0,bi (λe=>?_) λe=>?_⟩
 ·show Fm n t R _ R;unfold Fm;rw[g0 (of_decide_eq_false e)];exact⟨i0,i0⟩
 ·have e:=hZ e;refine(rc n t R i4 i4).mono ?_;rintro v i ⟨rfl,rfl⟩;refine⟨_,i0,ac (λz=>?_) λz=>?_⟩
  ·show Fm n t i _ i;unfold Fm;rw[f9 e,f9 z];exact⟨i0,i0⟩
  ·refine(λG=>?_:(∀(v:Value) (h':f8),(∃r:Sl,v=.tuple #[r,xt xz 0]/\Sp i h' [ce 22 r 1 bp (cF 1 ak) (sX n.toNat t.toNat)])->Fm n t i v h')->_) (λv h' l=>by unfold Fm;rw[f9 e,g0 z];exact l);obtain⟨N,rfl⟩:∃N:Nat,n=N:=⟨n.toNat,i4⟩
   obtain⟨T,rfl⟩:∃T:Nat,t=T:=⟨t.toNat,i4⟩
   have V:ii (kt T 0 N)<=4096:=by
    rw[Hw N T 0 i4];have:gI (N:Int) T=((min (ch N T) 4097:Nat):Int):=by unfold gI;rw[f9 e];rfl
    rw[this]at z;have ah:¬(((min (ch N T) 4097:Nat):Int)>4096):=z;simp;omega
   refine(Sp.refl i).make an ak fS i5 0 i0 i0 T T i0 i0 (qm _) i4 λs h3 ad am H3=>?_;refine av (λk:Nat=>(k:Int)) (λk h'=>k<=T/\Sp i h' [ae 3 s 1 ak (ints (zR 0 k++qh (T-k) 0))]) (λk=>T-k) 0 i0 ⟨i4,by
    have J:ints (zR 0 0++qh (T-0) 0)=qh T 0:=by simp[ints]
    rw[J];exact H3⟩ ?_
   rintro k h4 ⟨hk,B⟩;refine ac (λW=>?_) (λW=>?_)
   ·have ap:k<T:=i4
    refine B.set an 0 i0 (λ_=>rfl) i0 k i0 (by simp[ints];omega) (k:Int) i0 i0 i0 λZ A=>?_;refine⟨k+1,js,⟨i4,?_⟩,i4⟩;have J:(ints (zR 0 k++qh (T-k) 0)).set k (k:Int)=ints (zR 0 (k+1)++qh (T-(k+1)) 0):=by
     have:(zR 0 k++qh (T-k) 0).set k k=zR 0 (k+1)++qh (T-(k+1)) 0:=by rw[qX _ _ i9,List.length_range',ze,show T-k=T-(k+1)+1 by omega,yl,zw,List.range'_concat];simp
     rw[<-this];simp[ints,vO]
    rw[J]at A;exact A
   ·have:k=T:=i4
    subst this;rw[ze,vz,qM]at B;refine(jF s _ h4 (B.seq 0 i0 λ_=>rfl) (by simp[ints];omega)).mono ?_;rintro v Z ⟨c,rfl,R5⟩;have A:=(B.cj R5).IF 0 i0 λ_=>rfl;refine⟨c,i0,?_⟩;refine A.lit an bp (⟨_,_,i0,i0,i0,i0,i0,i0⟩:bU C.toAO 37 22 1 [xu eH 0 0] 24) i0 [c] i0 (show 1*1<=2^20 by decide) i0 λo h6 H6=>?_;have H7:Sp i h6 (ce 22 o 1 bp (cF 1 ak) [ints (zR 0 k)]::ae 3 s 1 ak (ints (zR 0 k))::[]):=(H6.aeu (E:=cF 1 ak) (a:=c) (b:=ints (zR 0 k)) 2 0 i5 i0 i0).bv.oD;have Q:=En N k 0 i4;refine av (λx:Sl×List (List Nat)×List Nat×List (List Nat)=>x.1) (λx h'=>x.2.1++x.2.2.2=kt k 0 N/\oQ N x.2.2.1 x.2.2.2/\x.2.2.1.length=k/\(∀y∈x.2.2.1,y<N)/\Sp i h' [ce 22 x.1 1 bp (cF 1 ak) ((x.2.1++[x.2.2.1]).map ints),ae 3 s 1 ak (ints x.2.2.1)]) (λx=>ii x.2.2.2) (o,[],zR 0 k,kt k 0 N) i0 ⟨i0,Q,i9,λy D=>by rw[List.mem_range'_1]at D;omega,by simpa using H7⟩ ?_;rintro⟨o,g,f,rest⟩ h8 ⟨u,w,ao,F,S⟩;dsimp only at*;refine(YN N s f S 1 i0 i4 i4 F).mono ?_;intro v p l;cases hs:jU N f with
    |none=>
     rw[hs]at l;obtain⟨rfl,rfl⟩:=l;refine⟨eS,i0,?_⟩;refine tK i0 (G _ _ ⟨o,i0,?_⟩);rw[ql,ql];have:rest=[f]:=by
      cases w with
      |last _=>rfl
      |more h _=>rw[hs]at h;cases h
     rw[this]at u;unfold sX;rw[<-u];exact S.oD
    |some cur'=>
     rw[hs]at l;obtain⟨rfl,M⟩:=l;refine⟨eR,i0,DM i0 ?_⟩;obtain⟨L,H,d⟩:∃L,oQ N cur' L/\rest=f::L:=by
      cases w with
      |last h=>rw[hs]at h;cases h
      |more h h'=>rw[hs]at h;injection h with h;subst h;exact⟨_,h',i0⟩
     have j:Sp i p [ce 22 o 1 bp (cF 1 ak) ((g++[f]).map ints),ae 3 s 1 ak (ints cur')]:=M;have q:cur'∈kt k 0 N:=by
      rw[<-u,d];have:cur'∈L:=by cases H<;>simp
      simp[this]
     have m:=BW q;have Y:ii g+2<=ii (kt k 0 N):=by
      rw[<-u,d];have:1<=ii L:=by cases H<;>simp
      simp;omega
     refine(jF s _ p (j.seq 1 i0 λ_=>rfl) (by rw[kQ];omega)).mono ?_;rintro v X ⟨U,rfl,I⟩;have O:=(j.cj I).IF 0 i0 λ_=>rfl;refine⟨U,i0,?_⟩;refine O.rv an 1 0 i5 (E:=cF 1 ak) (a:=U) (b:=ints cur') i0 i0 (⟨_,_,i0,i0,i0,i0,i0,i0⟩:bU C.toAO 37 22 1 [xu eH 0 0] 24) i0 i5 (λ_=>rfl) jK i0 i5 i7 λo' ab K=>?_;refine⟨(o',g++[f],cur',L),i0,⟨by dsimp only;rw[<-u,d];simp,H,m.1,λy D=>(m.2.1 y D).2,?_⟩,by dsimp only;rw[d];simp⟩;have P:=K.nM;dsimp only;rw[qS (l₁:=g++[f])];exact P
def jW(W:bP)(a:aw):Nat->aw
 |0=>[]
 |k+1=>jW W a k++if(k:Int)∈a then[]else W.getD k []
def gA(p:Pm)(seed:Int)(W:bP)(a:aw):Nat:=nO p seed (jW W a W.length)
theorem VP(p:Pm)(seed:Int)(a b:aw):dt p seed (a++b)=dt p seed a++dt p seed b:=by unfold dt;split<;>simp
theorem MH(p:Pm)(seed:Int)(W:bP)(a:aw):∀k,lC (W.map (dt p seed)) a k=dt p seed (jW W a k)
 |0=>by simp[lC,jW,dt]
 |k+1=>by
  rw[lC,jW,VP,MH p seed W a k];congr 1;by_cases h:(k:Int)∈a
  ·rw[f9 h,f9 h];simp[dt]
  ·rw[g0 h,g0 h,qe,qR,qe];cases W[k]? with
   |none=>simp[dt]
   |some l=>rfl
theorem YR{p:Pm}(b:bM p=eR)(seed:Int)(a:aw):dP p seed a=bC p.1.toNat p.2.1.toNat++dt p seed a:=by unfold dP dt;rw[f9 b,f9 b]
def mE(p:Pm)(seed:Int)(W:bP)(t:Nat):Option (aw):=(sX W.length t).find? λg=>decide ((gA p seed W g:Int)≠bG p)
def ig(p:Pm)(seed:Int)(W:bP)(t:Int):aw×Bool×Int:=
 if bM p then
  if 0<=t/\t<=ii W/\W.length<=64 then
   if gI W.length t>4096 then([],eS,13)
   else match mE p seed W t.toNat with
    |some g=>(g,eR,0)
    |none=>([],eS,0)
  else([],eS,1)
 else([],eS,1)
theorem LC(K H:Nat):aY (K+H) (bC K H):=λr a=>by
 obtain⟨i,_,rfl⟩:=qu.1 a;exact ua _ _ _
theorem MI{α:Type}(f:α->Bool)(l:List α){k:Nat}(b:k<ii l)(a:(l.take k).find? f=eH):(l.take (k+1)).find? f=if f l[k]then dB l[k]else eH:=by rw[aH _ _ b,List.find?_append,a,Option.none_or,List.find?_cons];cases f l[k]<;>rfl
theorem YS{α:Type}(f:α->Bool)(l:List α){k:Nat}{x:α}(h:(l.take k).find? f=dB x):l.find? f=dB x:=by have:l=l.take k++l.drop k:=(qF k l).symm;rw[this,List.find?_append,h];rfl
theorem JY(p:Pm)(seed:Int)(w:Sl)(W:bP)(t:Int)(h:f8)(hW:dQ (bH (cF 1 ak) 1 bp) h w W)(hl:ii W<=2^20)(hr:∀l∈W,ii l<=2^20)(ht:(0:Int)<=0):
  aq xD 57 #[kb p,xt xB seed,w,xt xz t] h λv h'=>∃r:Sl,v=.tuple #[r,xx (ig p seed W t).2.1,xt xz (ig p seed W t).2.2]/\Sp h h' [EA (cF 1 ak) r (ig p seed W t).1]:=by
 refine IY p seed w t ?_;have a4:=bH.len hW;have j:∀{h1:f8},aZ (λb=>b<h.size) h h1->Sp h h1 [EA (cF 1 ak) ⟨eH,0,0⟩ []]:=λF=>.one F (Seq.nil _ _ _ _ _ _);refine(Sp.refl h).boxed λa h1 H1=>?_;refine⟨p,(H1.box 0 i0).aP _ i0,(eT p h1).mono ?_⟩;rintro v h2 ⟨rfl,R2⟩;have H2:=H1.comp R2;refine⟨_,i0,bi (λe=>?_) λe=>?_⟩
 ·refine⟨⟨eH,0,0⟩,?_,?_⟩<;>(unfold ig;rw[g0 l7])
  exact j H2.ag
 ·have F:bM p=eR:=e;refine(QN (w.len:Int) t h2 i4 ht).mono ?_;intro v h3 H;unfold Fm at H;rw[a4]at H;have J:(0<=((ii W:Nat):Int)/\((ii W:Nat):Int)<=64/\0<=t/\t<=((ii W:Nat):Int))↔(0<=t/\t<=ii W/\W.length<=64):=i4
  by_cases I:0<=t/\t<=ii W/\W.length<=64
  ·rw[f9 (J.2 I)]at H;by_cases P:gI W.length t>4096
   ·rw[f9 P]at H;obtain⟨rfl,rfl⟩:=H;refine⟨(⟨eH,0,0⟩,13),i0,ci (λ_=>?_) λe=>j0⟩;refine⟨⟨eH,0,0⟩,?_,?_⟩<;>(unfold ig;rw[f9 F,f9 I,f9 P])
    exact j H2.ag
   ·rw[g0 P]at H;obtain⟨r,rfl,R3⟩:=H;refine⟨(r,0),i0,ci (λe=>absurd i0 e) λ_=>?_⟩;dsimp only;rw[ql]at R3;have wR:ig p seed W t=match mE p seed W t.toNat with|some g=>(g,eR,0)|none=>([],eS,0):=by unfold ig;rw[f9 F,f9 I,g0 P]
    obtain⟨L,hL⟩:∃L,L=sX W.length t.toNat:=⟨_,rfl⟩
    rw[<-hL]at R3;have a9:ii L<=4096:=by
     have Z:gI (ii W:Int) t=((min (ch W.length t.toNat) 4097:Nat):Int):=by unfold gI;rw[f9 (J.2 I)];rfl
     rw[Z]at P;rw[hL,sX,qx,Hw _ _ 0 i4,Nat.sub_zero];omega
    have H3:Sp h h3 [al a 26 [xt xz p.1,xt xz p.2.1,xt xz p.2.2],ce 22 r 1 bp (cF 1 ak) L]:=H2.comp R3;have pp:=(cm p).1 F;have ay:bG p=p.1+p.2.1:=nZ F;obtain⟨n,hn⟩:∃n:Nat,bG p=n:=⟨(bG p).toNat,i4⟩
    have u:n<=64:=i4
    refine⟨p,(H3.box 0 i0).aP _ i0,(kj p h3).mono ?_⟩;rintro v h4 ⟨rfl,R4⟩;have H4:=H3.up R4.ag;refine⟨_,i0,(pi h4).mono ?_⟩;rintro v h5 ⟨f,rfl,R5⟩;have H5:=H4.cj R5;rw[hn];refine⟨dB f,i0,(NL f n h5 u).mono ?_⟩;rintro v Z ⟨O,rfl,R6⟩;have H6:Sp h Z [ie O f n [],al f 238 df,al a 26 [xt xz p.1,xt xz p.2.1,xt xz p.2.2],ce 22 r 1 bp (cF 1 ak) L]:=H5.cj R6;refine⟨dB O,i0,p,(H6.box 2 i0).aP _ i0,(sl p Z).mono ?_⟩;rintro v h7 ⟨Y,rfl,R7⟩;rw[f9 F]at R7;obtain⟨A,B⟩:∃A,A=bC p.1.toNat p.2.1.toNat:=⟨_,rfl⟩
    rw[<-B]at R7;have U:aY n A:=by have:=LC p.1.toNat p.2.1.toNat;rw[B,show n=p.1.toNat+p.2.1.toNat by omega];exact this
    have bk:ii A<=4:=by rw[B];simp[bC];omega
    have H7:Sp h h7 [ie O f n [],al f 238 df,al a 26 [xt xz p.1,xt xz p.2.1,xt xz p.2.2],ce 22 r 1 bp (cF 1 ak) L,ce 71 Y 1 bp (cF 1 aD) A]:=(H6.comp R7).NZ 4 i0;have T:∀{M' A':aL},BX n M' A'->ii M'<=64:=λx=>by have:=x.len;have:=lm x.evenA;omega
    refine⟨Y,i0,?_⟩;refine av (λk:Nat=>(k:Int)) (λk h'=>k<=ii A/\∃M,BX n M (A.take k)/\Sp h h' [ie O f n M,al f 238 df,al a 26 [xt xz p.1,xt xz p.2.1,xt xz p.2.2],ce 22 r 1 bp (cF 1 ak) L,ce 71 Y 1 bp (cF 1 aD) A]) (λk=>ii A-k) 0 i0 ⟨i4,[],by simpa using aeH n,H7⟩ ?_;rintro k h8 ⟨hk,M,o,R⟩;have a8:=(R.UE 4 i0).1;refine ac (λe2=>?_) (λe2=>?_)
    ·have c:k<ii A:=i4
     refine bH.mv (R.LR 4 i0 λ_=>rfl) k i0 c λx hx=>?_;refine(Ds O f n M x _ R (St.dS 0 i0 λh' y=>y.1) hx (U _ (qg _)) u o.even o.lead (T o)).mono ?_;rintro v h9 ⟨⟨b,rfl⟩,H9⟩;refine⟨b,i0,⟨k+1,js,⟨i4,_,?_,H9⟩,i4⟩⟩;rw[aH _ _ c];exact XC o (U _ (qg c))
    ·rw[qi i4]at o;refine⟨p,(R.box 2 i0).aP _ i0,(YQ p seed w W h8 (dQ.up hW R.ag) hl hr).mono ?_⟩;rintro v h9 ⟨K,rfl,R9⟩;have H9:=R.comp R9;refine⟨K,i0,?_⟩;have ax:∀m∈W.map (dt p seed),aY n m/\m.length<=2^20:=λm P=>by
      obtain⟨l,a0,rfl⟩:=qu.1 P;refine⟨?_,zd (JX p seed l) (hr l a0)⟩;have:=SP p seed l;rw[hn]at this;exact this
     let d:aw->Bool:=λg=>decide ((gA p seed W g:Int)≠bG p);have wI:mE p seed W t.toNat=L.find? d:=by unfold mE;rw[<-hL]
     have bd:=(H9.UE 3 i0).1;refine av (λk:Nat=>(k:Int)) (λk h'=>k<=ii L/\(L.take k).find? d=eH/\Sp h h' [ie O f n M,al f 238 df,al a 26 [xt xz p.1,xt xz p.2.1,xt xz p.2.2],ce 22 r 1 bp (cF 1 ak) L,ce 71 Y 1 bp (cF 1 aD) A,ce 56 K 1 bp Fl (W.map (dt p seed))]) (λk=>ii L-k) 0 i0 ⟨i4,i9,H9⟩ ?_;rintro k a5 ⟨a7,G,s⟩;refine ac (λe3=>?_) (λe3=>?_)
     ·have c:k<ii L:=i4
      refine bH.agq (s.LR 3 i0 λ_=>rfl) k i0 c λad x ap N hx=>?_;obtain⟨ah,hb,a6⟩:=ie.rd s 0 rfl;have am:L[k].length<=2^30:=by
       have a3:L[k]∈sX W.length t.toNat:=by have h0:L[k]∈L:=qg c;generalize L[k]=y at h0;rw[hL]at h0;exact h0
       obtain⟨g,hg,ao⟩:=qu.1 a3;have:=(BW hg).1;rw[<-ao,kQ,this];have:=I.2.1;have:=I.2.2;omega
      refine(SQ O f n M A ah K x (W.map (dt p seed)) L[k] a5 hb a6 (s.box 1 i0) (s.LR 5 i0 λ_=>rfl) hx u o ax i7 am).mono ?_;rintro v bb ⟨rfl,X⟩;have ab:(decide (ca (A++lC (W.map (dt p seed)) L[k] (W.map (dt p seed)).length)=n))=!d L[k]:=by
       rw[MH,qx,B,<-YR F];show _=!decide ((gA p seed W L[k]:Int)≠bG p);rw[hn];unfold gA nO;by_cases hh:ca (dP p seed (jW W L[k] W.length))=n
       ·simp[hh]
       ·rw[hU hh,g9 i4];rfl
      rw[ab];have V:=s.up X.ag;refine⟨_,i0,bi (λe4=>?_) λe4=>?_⟩
      ·have Q:d L[k]=eR:=by simpa using e4
       have S:=MI d L c G;rw[f9 Q]at S;have z:ig p seed W t=(L[k],eR,0):=by rw[wR,wI,YS d L S]
       refine⟨x,by rw[z],?_⟩;rw[z];have a1:=V.TC 3 i0 λ_=>rfl;have E:=ow N X.ag;have a2:=a1.gb (D:=EA (cF 1 ak) x L[k]) 3 i0 λq hq=>bH.pick hq k c ap E;exact a2.take 3 λi A' hi=>by cases i with|zero=>exact hi|succ i=>simp at hi
      ·have Q:d L[k]=eS:=by simpa using e4
       have S:=MI d L c G;rw[Q]at S;exact⟨k+1,js,⟨i4,S,V⟩,i4⟩
     ·rw[qi i4]at G;have z:ig p seed W t=([],eS,0):=by rw[wR,wI,G]
      refine⟨⟨eH,0,0⟩,by rw[z],?_⟩;rw[z];exact j s.ag
  ·rw[g0 λhh=>I (J.1 hh)]at H;obtain⟨rfl,rfl⟩:=H;refine⟨(⟨eH,0,0⟩,1),i0,ci (λ_=>?_) λe=>j0⟩;refine⟨⟨eH,0,0⟩,?_,?_⟩<;>(unfold ig;rw[f9 F,g0 I])
   exact j H2.ag
theorem xZ(p:Pm)(seed:Int)(w g:Sl)(W:bP)(b:aw)(h:f8)(G:dQ (bH (cF 1 ak) 1 bp) h w W)(H:Rd h g 1 ak b)(N:ii W<=2^8)(u:∀l∈W,ii l<=2^20)(s:ii b<=2^30):
  aq xD 12 #[kb p,xt xB seed,w,g] h λv h'=>v=xt xz (gA p seed W b)/\Sp h h' []:=by
 refine IV p seed w g ?_;obtain⟨K,j,F,q⟩:=bH.jl G;have J:=j.len;have m:∀k,k<=ii W->ii (jW W b k)<=k*2^20:=by
  intro k
  induction k with
  |zero=>intro _;simp[jW]
  |succ k ih=>
   intro A;have L:=ih i4;rw[jW,qw];have r:ii (if(k:Int)∈b then[]else W.getD k [])<=2^20:=by
    split
    ·simp
    ·rw[qe,qd i4];exact u _ (qg _)
   omega
 refine(Sp.refl h).boxed λa L z=>?_;refine av (λt:Sl×Nat=>(t.1,(t.2:Int))) (λt h'=>t.2<=ii W/\Sp h h' [ae 3 t.1 1 ak (jW W b t.2),al a 26 [xt xz p.1,xt xz p.2.1,xt xz p.2.2]]) (λt=>ii W-t.2) (⟨eH,0,0⟩,0) i0 ⟨i9,(z.nil 3 1 ak).bv⟩ ?_;rintro⟨o,k⟩ r ⟨A,d⟩;dsimp only at*;refine ac (λe=>?_) (λe=>?_)
 ·have i:k<ii W:=i4
  have y:=q k i4 i;refine(Seq.up j d.ag).lK k i0 i4 ?_;generalize K[k]'(by omega)=x at y;have n:W.getD k []=W[k]:=by rw[qe,qd i];rfl
  refine(nR g b k r (Seq.up H d.ag) s).mono ?_;rintro v h3 ⟨rfl,rfl⟩;refine⟨_,i0,bi (λc=>?_) λf=>?_⟩
  ·have c:=of_decide_eq_false c;have I:=m k i4;have M:=u _ (qg i);refine d.append an 0 i0 fS ⟨_,_,i0,i0⟩ i0 i5 (λ_=>rfl) (Seq.up y d.ag) eJ (by
    have:k*2^20<=2^8*2^20:=za _ i4;omega) λD O E=>?_
   refine⟨(D,k+1),jj,⟨i6,?_⟩,i6⟩;dsimp only;rw[jW,g0 c,n];exact E
  ·have f:=hZ f;refine⟨(o,k+1),jj,⟨i6,?_⟩,i6⟩;dsimp only;rw[jW,f9 f,qM];exact d
 ·have:k=ii W:=i4
  subst this;have I:=m W.length (qm _);refine⟨p,(d.box 1 i0).aP _ i0,(uz p seed o _ r (d.seq 0 i0 λ_=>rfl) (by
   have:ii W*2^20<=2^8*2^20:=za _ i4;omega)).mono ?_⟩
  rintro v h3 ⟨rfl,B⟩;exact⟨_,i0,i0,.zip (d.comp B).ag⟩
end Go.Qw
namespace Wl
open Go Go.Qw Go.Vc
def ke(W:bP)(id:Int):Bool:=W.any λl=>decide (id∈l)
def AK(W:bP):Nat:=W.flatten.foldr (λx a=>max a x.toNat) 0
theorem QO{x:Int}:∀{l:aw},x∈l->x.toNat<=l.foldr (λx a=>max a x.toNat) 0
 |[],h=>j8
 |y::l,h=>by
  rw[List.foldr_cons];rcases q8.1 h with rfl|h
  ·omega
  ·have:=QO h;omega
theorem LD{W:bP}{x:Int}(h:x∈W.flatten):x.toNat<=AK W:=QO h
theorem LF{W:bP}{i:Nat}(h:ke W (i:Int)=eR):i<=AK W:=by unfold ke at h;rw[List.any_eq_true]at h;obtain⟨l,a,b⟩:=h;have:=LD (List.mem_flatten.2 ⟨l,a,hZ b⟩);omega
def po(W:bP):Nat->Nat->Nat
 |0,i=>i
 |f+1,i=>if ke W (i:Int)then po W f (i+1)else i
def cT(W:bP):Nat:=po W (AK W+1) 0
theorem AL(W:bP):∀f i,AK W<f+i->ke W (po W f i:Int)=eS/\i<=po W f i/\∀j,i<=j->j<po W f i->ke W (j:Int)=eR
 |0,i,h=>by
  refine⟨?_,qm _,λj g d=>absurd d (by unfold po;omega)⟩;cases e:ke W ((po W 0 i:Nat):Int)with
  |false=>rfl
  |true=>have:=LF e;unfold po at this;omega
 |f+1,i,h=>by
  unfold po;cases e:ke W (i:Int)with
  |false=>rw[g0 i5];exact⟨e,qm _,λj g d=>i4⟩
  |true=>
   rw[f9 rfl];obtain⟨a,b,c⟩:=AL W f (i+1) i4;refine⟨a,i4,λj g d=>?_⟩;by_cases k:j=i
   ·rw[k];exact e
   ·exact c j i4 d
theorem MJ(W:bP):ke W (cT W:Int)=eS:=(AL W _ 0 i4).1
theorem Fo{W:bP}{j:Nat}(h:j<cT W):ke W (j:Int)=eR:=(AL W _ 0 i4).2.2 j (zo _) h
theorem VQ{W:bP}{i:Nat}(a:ke W (i:Int)=eS)(b:∀j,j<i->ke W (j:Int)=eR):cT W=i:=by
 rcases Nat.lt_trichotomy (cT W) i with h|h|h
 ·have:=b _ h;rw[MJ W]at this;cases this
 ·exact h
 ·have:=Fo h;rw[a]at this;cases this
theorem QP(W:bP):cT W<=AK W+1:=by
 cases e:cT W with
 |zero=>omega
 |succ n=>have:=LF (Fo (W:=W) (j:=n) i4);omega
def fU(live:aw)(s:Int):Int:=match live.idxOf? s with|some k=>(k:Int)|none=>-1
def iG(m:aC)(c:aV)(w:Pow)(ds:aE)(s:Int)(d:bj):Int×Pow×aE:=
 let r:=gj m w d 1
 if r.1≠0 then(r.1,r.2.1,bK ds s r.2.2)else
  let q:=r.2.2.append r.2.1 c
  (q.1,q.2.1,bK (bK ds s r.2.2) s q.2.2)
def gy(m:aC)(live set:aw)(order:aw)(c:aV)(id:Nat)(w:Pow)(ds:aE):List Nat->(Int×Pow×aE)×Int×Int
 |[]=>((7,w,ds),0,0)
 |i::l=>
  let s:=fZ order ((id:Int)+i)
  match aX ds s with
  |none=>gy m live set order c id w ds l
  |some d=>if fU live s∈set∨gP m d 1=eS then gy m live set order c id w ds l
   else(iG m c w ds s d,fU live s,s)
structure ir where
 o:Int
 b:Int
 seed:Int
 M:aL
 W:bP
 got:aw
 deriving Inhabited
def ir.Fp(x:ir)(m:aC)(id:Nat):cW:=⟨x.o,x.b,id,m.p,x.seed,if bW id then fR m.p.2.2.toNat x.M (dE (bG m.p).toNat x.seed id)else[]⟩
def ir.su(x:ir)(id:Nat)(k s:Int):ir:={x with W:=x.W.set k.toNat (x.W.getD k.toNat []++[(id:Int)]),got:=x.got++[s]}
def di(m:aC)(live set:aw)(w:Pow)(ds:aE)(x:ir):Int×Pow×aE×ir:=
 let id:=cT x.W;let o:=dR x.o x.b live;let r:=gy m live set o (dn (x.Fp m id)) id w ds (List.range o.length)
 (r.1.1,r.1.2.1,r.1.2.2,if r.1.1=0 then x.su id r.2.1 r.2.2 else x)
def cX(m:aC)(live:aw)(t most:Int):Nat->Pow->aE->ir->Int×Pow×aE×ir
 |0,w,ds,x=>(12,w,ds,x)
 |f+1,w,ds,x=>
  let r:=ig m.p x.seed x.W t
  if r.2.2≠0 then(r.2.2,w,ds,x)else if r.2.1=eS then(0,w,ds,x)else if(ii x.got:Int)>=most then(12,w,ds,x)else
   let q:=di m live r.1 w ds x
   if q.1≠0 then q else cX m live t most f q.2.1 q.2.2.1 q.2.2.2
end Wl
namespace Go.Qw
open Go Go.Vc Go.Proofs Wl
theorem LG(s:Sl)(l:Row)(c:UInt8)(h:f8)(p:Rd h s 1 aD l)(u:s.len<=s.cap)(w:ii l<=2^30):
  aq xD 288 #[s,xt xA c.toNat] h λv h'=>∃k:Nat,v=xu s.ptr k s.cap/\k<=ii l/\(∀j (f:j<ii l),k<=j->l[j]=c)/\(∀(d:k-1<ii l),0<k->l[k-1]≠c)/\h'=h:=by
 refine vk s _ ?_;have n:=p.len;refine bc ?_;refine av (λk:Nat=>(⟨s.ptr,k,s.cap⟩:Sl)) (λk h'=>h'=h/\k<=ii l/\∀j (f:j<ii l),k<=j->l[j]=c) (λk=>k) l.length (by rw[<-n]) ⟨i0,qm _,λj f d=>i4⟩ ?_;rintro k y ⟨rfl,d,b⟩;dsimp only;refine bc (ac (λe=>?_) λe=>?_)
 ·have q:0<k:=i4
  rw[af _];refine(p.take k d).bD (g:=λx:UInt8=>Value.int .u8 x.toNat) (k-1) i4 i7 (l[k-1]'(by omega)) (by simp[aD]) ?_|>λ⟨a,ha,x,hx,hK⟩=>⟨a,ha,x.toNat,hx,hK⟩
  refine cy (λo=>?_) (λo=>?_)
  ·have i:l[k-1]'(by omega)=c:=by
    have:(l[k-1]'(by omega)).toNat=c.toNat:=by exact_mod_cast o
    exact wT.1 this
   refine⟨⟨i4,i4⟩,k-1,by congr 1;omega,⟨i0,i4,λj f t=>?_⟩,i4⟩;by_cases m:j=k-1
   ·subst m;exact i
   ·exact b j f i4
  ·refine⟨k,i0,d,b,λ_ _ r=>o q0,i0⟩
 ·exact⟨k,i0,d,b,λ_ h0=>i4,i0⟩
theorem NN(s:Sl)(l:Row)(c:UInt8)(h:f8)(p:Rd h s 1 aD l)(z:s.len<=s.cap)(E:ii l<=2^30):
  aq xD 287 #[s,xt xA c.toNat] h λv h'=>(∃r:Sl,v=r/\(r.len=0↔∀x∈l,x=c))/\h'=h:=by
 refine Ax s _ ?_;have q:=p.len;refine bT (λr h'=>h'=h/\(r.len=0↔∀x∈l,x=c)) ?_ ?_
 ·refine av (λt:Sl×Nat=>t.1) (λt h'=>h'=h/\t.2<=ii l/\(∀j (d:j<ii l),j<t.2->l[j]=c)/\Rd h t.1 1 aD (l.drop t.2)/\t.1.len<=t.1.cap) (λt=>ii l-t.2) (s,0) i0 ⟨i0,i9,λj _ d=>i4,o7,z⟩ ?_;rintro⟨r,k⟩ A ⟨rfl,D,a,b,m⟩;dsimp only at*;have g:=b.len;rw[zi]at g;refine bc (ac (λe=>?_) λe=>?_)
  ·have i:k<ii l:=i4
   refine b.bD 0 i0 l5 _ i0 ?_;have w:(l.drop k)[0]'(by rw[zi];omega)=l[k]:=i9
   rw[w];refine cy (λn=>?_) (λn=>?_)
   ·have f:l[k]=c:=by
     have:(l[k]).toNat=c.toNat:=by exact_mod_cast n
     exact wT.1 this
    refine⟨⟨i4,i4⟩,(⟨if r.cap=1 then r.ptr else r.ptr.map (·.add (1*1)),r.len-1,r.cap-1⟩,k+1),i0,⟨i0,i4,λj d o=>?_,?_,i6⟩,i6⟩
    ·rcases zy.1 o with h2|rfl
     ·exact a j d h2
     ·exact f
    ·have:=b.drop 1 m;rw[zJ]at this;exact this
   ·refine⟨i0,⟨λh0=>i4,λy=>absurd ?_ n⟩⟩;rw[y _ (qg i)]
  ·have u:k=ii l:=i4
   refine⟨i0,⟨λ_ x B=>?_,λ_=>by show r.len=0;omega⟩⟩;obtain⟨j,d,rfl⟩:=qL B;exact a j d i4
 ·rintro r A ⟨rfl,b⟩;refine cy (λe=>?_) (λe=>?_)
  ·exact⟨⟨⟨eH,0,0⟩,i0,by rw[<-b];exact⟨λ_=>i4,λ_=>rfl⟩⟩,i0⟩
  ·exact⟨⟨r,i0,b⟩,i0⟩
theorem MK(s:Sl)(l:Row)(cut:ByteArray)(a:cut=⟨#[0]⟩)(h:f8)(d:Rd h s 1 aD l)(p:s.len<=s.cap)(q:ii l<=2^30):
  aq xD 230 #[s,xw cut] h λv h'=>(∃r:Sl,v=r/\(r.len=0↔∀x∈l,x=0))/\h'=h:=by
 subst a;refine Li s _ ?_;have i:=d.len;refine cy (λe=>?_) (λe=>?_)
 ·refine⟨⟨⟨eH,0,0⟩,i0,⟨λ_ x b=>?_,λ_=>rfl⟩⟩,i0⟩;have:l=[]:=List.eq_nil_of_length_eq_zero i4;subst this;cases b
 ·refine tK j4 (bc (DM j4 ?_));refine⟨0,⟨i5,i0⟩,DM i5 ?_⟩;refine⟨0,⟨i5,i0⟩,0,⟨i5,i0⟩,?_⟩;refine(LG s l 0 h d p q).mono ?_;rintro v t ⟨k,rfl,g,m,h3,rfl⟩;refine⟨⟨s.ptr,k,s.cap⟩,i0,trivial,?_⟩;refine(NN ⟨s.ptr,k,s.cap⟩ (l.take k) 0 t (d.take k g) (by show k<=s.cap;omega) i7).mono ?_;rintro v u ⟨⟨r,rfl,n⟩,rfl⟩;refine⟨r,i0,trivial,⟨r,i0,n.trans ⟨λc x b=>?_,λc x b=>c x (zD b)⟩⟩,i0⟩;obtain⟨j,f,rfl⟩:=qL b;by_cases o:j<k
  ·exact c _ (by rw[List.mem_take_iff_getElem];exact⟨j,i4,i0⟩)
  ·exact m j f i4
def qv(x:Sl×Sl):ba:=[x.1,x.2]
theorem YT:∀x,∀c∈qv x,c.oneCell'=eR:=λx c a=>by
 simp only[qv,q8,List.not_mem_nil,or_false]at a;rcases a with rfl|rfl<;>rfl
def ju:iZ (Sl×Sl) fq:=⟨λh q a e=>Seq h q a.1 1 ak e.1/\Seq h q a.2 1 aD e.2,λa b=>⟨a.1.ag b,a.2.ag b⟩,λa c=>⟨a.1.mono c,a.2.mono c⟩⟩
abbrev pq:iZ Sl (List fq):=bH ju 2 qv
abbrev agd:iZ Sl aL:=bH (rZ 1 aD) 1 bp
abbrev eQ:bU C.toAO 287 289 2 [xu eH 0 0,xu eH 0 0] 48:=⟨_,_,i0,i0,i0,i0,i0,i0⟩
abbrev YU:bU C.toAO 56 71 1 [xu eH 0 0] 24:=⟨_,_,i0,i0,i0,i0,i0,i0⟩
abbrev acS:bU C.toAO 296 4 1 [xx eS] 1:=⟨_,_,i0,i0,i0,i0,i0,i0⟩
theorem pq.get{h:f8}{q:aA}{s:Sl}{L:List fq}(x:pq.p h q s L){i:Int}(n:Nat)(b:i=n)(c:n<ii L){K:Sl×Sl->Prop}(e:∀r,ju.p h q r L[n]->K r):
  ∃a:eY,(s.ptr=dB a/\0<=i/\i<((s.len:Nat):Int))/\∃x:Sl×Sl,aj h (a.add (i.toNat*2)) 0 [x.1,x.2]/\K x:=by
 obtain⟨rs,d,f,h3⟩:=bH.jl x;exact d.dZ (g:=qv) n b i4 (rs[n]'(by omega)) i0 (e _ (h3 n i4 c))
structure uH (h:f8) (p:eY) (l k v:Sl) (L:List fq) (kn:List Bool) (vs:aL):Prop where
 box:cw h p 351 [l,k,v]
 eqs:dQ pq h l L
 known:Rd h k 1 fh kn
 vals:dQ agd h v vs
theorem uH.up{h h':f8}{p:eY}{l k v:Sl}{L:List fq}{kn:List Bool}{vs:aL}(x:uH h p l k v L kn vs)(a:aZ (λb=>b<h.size) h h'):uH h' p l k v L kn vs:=
 ⟨x.box.ag a x.box.lt,dQ.up x.eqs a,Seq.up x.known a,dQ.up x.vals a⟩
theorem QQ{kn:List Bool}{c:Int}(b:0<=c)(a:c.toNat<ii kn):Wl.kn kn c=kn[c.toNat]:=by unfold Wl.kn;rw[qe,qd a];rfl
theorem mu{m:aL}{i:Nat}(h:i<ii m):aB m i=m[i]:=bz h
theorem jC{α:Type}(f:α->Bool)(l:List α){k:Nat}(a:k<ii l):(l.take (k+1)).filter f=(l.take k).filter f++if f l[k]then[l[k]]else[]:=by rw[aH _ _ a,zq,zr];cases f l[k]<;>rfl
theorem rU(V:aL)(a:Row)(l:aw)(c:Int):cV V a (l++[c])=cY 1 (aB V c.toNat) (cV V a l):=by unfold cV;rw[zQ];rfl
theorem Uf(a t:Row):cY 1 a t=zm (λx y=>y^^^x) a t:=by unfold cY;congr 1;funext x y;rw[Gf.one_mul]
theorem Fq{a t:Row}(d:ii a=ii t){k:Nat}(b:k<ii t:=by omega):(zm (λx y=>y^^^x) (a.take k) (t.take k)++t.drop k).set k (t[k]^^^(a[k]'(by omega)))=zm (λx y=>y^^^x) (a.take (k+1)) (t.take (k+1))++t.drop (k+1):=by
 have c:ii (zm (λx y=>y^^^x) (a.take k) (t.take k))=k:=i7
 rw[qX _ _ i4,c,ze,qQ b,zw,aH _ _ b,aH _ _ (show k<ii a by omega),yH i7];simp
theorem QR(p:eY)(l k v:Sl)(L:List fq)(kn:List Bool)(vs:aL)(n:Nat)(h:f8)(u:uH h p l k v L kn vs)(F:ii kn=n)(K:∀e∈L,∀c∈e.1,0<=c/\c<(n:Int))(S:ii L<=2^30)(D:∀e∈L,ii e.1<=2^30):
  aq xD 326 #[xv (dB p)] h λv h'=>(∃i:Int,v=xt xz i/\(0<=i->∃(N:i.toNat<ii L),ii ((L[i.toNat]).1.filter λc=>!Wl.kn kn c)=1))/\Sp h h' []:=by
 refine Cw (dB p) ?_;have M:=bH.len u.eqs;refine⟨p,i0,l,u.box.cell0 i0,?_⟩;refine av (λi:Nat=>(i:Int)) (λi h'=>i<=ii L/\Sp h h' []) (λi=>ii L-i) 0 i0 ⟨i4,Sp.refl h⟩ ?_;rintro i P ⟨N,w⟩;refine ac (λe=>?_) λe=>⟨⟨-1,i0,λU=>i4⟩,w⟩;have g:i<ii L:=i4
 refine pq.get (dQ.up u.eqs w.ag) i i0 g λx Q=>?_;refine(Sp.refl P).alloc an i0 λa T G=>?_;refine G.storeAll an 0 i0 i0 (qv x) i0 i0 i0 i0 λh3 t=>?_;have z:=up w.ag t.ag;have s:=u.up z;have r:=ju.mono (ju.loc Q t.ag) λb H=>qY H t.ag.1;have B:=t.box 0 i0;refine⟨x.1,B.cell0 i0,?_⟩;have I:=r.1.len;have E:=D _ (qg g);let d:Nat->Nat:=λj=>ii (((L[i]).1.take j).filter λc=>!Wl.kn kn c);refine av (λj:Nat=>(((d j:Nat):Int),(j:Int))) (λj h'=>h'=h3/\j<=(L[i]).1.length) (λj=>(L[i]).1.length-j) 0 qb ⟨i0,i4⟩ ?_;rintro j V ⟨rfl,R⟩;dsimp only;have J:d j<=j:=zd (qT _ _) i7;refine ac (λO=>?_) (λO=>?_)
 ·have f:j<(L[i]).1.length:=i4
  have A:=K _ (qg g) _ (qg f);refine r.1.bD j i0 f _ i0 ?_;refine⟨p,i0,k,s.box.cell i0,?_⟩;refine s.known.bD (L[i]).1[j].toNat i4 i4 _ i0 ?_;rw[af ((j:Int)+1),af _];have q:=QQ (kn:=kn) A.1 i4;refine bi (λm=>?_) (λm=>?_)
  ·refine⟨j+1,?_,⟨i0,i4⟩,i4⟩;have:d (j+1)=d j+1:=by simp only[d];rw[jC _ _ f,q,m];simp
   rw[this];rfl
  ·refine⟨j+1,?_,⟨i0,i4⟩,i4⟩;have:d (j+1)=d j:=by simp only[d];rw[jC _ _ f,q,m];simp
   rw[this];rfl
 ·have y:j=(L[i]).1.length:=i4
  subst y;have o:d (L[i]).1.length=ii ((L[i]).1.filter λc=>!Wl.kn kn c):=by simp only[d];rw[qV]
  rw[o];refine cy (λm=>⟨⟨i,i0,λ_=>⟨i4,by exact_mod_cast m⟩⟩,.zip z⟩) λm=>?_;exact⟨i+1,js,⟨i4,.zip z⟩,i4⟩
theorem ML(p:eY)(l k v:Sl)(L:List fq)(kn:List Bool)(vs:aL)(n w:Nat)(x:Sl×Sl)(e:fq)(h:f8)(hP:uH h p l k v L kn vs)(M:jR n w L kn vs)(P:dQ ju h x e)(H:iT n w e)(hw:w<=2^20)(ad:ii e.1<=2^20):
  aq xD 279 #[xv (dB p),xy #[x.1,x.2]] h λr h'=>∃a b:Sl,r=xy #[a,b]/\Sp h h' [ae 3 a 1 ak (fv kn vs e).1,ae 5 b 1 aD (fv kn vs e).2]:=by
 refine Cv (dB p) x ?_;refine(Sp.refl h).boxed λQ h1 H1=>?_;refine H1.alloc an i0 λT h2 U=>?_;have P2:=U.ag;refine⟨x.2,(U.box 0 i0).cell i0,(fc x.2 e.2 h2 (Seq.up P.2 P2) (by have:=H.len;omega)).mono ?_⟩;rintro vv h3 ⟨d,rfl,R3⟩;have H3:=U.comp R3;refine⟨d,i0,H3.alloc an i0 λa5 h4 H4=>?_⟩;refine H4.storeAll an 3 i0 i0 (qv (⟨eH,0,0⟩,d)) i0 i0 i0 i0 λh5 H5=>?_;have Y:Sp h h5 [al Q 289 (qv x),al T 289 [xu eH 0 0,xu eH 0 0],ae 5 d 1 aD e.2,al a5 289 (qv (⟨eH,0,0⟩,d)),ae 3 ⟨eH,0,0⟩ 1 ak []]:=H5.nil 3 1 ak;refine⟨x.1,(Y.box 0 i0).cell0 i0,?_⟩;have ah:=P.1.len;have ab:=M.klen;have ap:=M.vlen;refine av (λt:Nat×Sl=>(t.1:Int)) (λt h'=>t.1<=ii e.1/\Sp h h' [al Q 289 (qv x),al T 289 [xu eH 0 0,xu eH 0 0],ae 5 d 1 aD (cV vs e.2 ((e.1.take t.1).filter λc=>Wl.kn kn c)),al a5 289 (qv (t.2,d)),ae 3 t.2 1 ak ((e.1.take t.1).filter λc=>!Wl.kn kn c)]) (λt=>ii e.1-t.1) (0,⟨eH,0,0⟩) i0 ⟨i9,by simpa[cV]using Y⟩ ?_;rintro⟨j,o⟩ h7 ⟨hj,q⟩;dsimp only at*;have z:ii (cV vs e.2 ((e.1.take j).filter λc=>Wl.kn kn c))=w:=jQ H.len λc hc=>by
  have I:=qH.1 hc;have J:=zD I.1;exact M.Er (H.cZ c J).1 (H.cZ c J).2 I.2
 have ar:ii ((e.1.take j).filter λc=>!Wl.kn kn c)<=j:=zd (qT _ _) i7;refine ac (λe2=>?_) (λe2=>?_)
 ·have f:j<ii e.1:=i4
  have u:=H.cZ _ (qg f);have s:=hP.up q.ag;refine(Seq.up P.1 q.ag).bD j i0 f _ i0 ?_;refine⟨p,i0,k,s.box.cell i0,?_⟩;refine s.known.bD (e.1[j]).toNat i4 i4 _ i0 ?_;have G:=QQ (kn:=kn) u.1 i4;refine bi (λB=>?_) (λB=>?_)
  ·rw[<-G]at B;refine⟨o,(q.box 3 i0).cell0 i0,?_⟩;refine q.push an 4 i0 fS i0 i5 (λ_=>rfl) eJ e.1[j] i0 i5 i4 λo' h8 g=>?_;refine g.jJ an 3 i0 i0 [o'] i0 i0 i0 (by simp[qv]) λh9 N=>?_;refine⟨(j+1,o'),jj,⟨i6,?_⟩,i6⟩;dsimp only;rw[jC _ _ f,jC _ _ f,B];simp only[Bool.not_false,if_true,zn,if_false,qM];exact N
  ·rw[<-G]at B;have E:=M.Er u.1 u.2 B;rw[mu i4]at E;refine⟨p,i0,v,s.box.cell i0,?_⟩;obtain⟨vr,V,am,R⟩:=bH.jl hP.vals;have i:(e.1[j]).toNat<ii vs:=i4
   refine(Seq.up V q.ag).lK (e.1[j]).toNat i4 i4 ?_;have K:=(R (e.1[j]).toNat i4 i).1;have F:=K.len;generalize vr[(e.1[j]).toNat]'(by omega)=y at K F⊢;obtain⟨A,hA⟩:∃A,A=vs[(e.1[j]).toNat]'i:=⟨_,rfl⟩
   obtain⟨D,Z⟩:∃D,D=cV vs e.2 ((e.1.take j).filter λc=>Wl.kn kn c):=⟨_,rfl⟩
   rw[<-hA]at E K F;rw[<-Z]at q z;refine av (λm:Nat=>(m:Int)) (λm h'=>m<=w/\Sp h h' [al Q 289 (qv x),al T 289 [xu eH 0 0,xu eH 0 0],ae 5 d 1 aD (zm (λx y=>y^^^x) (A.take m) (D.take m)++D.drop m),al a5 289 (qv (o,d)),ae 3 o 1 ak ((e.1.take j).filter λc=>!Wl.kn kn c)]) (λm=>w-m) 0 i0 ⟨i4,rb⟩ ?_;rintro m h8 ⟨hm,g⟩;have O:ii (zm (λx y=>y^^^x) (A.take m) (D.take m))=m:=i7
   refine ac (λe4=>?_) (λe4=>?_)
   ·have ao:m<w:=i4
    refine(Seq.up K g.ag).bD m i0 i4 _ i0 ?_;refine⟨d,(g.box 3 i0).cell i0,?_⟩;refine(g.seq 2 i0 λ_=>rfl).bD m i0 i7 _ i0 ?_;have X:((zm (λx y=>y^^^x) (A.take m) (D.take m)++D.drop m)[m]'(by simp;omega))=D[m]'(by omega):=by rw[z6 i4];simp[O]
    rw[X,mV];refine g.set an 2 i0 (λ_=>rfl) i0 m i0 i7 (D[m]'(by omega)^^^A[m]'(by omega)) i0 i0 i0 λh9 N=>?_;rw[Fq i4]at N;exact⟨m+1,js,⟨i4,N⟩,i4⟩
   ·have W:m=w:=i4
    subst W;refine⟨(j+1,o),jj,⟨i6,?_⟩,i6⟩;dsimp only;rw[jC _ _ f,jC _ _ f,B];simp only[Bool.not_true,if_true,zn,if_false,qM];rw[rU,mu i,<-hA,<-Z,Uf];rw[qi i4,qi i4,zk i4,qM]at g;exact g
 ·have S:j=ii e.1:=i4
  subst S;rw[qV]at q;refine⟨(o,d),(q.box 3 i0).aP _ i0,?_⟩;refine q.storeAll an 1 i0 i0 (qv (o,d)) i0 i0 i0 i0 λh8 g=>?_;refine⟨(o,d),(g.box 1 i0).aP _ i0,o,d,i0,?_⟩;exact g.cu [4,2]
theorem aa.agx{B:aA}{c h:f8}{As:List HP}{e k:Nat}{α:Type}{f:α->ba}{s:Sl}{l:List α}(H:aa B c h As)(i:Nat)(m:As[i]?=dB (ae e s k f l))(d:∀x,ii (f x)=k)(j:l≠[]):aa B c h (As.set i (EA (rZ k f) s l)):=
 H.gb i m λq ⟨a,b⟩=>⟨a.seq d b,λg=>absurd g j⟩
theorem count_set{l:List Bool}:∀{i:Nat} (h:i<ii l),l[i]=eS->((l.set i eR).count eS)+1=l.count eS:=by
 induction l with
 |nil=>intro i h;simp at h
 |cons a l ih=>
  intro i h b;cases i with
  |zero=>simp at b;subst b;simp
  |succ i=>
   have:=ih (i:=i) j5 j6;rw[zA,List.count_cons,List.count_cons];omega
theorem YV(p:eY)(l k v:Sl)(L:List fq)(n w:Nat)(q h:f8)(X:dQ pq q l L)(D:∀e∈L,iT n w e)(hn:n<=64)(W:ii L<=2^20)(U:1<=w/\w<=2^20)(A:∀e∈L,ii e.1<=2^20)
  (H:Sp q h [al p 351 [l,k,v],ae 4 k 1 fh (qh n eS),ce 71 v 1 bp (rZ 1 aD) (qh n [])]):
  aq xD 278 #[xv (dB p)] h λr h'=>r=.tuple #[]/\∃kn vs,jR n w L kn vs/\Sp q h' [al p 351 [l,k,v],ae 4 k 1 fh kn,ce 71 v 1 bp (rZ 1 aD) vs]:=by
 refine Dz (dB p) ?_;refine av (λ_:List Bool×aL=>()) (λt h'=>jR n w L t.1 t.2/\Sp q h' [al p 351 [l,k,v],ae 4 k 1 fh t.1,ce 71 v 1 bp (rZ 1 aD) t.2]) (λt=>t.1.count eS) (qh n eS,qh n []) i0 ⟨Vd n w L,H⟩ ?_;rintro⟨kn,vs⟩ N ⟨j,O⟩;dsimp only at*;have G:=j.klen;have T:=j.vlen;have mk:∀{u},Sp q u [al p 351 [l,k,v],ae 4 k 1 fh kn,ce 71 v 1 bp (rZ 1 aD) vs]->uH u p l k v L kn vs:=λf=>
  ⟨f.box 0 i0,dQ.up X f.ag,f.seq 1 i0 λ_=>rfl,f.LR 2 i0 λ_=>rfl⟩
 refine(QR p l k v L kn vs n N (mk O) G (λe F=>(D e F).cZ) i4 λe F=>by have:=A e F;omega).mono ?_;rintro _ u ⟨⟨i,rfl,Y⟩,Z⟩;refine⟨i,i0,?_⟩;have f:=O.up Z.ag;refine ac (λe=>⟨i0,kn,vs,j,f⟩) λe=>?_;have M:0<=i:=Int.not_lt.1 e;obtain⟨z,B⟩:=Y M;have m:=mk f;refine⟨p,i0,l,m.box.cell0 i0,?_⟩;refine pq.get m.eqs i.toNat i4 z λx hx=>?_;have d:=qg z;refine(ML p l k v L kn vs n w x L[i.toNat] u m j hx (D _ d) U.2 (A _ d)).mono ?_;rintro _ h3 ⟨a,b,rfl,R⟩;refine⟨(a,b),i0,?_⟩;obtain⟨c,E⟩:∃c,(fv kn vs L[i.toNat]).1=[c]:=by
  have N:(fv kn vs L[i.toNat]).1.length=1:=B
  match u:(fv kn vs L[i.toNat]).1,N with
  |[c],_=>exact⟨c,i0⟩
 have s:=j.AS (D _ d);have K:=s.cZ c (by rw[E];simp);have o:Wl.kn kn c=eS:=Es j L[i.toNat] c (by rw[E];simp);rw[QQ K.1 i4]at o;have P:=f.comp R;rw[E]at P;refine P.alloc an i0 λa8 h4 H4=>?_;refine H4.storeAll an 5 i0 i0 (qv (a,b)) i0 i0 i0 i0 λh5 g=>?_;refine⟨p,i0,k,(g.box 0 i0).cell i0,a,(g.box 5 i0).cell0 i0,?_⟩;have y:=g.seq 3 i0 λ_=>rfl;refine y.bD 0 i0 i9 c i0 ?_;refine⟨p,i0,v,(g.box 0 i0).cell i0,a,(g.box 5 i0).cell0 i0,?_⟩;refine y.bD 0 i0 i9 c i0 ?_;refine⟨b,(g.box 5 i0).cell i0,?_⟩;refine g.set an 1 i0 (λ_=>rfl) i0 c.toNat i4 i4 eR i0 i0 i0 λh6 J=>?_;refine⟨⟨(J.box 5 i0).cell i0,(J.box 5 i0).cell0 i0,trivial⟩,?_⟩;have I:(fv kn vs L[i.toNat]).2≠[]:=λV=>by have:=s.len;rw[V]at this;simp at this;omega
 have S:=aa.agx J 4 i0 (λ_=>rfl) I;refine S.agp an 2 4 i5 i0 i0 (λ_=>rfl) i0 c.toNat i4 i4 i0 i0 i0 λh8 Q=>⟨trivial,?_⟩
 refine⟨(kn.set c.toNat eR,vs.set c.toNat (fv kn vs L[i.toNat]).2),i0,⟨XD j D d E,Q.cu [0,1,2]⟩,?_⟩;have:=count_set (l:=kn) (i:=c.toNat) i4 o;dsimp only;omega
theorem SS(s:Sl)(l:Row)(h:f8)(a:Rd h s 1 aD l)(c:s.len<=s.cap)(b:ii l<=2^30):
  aq xD 280 #[s] h λv h'=>v=xx (!(l.any (· !=0)))/\h'=h:=by
 refine Jr s ?_;refine(MK s l _ i0 h a c b).mono ?_;rintro _ e ⟨⟨r,rfl,d⟩,rfl⟩;refine⟨r,i0,?_,i0⟩;congr 1;rw[vF];simp only[beq_iff_eq,Bool.not_eq_true',List.any_eq_false,bne_iff_ne,ne_eq,Decidable.not_not];rw[<-d];omega
def LH(l:aw):Prop:=∀i (h:i+1<ii l),l[i]<l[i+1]
theorem NO(n:Nat)(l:Sl)(L:List fq)(w:Nat)(h:f8)(A:dQ pq h l L)(D:∀e∈L,iT n w e/\LH e.1)(hn:n<=64)(R:ii L<=2^20)(t:∀e∈L,ii e.1<=2^20):
  aq xD 277 #[xt xz n,l] h λv h'=>v=xx eR/\Sp h h' []:=by
 refine Ll _ l ?_;have V:=bH.len A;refine bc (ac (λe=>i4) λ_=>ac (λe=>i4) λ_=>?_);refine av (λi:Nat=>(i:Int)) (λi h'=>i<=ii L/\Sp h h' []) (λi=>ii L-i) 0 i0 ⟨i4,Sp.refl h⟩ ?_;rintro i X ⟨hi,q⟩;refine ac (λe=>?_) λe=>⟨i0,q⟩;have d:i<ii L:=i4
 refine pq.get (dQ.up A q.ag) i i0 d λx Y=>?_;refine(Sp.refl X).alloc an i0 λa h2 J=>?_;refine J.storeAll an 0 i0 i0 (qv x) i0 i0 i0 i0 λh3 p=>?_;have H:=up q.ag p.ag;have c:=ju.mono (ju.loc Y p.ag) λb O=>qY O p.ag.1;have f:=p.box 0 i0;refine⟨x.1,f.cell0 i0,?_⟩;have P:=c.1.len;have B:=t _ (qg d);obtain⟨m,r⟩:=D _ (qg d);refine av (λj:Nat=>(j:Int)) (λj h'=>h'=h3/\j<=(L[i]).1.length) (λj=>(L[i]).1.length-j) 0 i0 ⟨i0,i4⟩ ?_;rintro j G ⟨rfl,hj⟩;refine ac (λW=>?_) (λW=>?_)
 ·have k:j<(L[i]).1.length:=i4
  have T:=m.cZ _ (qg k);refine c.1.bD j i0 k _ i0 ?_;refine ac (λe=>i4) λ_=>ac (λe=>i4) λ_=>?_;have F:∃s:Nat,qc xz ((j:Int)+1)=(s:Int)/\(G=G/\s<=(L[i]).1.length)/\(L[i]).1.length-s<(L[i]).1.length-j:=⟨j+1,js,⟨i0,i4⟩,i4⟩
  refine ac (λN=>?_) λN=>F;refine⟨x.1,f.cell0 i0,?_⟩;rw[af ((j:Int)-1)];refine c.1.bD (j-1) i4 i4 _ i0 ?_;have E:=r (j-1) i4;have Z:(L[i]).1[j-1+1]'(by omega)=(L[i]).1[j]:=by congr 1;omega
  rw[Z]at E;exact ac (λe=>absurd E i4) λ_=>F
 ·refine⟨x.2,f.cell i0,?_⟩;obtain⟨rs,Q,h8,S⟩:=bH.jl (dQ.up A H);have z:=(S 0 i4 i4).2.len;obtain⟨u,M,y,I,U⟩:=Q.dZ (g:=qv) (i:=(0:Int)) 0 rfl i4 (rs[0]'(by omega)) rfl (K:=λy=>y.2.len=w) (by rw[z];exact(D _ (qg (show 0<ii L by omega))).1.len);refine⟨u,M,y.2,?_,?_⟩
  ·exact I.2.1
  have o:=c.2.len;rw[m.len]at o;refine ci (λe=>absurd (by rw[o,U]) e) λ_=>?_;exact⟨i+1,js,⟨i4,.zip H⟩,i4⟩
theorem aa.YW{B:aA}{m h:f8}{As:List HP}{e k:Nat}{α β:Type}{E:iZ α β}{f:α->ba}{s:Sl}{n:Nat}{a:α}{b:β}(H:aa B m h As)(i:Nat)(v:As[i]?=dB (ae e s k f (qh n a)))(t:∀h,E.p h (λ_=>False) a b):aa B m h (As.set i (ce e s k f E (qh n b))):=
 H.gb i v λq ⟨x,y⟩=>⟨_,λ_=>False,x,λc u=>⟨y c u,λh=>h⟩,λ_ h=>h.elim,i9,λj r l d g=>by
  rw[wj]at d g;split at d
  ·rename_i o;rw[f9 o]at g;cases d;cases g;exact t h
  ·cases d⟩
theorem aa.agy{B:aA}{f h:f8}{As:List HP}{e o:Nat}{a b:Sl}{l:aw}{r:Row}(H:aa B f h As)(i j:Nat)(c:i≠j)(n:As[i]?=dB (ae e a 1 ak l))(m:As[j]?=dB (ae o b 1 aD r)):aa B f h ((As.set i (EA ju (a,b) (l,r))).set j emp):=
 H.merge i j c n m λp q _ k g=>⟨k.1.seq (λ_=>rfl) λx d=>.inl (k.2 x d),g.1.seq (λ_=>rfl) λx d=>.inr (g.2 x d)⟩
theorem YX(kn:List Bool)(vs:aL)(L:List fq){i:Nat}(a:i<ii L):bg kn vs (L.take (i+1))=if(fv kn vs L[i]).1.isEmpty then bg kn vs (L.take i)else bg kn vs (L.take i)++[fv kn vs L[i]]:=by unfold bg;rw[aH _ _ a,qS,zq];cases h:(fv kn vs L[i]).1.isEmpty<;>simp[h]
theorem VR(kn:List Bool)(vs:aL)(L:List fq){i:Nat}(a:i<ii L):kv kn vs (L.take (i+1))=(kv kn vs (L.take i)||((fv kn vs L[i]).1.isEmpty&&(fv kn vs L[i]).2.any (· !=0))):=by unfold kv;rw[aH _ _ a,qS,yU];simp
theorem VS{kn:List Bool}{vs:aL}{L:List fq}{i:Nat}(h:kv kn vs (L.take i)=eR):kv kn vs L=eR:=by rw[<-qF i L];unfold kv at*;rw[qS,yU,h];rfl
theorem YY(l:Sl)(L:List fq)(n w:Nat)(h:f8)(H:dQ pq h l L)(V:∀e∈L,iT n w e/\LH e.1)(hn:n<=64)(F:ii L<=2^20)(hw:1<=w/\w<=2^20)(z:∀e∈L,ii e.1<=2^20):
  aq xD 225 #[xt xz n,l] h λr h'=>∃kn vs,jR n w L kn vs/\((kv kn vs L=eR/\r=.tuple #[xu eH 0 0,xu eH 0 0,xu eH 0 0,xt xz 10]/\Sp h h' [])∨
   (kv kn vs L=eS/\∃k v s:Sl,r=.tuple #[k,v,s,xt xz 0]/\Sp h h' [ae 4 k 1 fh kn,ce 71 v 1 bp (rZ 1 aD) vs,ce 289 s 2 qv ju (bg kn vs L)])):=by
 refine Nz _ l ?_;have ap:=bH.len H;refine(NO n l L w h H V hn F z).mono ?_;rintro _ h1 ⟨rfl,R1⟩;refine⟨eR,i0,bi (λe=>j0) λ_=>?_⟩;refine bT (λs h'=>∃(p:eY) (k v:Sl),s=dB p/\Sp h h' [al p 351 [l,k,v],ae 4 k 1 fh (qh n eS),ce 71 v 1 bp (rZ 1 aD) (qh n [])]) ⟨?_,?_⟩ ?_
 ·refine R1.make an fh acS i5 eS i0 i0 n n i0 i0 (qm _) i4 λk h2 K Y U=>⟨trivial,?_⟩
  refine U.make an bp YU i5 ⟨eH,0,0⟩ i0 i0 n n i0 i0 (qm _) i4 λv h3 X M W=>⟨trivial,?_⟩
  refine W.boxed λp P I=>⟨trivial,p,k,v,i0,?_⟩
  exact(aa.YW (E:=rZ 1 aD) (b:=[]) I 1 i0 λh=>⟨Seq.nil _ _ _ _ _ _,λ_=>rfl⟩).cu [2,0,1]
 ·refine R1.make an bp YU i5 ⟨eH,0,0⟩ i0 i0 n n i0 i0 (qm _) i4 λv h3 X M W=>⟨trivial,?_⟩
  refine W.make an fh acS i5 eS i0 i0 n n i0 i0 (qm _) i4 λk h2 K Y U=>⟨trivial,?_⟩
  refine U.boxed λp P I=>⟨trivial,p,k,v,i0,?_⟩
  exact(aa.YW (E:=rZ 1 aD) (b:=[]) I 0 i0 λh=>⟨Seq.nil _ _ _ _ _ _,λ_=>rfl⟩).cu [2,1,0]
 rintro s P ⟨p,k,v,rfl,I⟩;refine(YV p l k v L n w h P H (λe he=>(V e he).1) hn F hw z I).mono ?_;rintro _ h5 ⟨rfl,kn,vs,J,H5⟩;refine⟨(),i0,?_⟩;refine av (λt:Nat×Sl=>(t.2,(t.1:Int))) (λt h'=>t.1<=ii L/\kv kn vs (L.take t.1)=eS/\Sp h h' [al p 351 [l,k,v],ae 4 k 1 fh kn,ce 71 v 1 bp (rZ 1 aD) vs,ce 289 t.2 2 qv ju (bg kn vs (L.take t.1))]) (λt=>ii L-t.1) (0,⟨eH,0,0⟩) i0 ⟨i9,i0,H5.DS 289 2 qv ju⟩ ?_;rintro⟨i,o⟩ h6 ⟨hi,u,B⟩;dsimp only at*;refine ac (λe=>?_) (λe=>?_)
 ·have m:i<ii L:=i4
  obtain⟨rs,q1,q2,q3⟩:=bH.jl H;have hx:=q3 i i4 m;refine(Seq.up q1 B.ag).dZ (g:=qv) i i0 i4 (rs[i]'(by omega)) i0 ?_;generalize rs[i]'(by omega)=x at hx⊢;refine B.alloc an i0 λa h7 H7=>?_;refine H7.storeAll an 4 i0 i0 (qv x) i0 i0 i0 i0 λh8 A=>?_;refine⟨x,(A.box 4 i0).aP _ i0,?_⟩;have N:uH h8 p l k v L kn vs:=⟨A.box 0 i0,dQ.up H A.ag,A.seq 1 i0 λ_=>rfl,A.LR 2 i0 λ_=>rfl⟩
  obtain⟨D,-⟩:=V _ (qg m);have ab:dQ ju h8 x L[i]:=dQ.up hx A.ag;refine(ML p l k v L kn vs n w x L[i] h8 N J ab D hw.2 (z _ (qg m))).mono ?_;rintro _ h9 ⟨c,d,rfl,R9⟩;refine⟨(c,d),i0,?_⟩;have H9:=A.comp R9;refine H9.alloc an i0 λa2 ao ad=>?_;refine ad.storeAll an 7 i0 i0 (qv (c,d)) i0 i0 i0 i0 λQ f=>?_;refine⟨c,(f.box 7 i0).cell0 i0,?_⟩;have q:=(f.own 5 i0).len;have ar:ii (bg kn vs (L.take i))<=ii L:=by unfold bg;refine zd (qT _ _) ?_;simp;omega
  have y:=YX kn vs L m;have j:=VR kn vs L m;refine ac (λe2=>?_) (λe2=>?_)
  ·have O:(fv kn vs L[i]).1.isEmpty=eS:=by
    cases hh:(fv kn vs L[i]).1 with
    |nil=>rw[hh]at q;simp at q;omega
    |cons a l=>rfl
   rw[O]at y j;refine⟨(c,d),(f.box 7 i0).aP _ i0,?_⟩;have T:=aa.agy f 5 6 i5 i0 i0;refine T.rv an 3 5 i5 i0 i0 eQ i0 i5 (λ_=>rfl) YT i0 i5 i4 λo' am S=>?_;refine⟨(i+1,o'),jj,⟨i6,by dsimp only;rw[j,u];rfl,?_⟩,i6⟩;dsimp only;rw[y];exact S.cu [0,1,2,3]
  ·have Z:(fv kn vs L[i]).1.isEmpty=eR:=by
    cases hh:(fv kn vs L[i]).1 with
    |nil=>rfl
    |cons a l=>rw[hh]at q;simp at q;omega
   rw[Z]at y j;refine⟨d,(f.box 7 i0).cell i0,?_⟩;refine(SS d _ Q (f.seq 6 i0 λ_=>rfl) (f.own 6 i0).cap (by have:=(J.AS D).len;omega)).mono ?_;rintro _ ah ⟨rfl,rfl⟩;refine⟨_,i0,bi (λG=>?_) λG=>?_⟩
   ·refine⟨kn,vs,J,.inl ⟨VS (i:=i+1) ?_,i0,f.cu []⟩⟩;rw[j];simp at G;simp[G]
   ·refine⟨(i+1,o),jj,⟨i6,?_,?_⟩,i6⟩
    ·dsimp only;rw[j,u];simp at G;simp;exact G
    ·dsimp only;rw[y];exact f.cu [0,1,2,3]
 ·have R:i=ii L:=i4
  subst R;rw[qV]at B u;refine⟨p,i0,k,(B.box 0 i0).cell i0,p,i0,v,(B.box 0 i0).cell i0,kn,vs,J,.inr ⟨u,k,v,o,i0,B.cu [1,2,3]⟩⟩
def kX(pool:List (Sl×Row)):HP:=⟨λh q=>∀x∈pool,Seq h q x.1 1 aD x.2,λa c x b=>(a x b).ag c,λa d x b=>(a x b).mono d⟩
theorem _root_.Go.Vc.aa.pool{B:aA}{c h:f8}{As:List HP}(H:aa B c h As)(i j:Nat)(a:i≠j){pool:List (Sl×Row)}{r:Sl}{l:Row}(g:As[i]?=dB (kX pool))(d:As[j]?=dB (rY r 1 aD l)):aa B c h ((As.set i (kX ((r,l)::pool))).set j emp):=
 H.merge i j a g d λk m _ f e x b=>by
  rcases q8.1 b with rfl|b
  ·exact Seq.mono e λ_ h=>.inr h
  ·exact(f x b).mono λ_ h=>.inl h
theorem _root_.Go.Vc.aa.JZ{B:aA}{a h:f8}{As:List HP}(H:aa B a h As)(i:Nat){pool:List (Sl×Row)}(c:As[i]?=dB (kX pool)){r:Sl}{l:Row}(b:(r,l)∈pool):Rd h r 1 aD l:=(H.at i c) _ b
theorem _root_.Go.Vc.aa.abq{B:aA}{f h:f8}{As:List HP}(H:aa B f h As)(i j:Nat)(c:i≠j){pool:List (Sl×Row)}{s:Sl}{rs:List Sl}{a:aL}(t:As[i]?=dB (ae 71 s 1 bp rs))(g:As[j]?=dB (kX pool))
  (q:ii rs=ii a) (n:∀(k:Nat) r l,rs[k]?=dB r->a[k]?=dB l->(r,l)∈pool):aa B f h ((As.set i (fN 71 s 1 aD a)).set j emp):=
 H.merge i j c t g λw u o d m=>⟨rs,u,d.1,λb e=>⟨.inl (d.2 b e),o b (d.2 b e)⟩,λ_ h=>.inr h,q,λk r l v p=>m _ (n k r l v p)⟩
def ij(pool:List (Sl×Row))(g:Row->Row)(rs:List Sl)(m:aL):Prop:=ii rs=ii m/\∀(i:Nat) r l,rs[i]?=dB r->m[i]?=dB l->(r,g l)∈pool
theorem ij.get{pool:List (Sl×Row)}{g:Row->Row}{rs:List Sl}{m:aL}(h:ij pool g rs m){i:Nat}(a:i<ii m):(rs[i]'(by rw[h.1];exact a),g m[i])∈pool:=
 h.2 i _ _ (qd _) (qd _)
theorem ij.mono{pool a:List (Sl×Row)}{g:Row->Row}{rs:List Sl}{m:aL}(h:ij pool g rs m)(b:∀x∈pool,x∈a):ij a g rs m:=⟨h.1,λi r l c d=>b _ (h.2 i r l c d)⟩
theorem ij.set{pool:List (Sl×Row)}{g:Row->Row}{rs:List Sl}{m:aL}(h:ij pool g rs m)(i:Nat){r:Sl}{l:Row}(f:(r,g l)∈pool):ij pool g (rs.set i r) (m.set i l):=by
 refine⟨by simp[h.1],λk e l' a b=>?_⟩;rw[zb]at a b;by_cases c:i=k
 ·subst c;rw[f9 rfl]at a b;split at a
  ·rename_i d;rw[f9 (by rw[<-h.1];exact d)]at b;cases a;cases b;exact f
  ·cases a
 ·rw[g0 c]at a b;exact h.2 k e l' a b
theorem _root_.Go.Vc.aa.CM{B:aA}{f h:f8}{As:List HP}(H:aa B f h As)(i j:Nat){pool:List (Sl×Row)}{e:Nat}{s:Sl}{rs:List Sl}{a:aL}(m:As[i]?=dB (ae e s 1 bp rs))(d:As[j]?=dB (kX pool))
  (c:ij pool id rs a):iu h (λb=>b<h.size) s 1 aD a rs:=⟨H.seq i m λ_=>rfl,c.1,λk r l n g=>H.JZ j d (c.2 k r l n g)⟩
theorem Fs{B:aA}{r h:f8}{As:List HP}(s f:eY)(t:UInt8)(g a:Sl)(b c:Row)(H:aa B r h (ae 5 a 1 aD c::As))(G:St B r As λh=>f7 h s=dB (xv (dB f))/\fH h f/\Rd h g 1 aD b)
  (R:ii b=ii c) (T:ii b<=2^30) {K:f8->Prop} (M:∀h',aa B r h' (ae 5 a 1 aD (cY t b c)::As)->K h'):
  aI (σ:=Int) (λd S i=>
 Br (decide (d<((g.len:Nat):Int)))
 (∃I:eY,(g.ptr=dB I/\0<=d/\d<((g.len:Nat):Int))/\
 ∃F:Int,f7 i (I.add (d.toNat*1))=dB (xt xA F)/\
 ∃w:eY,(a.ptr=dB w/\0<=d/\d<((a.len:Nat):Int))/\
 ∃u:Int,f7 i (w.add (d.toNat*1))=dB (xt xA u)/\
 ∃p:eY,(dB s=dB p)/\
 ∃n:bm,f7 i p=dB (.pointer n)/\
 ru xD 294 #[(.pointer n),(xt xA (t.toNat:Int)),(xt xA F)] (.one (.sc (.int .u8))) i λD z=>
 (au.ok [(w.add (d.toNat*1),(xt xA u))] z)/\
 ∃j:eY,(a.ptr=dB j/\0<=d/\d<((a.len:Nat):Int))/\
 az xD (qf 5 (xv (dB (j.add (d.toNat*1)))) (xt xA (qc xA ((qE (qk xA) u^^^(qE (qk xA) D)).toNat:Nat)))) z λ_ h3=>
 (au.ok [] h3)/\
 S (qc xz (d+(1:Int))) h3) (K i)) (0:Int) h:=by
 have N:g.len=ii b:=(G.at [ae 5 a 1 aD c] H).2.2.len;refine av (λk:Nat=>(k:Int)) (λk h'=>k<=ii b/\aa B r h' (ae 5 a 1 aD (zm (λx y=>y^^^Gf.mul t x) (b.take k) (c.take k)++c.drop k)::As)) (λk=>ii b-k) 0 i0 ⟨i4,lb⟩ ?_;rintro k i ⟨P,l⟩;obtain⟨O,J,L⟩:=G.at [_] l;refine ac (λe=>?_) (λe=>?_)
 ·have A:k<ii b:=i4
  have o:ii (zm (λx y=>y^^^Gf.mul t x) (b.take k) (c.take k))=k:=i7
  have Q:ii (zm (λx y=>y^^^Gf.mul t x) (b.take k) (c.take k)++c.drop k)=ii c:=by rw[qw,o,zi];omega
  refine L.bD k i0 A _ i0 ?_;have q:(zm (λx y=>y^^^Gf.mul t x) (b.take k) (c.take k)++c.drop k)[k]'(by omega)=c[k]:=by rw[z6 i4];simp[o]
  refine(l.seq 0 i0 λ_=>rfl).NY k i0 i4 _ i0 λax m=>?_;rw[q]at m⊢;refine⟨s,i0,dB f,O,(Ia f t b[k] i J).mono ?_⟩;rintro v z ⟨rfl,rfl⟩;refine⟨_,i0,⟨m,trivial⟩,?_⟩;rw[mV];refine l.set an 0 i0 (λ_=>rfl) i0 k i0 i4 _ i0 i0 i0 λh3 E=>⟨trivial,?_⟩
  rw[zw,uy R i4]at E;exact⟨k+1,js,⟨i4,E⟩,i4⟩
 ·have:k=ii b:=i4
  subst this;rw[qi (qm _),qi i4,zk i4,qM]at l;exact M i l
def gC(f:eY)(p:Int×Int×Int)(v r a d c e b:Sl):ba:=[xv (dB f),xt xz p.1,xt xz p.2.1,xt xz p.2.2,v,r,a,d,c,e,b]
structure Bz (h:f8) (s f:eY) (wa mo:Sl) (wr mr:List Sl) (W M:aL):Prop where
 fld:f7 h s=dB (xv (dB f))
 way:f7 h (s.add 9)=dB (xu wa.ptr wa.len wa.cap)
 more:f7 h (s.add 10)=dB (xu mo.ptr mo.len mo.cap)
 field:fH h f
 rW:iu h (λb=>b<h.size) wa 1 aD W wr
 rM:iu h (λb=>b<h.size) mo 1 aD M mr
theorem Bz.of{h:f8}{s f:eY}{p:Int×Int×Int}{v r m j i d c:Sl}{e g:List Sl}{W M:aL}(a:cw h s 295 (gC f p v r m j i d c))(l:fH h f)(n:iu h (λb=>b<h.size) d 1 aD W e)(k:iu h (λb=>b<h.size) c 1 aD M g):Bz h s f d c e g W M:=
 ⟨a.cell0 i0,a.cell i0,a.cell i0,l,n,k⟩
theorem Ft{B:aA}{j h:f8}{As:List HP}(s f:eY)(t:UInt8)(c:Int)(b a z n:Sl)(w0 e:Row)(o r:List Sl)(W M:aL)(H:aa B j h (ae 5 b 1 aD w0::ae 5 a 1 aD e::As))(i:St B j As λh=>Bz h s f z n o r W M)
  (E:0<=c) (u:c.toNat<ii W) (w:c.toNat<ii M) (p:ii (aB W c.toNat)=ii w0) (m:ii (aB M c.toNat)=ii e) (F:ii w0<=2^30) (D:ii e<=2^30):
  aq xD 286 #[xv (dB s),xt xA t.toNat,xt xz c,b,a] h λv h'=>v=.tuple #[]/\aa B j h' (ae 5 b 1 aD (cY t (aB W c.toNat) w0)::ae 5 a 1 aD (cY t (aB M c.toNat) e)::As):=by
 refine Bg (dB s) _ c b a ?_;have S:=i.at [_,_] H;refine⟨s,i0,z,S.way,?_⟩;rw[mu u]at p⊢;rw[mu w]at m⊢;have q:=S.rW;have A:=q.len;refine q.top.lK c.toNat i4 i4 ?_;refine Fs s f t (o[c.toNat]'(by omega)) b (W[c.toNat]) w0 H (St.mk' λh' k=>?_) p i4 λh3 g=>?_
 ·have d:=i.at [_] k;exact⟨d.fld,d.field,d.rW.row _ _ _ (qd _) (qd u)⟩
 have l:=i.at [_,_] g;refine⟨s,i0,n,l.more,?_⟩;have y:=l.rM;have x:=y.len;refine y.top.lK c.toNat i4 i4 ?_;refine Fs s f t (r[c.toNat]'(by omega)) a (M[c.toNat]) e g.nC (St.mk' λh' k=>?_) m i4 λh3 g=>⟨i0,g.nC⟩
 ·have d:=i.at [_] k;exact⟨d.fld,d.field,d.rM.row _ _ _ (qd _) (qd w)⟩
def fJ:aw->Bool
 |[]=>eR
 |[_]=>eR
 |a::b::r=>decide (a<b)&&fJ (b::r)
theorem Ka:∀(l:aw) (a b:Int),fJ (l++[a,b])=(fJ (l++[a])&&decide (a<b))
 |[],a,b=>by simp[fJ]
 |[c],a,b=>by simp[fJ]
 |c::d::r,a,b=>by
  have:=Ka (d::r) a b;simp only[zB]at this⊢;simp only[fJ,this,Bool.and_assoc]
theorem YZ{l r:aw}(h:fJ l=eS):fJ (l++r)=eS:=by
 induction l with
 |nil=>simp[fJ]at h
 |cons a t ih=>
  cases t with
  |nil=>simp[fJ]at h
  |cons b t=>
   simp only[fJ,vl]at h;simp only[zB,fJ,vl];rcases h with h|h
   ·exact .inl h
   ·exact .inr (ih h)
theorem abr(l:aw)(k:Nat)(h:k+1<ii l):l.take (k+2)=l.take k++[l[k],l[k+1]]:=by have a:l.take (k+2)=l.take (k+1)++[l[k+1]]:=aH l (k+1) h;have b:=aH l k;rw[a,b,qp];rfl
def fK(n:Int)(r:aw):Bool:=r.all (λc=>decide (0<=c/\c<n))&&fJ r
theorem Za{n:Int}{l r:aw}(h:fK n l=eS):fK n (l++r)=eS:=by
 simp only[fK,vl]at*;rcases h with h|h
 ·left;rw[vj,h];rfl
 ·right;exact YZ h
theorem VT{n:Int}{r:aw}(h:0<ii r):fK n (r.take 1)=decide (0<=r[0]/\r[0]<n):=by
 cases r with
 |nil=>simp at h
 |cons a t=>simp[fK,fJ]
theorem VU{n:Int}{r:aw}{k:Nat}(h:k+1<ii r):fK n (r.take (k+2))=(fK n (r.take (k+1))&&decide (0<=r[k+1]/\r[k+1]<n)&&decide (r[k]<r[k+1])):=by
 have a:r.take (k+2)=r.take (k+1)++[r[k+1]]:=aH r (k+1) h;have b:fJ (r.take (k+2))=(fJ (r.take (k+1))&&decide (r[k]<r[k+1])):=by rw[abr r k h,Ka,aH r k]
 simp only[fK,b];rw[a,vj];simp only[List.all_cons,List.all_nil,Bool.and_true]
 cases(r.take (k+1)).all λc=>decide (0<=c/\c<n)<;>cases fJ (r.take (k+1))<;>cases decide (0<=r[k+1]/\r[k+1]<n)<;>simp
theorem uI{n:Int}{r:aw}{k:Nat}(h:fK n (r.take k)=eS):fK n r=eS:=by rw[<-qF k r];exact Za h
theorem VV{n:Int}{r:aw}{k:Nat}(c:k<ii r)(h:fK n (r.take k)=eR):
  (r[k]<0->fK n r=eS)/\(n<=r[k]->fK n r=eS)/\(∀(h0:0<k),r[k]<=r[k-1]->fK n r=eS)/\
  (0<=r[k]->r[k]<n->(∀h0:0<k,r[k-1]<r[k])->fK n (r.take (k+1))=eR):=by
 cases k with
 |zero=>
  have e:=VT (n:=n) c;refine⟨λa=>uI (k:=1) ?_,λa=>uI (k:=1) ?_,λh0=>i4,λa b _=>?_⟩
  ·rw[e,hU i4]
  ·rw[e,hU i4]
  ·rw[e,g9 ⟨a,b⟩]
 |succ k=>
  have e:=VU (n:=n) c;refine⟨λa=>uI (k:=k+2) ?_,λa=>uI (k:=k+2) ?_,λh0 a=>uI (k:=k+2) ?_,λa b h3=>?_⟩
  ·rw[e,hU (p:=0<=r[k+1]/\r[k+1]<n) i4];simp
  ·rw[e,hU (p:=0<=r[k+1]/\r[k+1]<n) i4];simp
  ·rw[e,hU (p:=r[k]<r[k+1]) j9];simp
  ·have d:r[k]<r[k+1]:=by simpa using h3 i4
   rw[e,h,g9 (p:=0<=r[k+1]/\r[k+1]<n) ⟨a,b⟩,g9 d];rfl
def jG(n:Int)(a:bP):Bool:=decide (0<=n/\n<=64)&&a.all (fK n)
theorem abs{α:Type}{f:α->Bool}{l:List α}{k:Nat}(a:k<ii l)(h:(l.take k).all f=eR):(l.take (k+1)).all f=f l[k]:=by rw[aH _ _ a,vj,h];simp
theorem afx{α:Type}{f:α->Bool}{l:List α}{k:Nat}(a:k<ii l)(h:f l[k]=eS):l.all f=eS:=by rw[List.all_eq_false];exact⟨l[k],qg a,tg⟩
theorem LI{p:aA}(n:Int)(a:Sl)(b:bP)(rs:List Sl)(h:f8)(x:iu h p a 1 ak b rs)(I:ii b<=2^40)(u:∀l∈b,ii l<=2^40):
  aq xD 327 #[xt xz n,a] h λv h'=>v=xx (jG n b)/\h'=h:=by
 refine Js n a ?_;have D:=x.Oy;refine bT (λ_ h'=>h'=h/\0<=n/\n<=64) ?_ ?_
 ·refine ac (λj=>⟨?_,i0⟩) (λj=>ac (λf=>⟨?_,i0⟩) λf=>⟨i0,i4,i4⟩)
  ·rw[jG,hU i4];rfl
  ·rw[jG,hU i4];rfl
 ·rintro _ h' ⟨rfl,q,t⟩;have A:jG n b=b.all (fK n):=by rw[jG,g9 ⟨q,t⟩];rfl
  refine av (λk:Nat=>(k:Int)) (λk h0=>h0=h'/\k<=ii b/\(b.take k).all (fK n)=eR) (λk=>ii b-k) 0 i0 ⟨i0,i4,i9⟩ ?_;rintro i h0 ⟨rfl,J,d⟩;refine ac (λs=>?_) (λm=>?_)
  ·have e:i<ii b:=i4
   refine x.get i i0 e λr o _=>?_;have F:=o.len;have G:=u _ (qg e);have c:fK n b[i]=eS->jG n b=eS:=λB=>by rw[A];exact afx e B
   refine av (λk:Nat=>(k:Int)) (λk f=>f=h0/\k<=b[i].length/\fK n (b[i].take k)=eR) (λk=>b[i].length-k) 0 i0 ⟨i0,i4,by simp[fK,fJ]⟩ ?_;rintro k f ⟨rfl,H,w⟩;refine ac (λs=>?_) (λm=>?_)
   ·have g:k<b[i].length:=i4
    obtain⟨n1,n2,E,y⟩:=VV g w;refine o.bD k i0 g _ i0 ?_;refine ac (λj=>⟨by rw[c (n1 j)],i0⟩) λj=>?_;refine ac (λf=>⟨by rw[c (n2 f)],i0⟩) λf=>?_;rw[af (k+1),af (k-1)];refine ac (λh3=>?_) (λh3=>?_)
    ·refine o.bD (k-1) i4 i4 _ i0 ?_;refine ac (λz=>⟨by rw[c (E i4 z)],i0⟩) λz=>?_;exact⟨k+1,i9,⟨i0,i4,y i4 i4 λ_=>i4⟩,i4⟩
    ·exact⟨k+1,i9,⟨i0,i4,y i4 i4 λ_=>i4⟩,i4⟩
   ·rw[qi i4]at w;rw[af (i+1)];exact⟨i+1,i9,⟨i0,i4,by rw[abs e d,w]⟩,i4⟩
  ·rw[qi i4]at d;exact⟨by rw[A,d],i0⟩
theorem Kb{p:aA}(a:Sl)(b:List Bool)(x:Bool)(h:f8)(i:Seq h p a 1 fh b)(o:ii b<=2^40):
  aq xD 348 #[a,xx x] h λv h'=>∃r:Int,v=xt xz r/\(0<=r↔x∈b)/\h'=h:=by
 refine si a x ?_;have j:=i.len;refine av (λk:Nat=>(k:Int)) (λk h'=>h'=h/\k<=ii b/\x∉b.take k) (λk=>ii b-k) 0 i0 ⟨i0,i4,i9⟩ ?_;rintro k h' ⟨rfl,n,g⟩;refine ac (λm=>?_) (λl=>?_)
 ·have c:k<ii b:=i4
  refine i.bD k i0 c _ i0 ?_;refine bA (λf=>⟨_,i0,⟨λ_=>?_,λ_=>i4⟩,i0⟩) (λd=>?_)
  ·rw[eq_of_beq f];exact qg c
  ·rw[af _];refine⟨k+1,i9,⟨i0,i4,?_⟩,i4⟩;rw[aH _ _ c];simp only[qA,qB,not_or];exact⟨g,λe=>by rw[e]at d;simp at d⟩
 ·rw[qi i4]at g;exact⟨_,i0,⟨λh=>i4,λh=>absurd h g⟩,i0⟩
theorem Fu{p:aA}(a:Sl)(b:List Bool)(x:Bool)(h:f8)(d:Seq h p a 1 fh b)(c:ii b<=2^40):
  aq xD 328 #[a,xx x] h λv h'=>v=xx (decide (x∈b))/\h'=h:=by
 refine py a x ?_;refine(Kb a b x h d c).mono ?_;rintro v h' ⟨r,rfl,e,rfl⟩;refine⟨r,i0,?_,i0⟩;exact congrArg Value.bool (decide_eq_decide.2 e)
theorem SU{α:Type}{f:α->Bool}{l:List α}{k:Nat}(a:k<ii l):(l.take (k+1)).filter f=if f l[k]then(l.take k).filter f++[l[k]]else(l.take k).filter f:=by rw[aH _ _ a,zq];by_cases h:f l[k]=eR<;>simp[h]
theorem Kc{p q:aA}(i:eY)(o r:Sl)(op:List Bool)(row:aw)(h:f8)(u:f7 h (i.add 1)=dB (xu o.ptr o.len o.cap))(s:Seq h p o 1 fh op)(m:Seq h q r 1 ak row)
  (l:∀c∈row,0<=c/\c<ii op) (z:ii row<=2^40):
  aq xD 349 #[xv (dB i),r] h λv h'=>
   v=.tuple #[xt xz ((dj op row).getLast?.getD 0),xx (ii (dj op row)==1)]/\h'=h:=by
 refine ur (dB i) r ?_;have t:=m.len;refine av (λk:Nat=>((dj op (row.take k)).getLast?.getD 0,(ii (dj op (row.take k)):Int),(k:Int))) (λk h'=>h'=h/\k<=ii row) (λk=>ii row-k) 0 i0 ⟨i0,i4⟩ ?_;rintro k h' ⟨rfl,y⟩;dsimp only;refine ac (λw=>?_) (λn=>?_)
 ·have d:k<ii row:=i4
  have A:=l _ (qg d);refine m.bD k i0 d _ i0 ?_;refine⟨i,i0,o,u,?_⟩;have a:row[k].toNat<ii op:=i4
  refine s.bD row[k].toNat i4 a _ i0 ?_;have b:jY op row[k]=op[row[k].toNat]:=by simp[jY,qe,qd a]
  have g:=SU (f:=jY op) d;have x:ii (dj op (row.take k))<=ii row:=zd (qT _ _) pt;rw[af (k+1),af _];refine bA (λj=>?_) (λj=>?_)
  ·refine⟨k+1,?_,⟨i0,i4⟩,i4⟩;have e:dj op (row.take (k+1))=dj op (row.take k)++[row[k]]:=by rw[dj,g,b,j];rfl
   simp[e]
  ·refine⟨k+1,?_,⟨i0,i4⟩,i4⟩;have e:dj op (row.take (k+1))=dj op (row.take k):=by rw[dj,g,b,j];rfl
   simp[e]
 ·have e:row.take k=row:=qi i4;refine⟨?_,i0⟩;simp only[e];congr 4;congr 1;rw[vF];simp;omega
structure yB (h:f8) (p:aA) (a:eY) (l o u:Sl) (rows:bP) (rs:List Sl) (op us:List Bool):Prop where
 c0:f7 h a=dB (xu l.ptr l.len l.cap)
 c1:f7 h (a.add 1)=dB (xu o.ptr o.len o.cap)
 c2:f7 h (a.add 2)=dB (xu u.ptr u.len u.cap)
 ga:p a.block
 sRows:iu h p l 1 ak rows rs
 sOp:Seq h p o 1 fh op
 sUs:Seq h p u 1 fh us
 ulen:ii us=ii rows
 cZ:∀r∈rows,∀c∈r,0<=c/\c<ii op
 short:∀r∈rows,ii r<=64
theorem yB.ag{h h':f8}{p:aA}{a:eY}{l o u:Sl}{rows:bP}{rs:List Sl}{op us:List Bool}(c:yB h p a l o u rows rs op us)(k:aZ p h h'):yB h' p a l o u rows rs op us:=by
 have b:∀n,(a.add n).block=a.block:=λn=>by unfold Addr.add;split<;>rfl
 exact⟨k.cell c.ga c.c0,k.cell (by rw[b];exact c.ga) c.c1,k.cell (by rw[b];exact c.ga) c.c2,c.ga,c.sRows.ag k,c.sOp.ag k,c.sUs.ag k,c.ulen,c.cZ,c.short⟩
theorem NP{p:aA}(a:eY)(l o u:Sl)(rows:bP)(rs:List Sl)(op us:List Bool)(h:f8)(y:yB h p a l o u rows rs op us)(P:ii rows<=2^40):
  aq xD 329 #[xv (dB a)] h λv h'=>aZ (λ_=>True) h h'/\
   v=match mD rows op us with
    |some i=>.tuple #[xy #[xt xz i,xt xz (fl rows op i)],xx eR]
    |none=>.tuple #[xy #[xt xz 0,xt xz 0],xx eS]:=by
 refine Ay (dB a) ?_;refine we an i0 λb L M q e I=>?_;have f:=y.ag (e.mono λ_ _ _=>trivial);refine⟨a,i0,l,f.c0,?_⟩;have K:=y.sRows.Oy;refine av (λk:Nat=>(k:Int)) (λk h'=>h'=L/\k<=ii rows/\∀j,j<k->mC rows op us j=eS) (λk=>ii rows-k) 0 i0 ⟨i0,i4,λj n=>i4⟩ ?_;rintro k h' ⟨rfl,N,B⟩;refine ac (λJ=>?_) (λG=>?_)
 ·have d:k<ii rows:=i4
  refine f.sRows.get k i0 d λr H _=>?_;refine⟨a,i0,u,f.c2,?_⟩;refine f.sUs.bD k i0 (by rw[y.ulen];exact d) _ i0 ?_;have E:us.getD k eS=us[k]'(by rw[y.ulen];exact d):=by rw[qe,qd];rfl
  have s:rows.getD k []=rows[k]:=by rw[qe,qd d];rfl
  rw[af _];refine bA (λw=>?_) (λw=>?_)
  ·refine⟨k+1,i9,⟨i0,i4,λj n=>?_⟩,i4⟩;rcases zy.1 n with n|rfl
   ·exact B j n
   ·simp only[mC,E,w];rfl
  ·refine(Kc a o r op rows[k] h' f.c1 f.sOp H (y.cZ _ (qg d)) (zd (y.short _ (qg d)) i4)).mono ?_;rintro v O ⟨rfl,rfl⟩;refine⟨(_,_),i0,?_⟩;have g:mC rows op us k=(ii (dj op rows[k])==1):=by simp only[mC,E,w,s];rfl
   refine bA (λx=>?_) (λx=>?_)
   ·have m:mC rows op us k=eR:=g.trans x;refine BI an q i0 _ i0 i0 i0 (qm _) λh3 c t A=>?_;refine⟨(_,_),c.aP _ i0,e.then t (λF D _=>i4),?_⟩;have z:fl rows op k=(dj op rows[k]).getLast?.getD 0:=by unfold fl;rw[s]
    rw[mD,XF d B m];show _=Value.tuple #[xy #[xt xz k,xt xz (fl rows op k)],xx eR];rw[z];rfl
   ·have m:mC rows op us k=eS:=g.trans x;refine⟨k+1,i9,⟨i0,i4,λj n=>?_⟩,i4⟩;rcases zy.1 n with n|rfl
    ·exact B j n
    ·exact m
 ·refine BI an q i0 _ i0 i0 i0 (qm _) λh3 c t A=>?_;refine⟨(_,_),c.aP _ i0,e.then t (λF D _=>i4),?_⟩;rw[mD,XE λj n=>B j i4]
theorem Ii{l:List Bool}{i:Nat}(h:i<ii l):l.getD i eS=l[i]:=by rw[qe,qd h];rfl
theorem Ug(op:List Bool)(a:aw):∀k,-1<=iO op a k/\iO op a k<k
 |0=>by simp[iO]
 |k+1=>by
  have:=Ug op a k;unfold iO;split<;>omega
theorem NQ{p:aA}(a:eY)(l o u:Sl)(rows:bP)(rs:List Sl)(op us:List Bool)(h:f8)(q:yB h p a l o u rows rs op us)(hs:ii rows<=2^30)(a1:ii op<=2^30):
  aq xD 330 #[xv (dB a)] h λv h'=>aZ (λ_=>True) h h'/\v=xt xz (hO rows op us):=by
 refine Az (dB a) ?_;refine⟨a,i0,o,q.c1,?_⟩;have a5:=q.sOp.len;refine Go.Vc.run_make (f:=ak) an ⟨_,_,i0,i0,i0,i0,i0,i0⟩ i5 0 i0 i0 op.length op.length i4 i4 (qm _) i4 λs h1 M am a3 y a0=>?_;have ao:=q.ag (y.mono λ_ _ _=>trivial);refine⟨a,i0,l,ao.c0,?_⟩;have a4:=q.sRows.Oy;have B:∀b,s.on b->b=h.size:=by rintro b ⟨o',K⟩;rw[am]at K;cases K;rfl
 have U:∀k,ii ((λ_ r=>r:Nat->aw->aw) k (rows.getD k []))<=64:=λk=>by
  show(rows.getD k []).length<=64;by_cases hk:k<ii rows
  ·rw[qe,qd hk];exact q.short _ (qg hk)
  ·rw[qe,List.getElem?_eq_none i4];simp
 let d:=lp (λ_ r=>r) rows us (qh op.length 0);have G:∀k,ii (d k)=ii op:=λk=>by rw[BY];simp
 have V:∀k,∀x∈d k,0<=x/\x<=64*k:=λk x hx=>Pj (λ_ r=>r) U k x hx;refine av (λk:Nat=>(k:Int)) (λk h'=>aZ (λb=>b<h.size) h h'/\k<=ii rows/\Own h' 3 s 1 ak (d k)) (λk=>ii rows-k) 0 i0 ⟨y.mono λ_ _ _=>trivial,i4,M⟩ ?_;rintro i h2 ⟨E,hi,w⟩;have n:yB h2 p a l o u rows rs op us:=q.ag (E.mono λb e _=>e);refine ac (λN=>?_) (λJ=>?_)
 ·have g:i<ii rows:=i4
  have L:rows.getD i []=rows[i]:=by rw[qe,qd g];rfl
  have hu:us.getD i eS=us[i]'(by rw[q.ulen];exact g):=Ii _;refine n.sRows.get i i0 g λr hr Y=>?_;have ay:=hr.len;have Q:=q.short _ (qg g);refine av (λk:Nat=>(k:Int)) (λk h'=>aZ (λb=>b<h.size) h h'/\k<=rows[i].length/\Own h' 3 s 1 ak (if us.getD i eS then d i else kw (d i) (rows[i].take k))) (λk=>rows[i].length-k) 0 i0
   ⟨E,i4,by simpa[kw]using w⟩ ?_
  rintro j h3 ⟨z,hj,c⟩;have t:yB h3 p a l o u rows rs op us:=q.ag (z.mono λb e _=>e);refine ac (λN=>?_) (λJ=>?_)
  ·have D:j<rows[i].length:=i4
   have W:=t.sRows.row i r _ Y (qd g);have hc:=q.cZ _ (qg g) _ (qg D);refine W.bD j i0 D _ i0 ?_;refine⟨a,i0,u,t.c2,?_⟩;refine t.sUs.bD i i0 (by rw[q.ulen];exact g) _ i0 ?_;rw[af (j+1)];refine bi (λe=>?_) (λe=>?_)
   ·rw[hu,e]at c;simp only[zn,if_false]at c;have P:ii (kw (d i) (rows[i].take j))=ii op:=by rw[De,G]
    have m:rows[i][j].toNat<ii (kw (d i) (rows[i].take j)):=by rw[P];omega
    have a2:=Et (r:=rows[i].take j) (V i) _ (qg m);have a6:ii (rows[i].take j)<=64:=pt
    have X:Seq h3 (λ_=>True) s 1 ak (kw (d i) (rows[i].take j)):=c.seq (λ_=>rfl) λ_ _=>trivial;refine X.bD rows[i][j].toNat i4 m _ i0 ?_;rw[af _];refine c.set an (λ_=>rfl) i0 rows[i][j].toNat i4 m _ i0 i0 i0 λh4 F Z ap=>?_;refine⟨j+1,i9,⟨z.then Z (λb e _=>λR=>by have:=B b R;omega),i4,?_⟩,i4⟩;rw[hu,e];simp only[zn,if_false];rw[aH _ _ D,RQ,getD_lt m];exact F
   ·refine⟨j+1,i9,⟨z,i4,?_⟩,i4⟩;rw[hu,e]at c⊢;exact c
  ·rw[af (i+1)];rw[qi i4]at c;refine⟨i+1,i9,⟨z,i4,?_⟩,i4⟩;have:d (i+1)=if us.getD i eS then d i else kw (d i) rows[i]:=by show lp _ _ _ _ (i+1)=_;rw[lp];simp only[L];rfl
   rw[this];exact c
 ·have ab:i=ii rows:=i4
  subst ab;refine⟨a,i0,o,n.c1,?_⟩;have I:Seq h2 (λ_=>True) s 1 ak (d rows.length):=w.seq (λ_=>rfl) λ_ _=>trivial;have ar:=G rows.length;refine av (λk:Nat=>(iO op (d rows.length) k,(k:Int))) (λk h'=>h'=h2/\k<=ii op) (λk=>ii op-k) 0 i0 ⟨i0,i4⟩ ?_;rintro k h3 ⟨rfl,hk⟩;dsimp only;have ax:=Ug op (d rows.length) k;refine ac (λN=>?_) (λJ=>?_)
  ·have H:k<ii op:=i4
   refine n.sOp.bD k i0 H _ i0 ?_;rw[af (k+1)];have A:op.getD k eS=op[k]:=Ii H;refine bA (λe=>?_) (λe=>?_)
   ·refine ac (λO=>?_) (λah=>?_)
    ·refine⟨k+1,?_,⟨i0,i4⟩,i4⟩;rw[iO,f9 (by rw[A,e,g9 O];rfl)];rfl
    ·refine I.bD k i0 i4 _ i0 ?_;refine I.bD (iO op (d rows.length) k).toNat i4 i4 _ i0 ?_;have e1:(d rows.length).getD k 0=(d rows.length)[k]:=getD_lt;have e2:(d rows.length).getD (iO op (d rows.length) k).toNat 0=(d rows.length)[(iO op (d rows.length) k).toNat]:=getD_lt;refine ac (λS=>?_) (λT=>?_)
     ·refine⟨k+1,?_,⟨i0,i4⟩,i4⟩;rw[iO,f9 (by rw[A,e,e1,e2,g9 S];simp)];rfl
     ·refine⟨k+1,?_,⟨i0,i4⟩,i4⟩;rw[iO,g0 (by rw[A,e,e1,e2,hU T,hU ah];simp)];rfl
   ·refine⟨k+1,?_,⟨i0,i4⟩,i4⟩;rw[iO,g0 (by rw[A,e];simp)];rfl
  ·have ad:k=ii op:=i4
   subst ad;exact⟨E.mono λb e _=>e,i0⟩
def fL(p:Int×Int):ba:=[xt xz p.1,xt xz p.2]
theorem abt:∀x,∀c∈fL x,c.oneCell'=eR:=by intro x c a;simp only[fL,q8,List.not_mem_nil,or_false]at a;rcases a with rfl|rfl<;>rfl
def CN(n:Int)(rows:bP):List (Int×Int)×aw×aw:=
 if jG n rows then((dL n.toNat rows).steps,(dL n.toNat rows).dead,fD (dL n.toNat rows).used rows.length)else([],[],[])
def afy(a h:f8)(v:Value)(ok:Bool)(b:List (Int×Int))(e c:aw):Prop:=
 ∃s d f:Sl,v=.tuple #[xy #[s,d,f],xx ok]/\
  Sp a h [ae 357 s 2 fL b,ae 3 d 1 ak e,ae 3 f 1 ak c]
theorem adW{α β γ:Type}{p h:f8}{c:Nat->Nat}{o w g j u t:Nat}{l:α->ba}{v:β->ba}{m:γ->ba}{q s r:Sl}{l1:List α}{l2:List β}{n:List γ}(k:mK p h c)(f:dO h c 6 o q j l l1)(e:dO h c 7 w s u v l2)(a3:dO h c 8 g r t m n):
  Sp p h [ae o q j l l1,ae w s u v l2,ae g r t m n]:=by
 refine⟨λ_ h=>h,k.ag,λb=>c b-5,λb a=>?_,λi A d=>?_⟩
 ·have:=k.bx b a;dsimp only;omega
 ·match i,d with
  |0,d=>simp at d;subst d;exact⟨f.own,λb a=>⟨f.own.lt a,by have:=f.bx b a;dsimp only;omega⟩⟩
  |1,d=>simp at d;subst d;exact⟨e.own,λb a=>⟨e.own.lt a,by have:=e.bx b a;dsimp only;omega⟩⟩
  |2,d=>simp at d;subst d;exact⟨a3.own,λb a=>⟨a3.own.lt a,by have:=a3.bx b a;dsimp only;omega⟩⟩
  |i+3,d=>simp at d
theorem adX{n:Int}{rows:bP}(h:jG n rows=eR):0<=n/\n<=64/\∀r∈rows,fK n r=eR:=by simp only[jG,qC,decide_eq_true_eq,q7]at h;exact⟨h.1.1,h.1.2,h.2⟩
theorem Ij{n:Int}{r:aw}(h:fK n r=eR):∀c∈r,0<=c/\c<n:=by simp only[fK,qC,q7,decide_eq_true_eq]at h;exact h.1
theorem MM:∀{r:aw} {a n:Int},fJ r=eR->(∀c∈r,a<=c/\c<n)->(ii r:Int)<=max 0 (n-a)
 |[],a,n,_,_=>i7
 |[x],a,n,_,h=>by have:=h x i9;simp;omega
 |x::y::t,a,n,hr,h=>by
  simp only[fJ,qC,decide_eq_true_eq]at hr;have g:=h x i9;have f:=h y i9;have d:∀(l:aw) (z:Int),fJ (z::l)=eR->∀c∈l,z<c:=by
   intro l
   induction l with
   |nil=>intro z _ c b;simp at b
   |cons w t ih=>
    intro z e c b;simp only[fJ,qC,decide_eq_true_eq]at e;rcases q8.1 b with rfl|b
    ·exact e.1
    ·have:=ih w e.2 c b;omega
  have:=MM (r:=y::t) (a:=x+1) (n:=n) hr.2 λc b=>⟨by
   rcases q8.1 b with rfl|b
   ·omega
   ·have:=d t y hr.2 c b;omega,(h c (by simp only[q8]at b⊢;exact .inr b)).2⟩
  simp only[List.length_cons]at this⊢;omega
theorem Zb{n:Int}{r:aw}(h:fK n r=eR)(c:n<=64):ii r<=64:=by have b:=Ij h;simp only[fK,qC]at h;have:=MM (a:=0) h.2 b;omega
theorem abu(n k:Nat)(h:k<n):(qh k eR++qh (n-k) eS).set k eR=qh (k+1) eR++qh (n-(k+1)) eS:=by
 have e:n-k=(n-(k+1))+1:=i4
 rw[qX _ _ i9,e,yl];simp only[List.length_replicate,ze,zw];rw[List.replicate_succ' (n:=k)];simp
theorem QS{h f:f8}{c:Nat->Nat}{a:eY}{l o u:Sl}{rows:bP}{rs:List Sl}{op us:List Bool}(p:iu f (λb=>b<f.size) l 1 ak rows rs)(j:mK f h c)(e:kI h c 2 a 399 [l,o,u])
  (n:dO h c 3 4 o 1 fh op) (m:dO h c 4 4 u 1 fh us) (g:ii us=ii rows) (q:ii op<=64) (k:∀r∈rows,fK op.length r=eR):yB h (λb=>b<h.size) a l o u rows rs op us:=
 ⟨e.box.cell0 i0,e.box.cell i0,e.box.cell i0,e.box.lt,(p.ag j.ag).mono λb i=>qY i j.ag.1,n.UC λ_=>rfl,m.UC λ_=>rfl,g,λr d=>Ij (k r d),λr d=>Zb (k r d) i4⟩
theorem Zc(n:Int)(l:Sl)(rows:bP)(rs:List Sl)(h:f8)(hl:iu h (λb=>b<h.size) l 1 ak rows rs)(hs:ii rows<=2^30)(d6:∀r∈rows,ii r<=2^40):
  aq xD 281 #[xt xz n,l] h λv h'=>afy h h' v (jG n rows) (CN n rows).1 (CN n rows).2.1 (CN n rows).2.2:=by
 refine Lm n l ?_;have ep:=hl.Oy;refine sD an (mK.refl h) 1 i0 λa1 h1 b7 ec=>?_;have E:=(mK.refl h).keep (m:=1) ec i5;refine(LI n l rows rs h1 (hl.ag E.ag) i4 d6).mono ?_;rintro v h2 ⟨rfl,rfl⟩;refine⟨_,i0,?_⟩;refine bi (λhr=>?_) (λhr=>?_)
 ·refine b7.jJ an i0 _ i0 i0 i0 (qm _) λh3 ar B=>?_;refine⟨(⟨eH,0,0⟩,⟨eH,0,0⟩,⟨eH,0,0⟩),ar.box.aP _ i0,?_⟩;refine⟨⟨eH,0,0⟩,⟨eH,0,0⟩,⟨eH,0,0⟩,by rw[hr],?_⟩;simp only[CN,hr,zn,if_false];exact(((Sp.zip (E.keep (m:=1) B i5).ag).nil 357 2 fL).nil 3 1 ak).nil 3 1 ak
 ·obtain⟨es,ek,b5⟩:=adX hr;obtain⟨N,rfl⟩:∃N:Nat,n=N:=⟨n.toNat,i4⟩
  have hN:N<=64:=i4
  refine bT (λs h'=>∃c a o u,s=dB a/\mK h h' c/\kI h' c 1 a1 293 [xu eH 0 0,xu eH 0 0,xu eH 0 0]/\kI h' c 2 a 399 [l,xu o.ptr o.len o.cap,xu u.ptr u.len u.cap]/\
   dO h' c 3 4 o 1 fh (qh N eS)/\dO h' c 4 4 u 1 fh (qh rows.length eS)) ⟨?_,?_⟩ ?_
  ·refine wf an E 3 fh ⟨_,_,i0,i0,i0,i0,i0,i0⟩ i5 eS i0 i0 N i0 i0 i4 λo h3 ho B=>?_;refine⟨trivial,?_⟩;refine wf an (E.keep (m:=3) B i5) 4 fh ⟨_,_,i0,i0,i0,i0,i0,i0⟩ i5 eS i0 i0 rows.length i4 i4 i4 λu h4 hu H=>?_;refine⟨trivial,?_⟩;refine OB _ ((E.keep (m:=3) B i5).keep (m:=4) H i5) 2 λa h5 ha A=>?_;exact⟨trivial,_,a,o,u,i0,((E.keep B i5).keep H i5).keep A i5,((b7.keep B i5).keep H i5).keep A i5,ha,(ho.keep H i5).keep A i5,hu.keep A i5⟩
  ·refine wf an E 4 fh ⟨_,_,i0,i0,i0,i0,i0,i0⟩ i5 eS i0 i0 rows.length i4 i4 i4 λu h3 hu B=>?_;refine⟨trivial,?_⟩;refine wf an (E.keep (m:=4) B i5) 3 fh ⟨_,_,i0,i0,i0,i0,i0,i0⟩ i5 eS i0 i0 N i0 i0 i4 λo h4 ho H=>?_;refine⟨trivial,?_⟩;refine OB _ ((E.keep (m:=4) B i5).keep (m:=3) H i5) 2 λa h5 ha A=>?_;exact⟨trivial,_,a,o,u,i0,((E.keep B i5).keep H i5).keep A i5,((b7.keep B i5).keep H i5).keep A i5,ha,ho.keep A i5,(hu.keep H i5).keep A i5⟩
  ·rintro s h3 ⟨c,a,o,u,rfl,c6,bb,ar,ao,cq⟩;refine⟨a,i0,o,ar.box.cell i0,?_⟩;have eq:o.len=N:=by rw[ao.own.len];simp
   refine av (λt:Nat×(Nat->Nat)=>(t.1:Int)) (λt h'=>t.1<=N/\mK h h' t.2/\kI h' t.2 1 a1 293 [xu eH 0 0,xu eH 0 0,xu eH 0 0]/\kI h' t.2 2 a 399 [l,o,u]/\
    dO h' t.2 3 4 o 1 fh (qh t.1 eR++qh (N-t.1) eS)/\dO h' t.2 4 4 u 1 fh (qh rows.length eS)) (λt=>N-t.1) (0,c) i0 ⟨i9,c6,bb,ar,by simpa using ao,cq⟩ ?_
   rintro⟨k,c⟩ h4 ⟨hk,bk,br,a9,bd,b1⟩;dsimp only at*;refine ac (λd5=>?_) (λdk=>?_)
   ·have c8:k<N:=i4
    refine⟨a,i0,o,a9.box.cell i0,?_⟩;refine bd.set an (λ_=>rfl) i0 k i0 i7 eR i0 i0 i0 λh5 bq A=>?_;rw[af _];rw[abu _ _ c8]at bq;exact⟨(k+1,_),i9,⟨i7,bk.keep A i5,br.keep A i5,a9.keep A i5,bq,b1.keep A i5⟩,i7⟩
   ·have dr:k=N:=i4
    subst dr;simp only[ze,vz,qM]at bd;refine sD an bk 5 i0 λap h5 da A=>?_;have c7:=bk.keep (m:=5) A i5;have ef:=br.keep (m:=5) A i5;have dx:=a9.keep (m:=5) A i5;have bq:=bd.keep (m:=5) A i5;have d7:=b1.keep (m:=5) A i5;clear bk br a9 bd b1 c6 bb ar ao cq;generalize grow c h4.size 5=c5 at*;refine av (τ:=Nat×List Bool×List Bool×(List (Int×Int))×aw×(Nat->Nat)×Sl×Sl) (λ_=>())
     (λ⟨f,op,us,st,dd,c,ss,ds⟩ h'=>ii op=k/\us.length=ii rows/\op.count eR<=f/\f<=k/\st.length<=k-f/\dd.length<=k-f/\
      (∃r,cJ rows f op us=r/\dL k rows=⟨st++r.steps,dd++r.dead,r.used⟩)/\mK h h' c/\
      kI h' c 1 a1 293 [xu eH 0 0,xu eH 0 0,xu eH 0 0]/\kI h' c 2 a 399 [l,o,u]/\
      dO h' c 3 4 o 1 fh op/\dO h' c 4 4 u 1 fh us/\
      kI h' c 5 ap 293 [ss,ds,xu eH 0 0]/\dO h' c 6 357 ss 2 fL st/\dO h' c 7 3 ds 1 ak dd)
     (λt=>t.1) (k,qh k eR,qh rows.length eS,[],[],c5,⟨eH,0,0⟩,⟨eH,0,0⟩) i0
     ⟨i9,i9,i9,i9,i9,i9,⟨_,i0,by simp[dL]⟩,c7,ef,dx,bq,d7,da,dO.nil _ _ _ _ _ _,dO.nil _ _ _ _ _ _⟩ ?_
    rintro⟨f,op,us,st,dd,c,ss,ds⟩ h6 ⟨ad,I,eh,eo,ei,eg,⟨r,ah,a8⟩,J,a4,P,Z,T,L,K,M⟩;dsimp only at*;have G:∀r∈rows,fK op.length r=eR:=by rw[ad];exact b5
    have a7:=QS hl J P Z T I i4 G;refine⟨a,i0,o,P.box.cell i0,?_⟩;refine(Fu o op eR h6 (Z.UC λ_=>rfl) i4).mono ?_;rintro v h7 ⟨rfl,rfl⟩;refine⟨_,i0,?_⟩;refine bi (λhc=>?_) (λhc=>?_)
    ·have ab:op.contains eR=eS:=by simpa using hc
     have bb:r=⟨[],[],us⟩:=by rw[<-ah];exact xL ab f
     subst bb;simp only[qM]at a8;refine⟨a,i0,u,P.box.cell i0,?_⟩;have er:u.len=ii rows:=by rw[T.own.len,I]
     refine av (λt:Nat×(Nat->Nat)×Sl=>(t.1:Int)) (λ⟨j,c,fs⟩ h'=>j<=ii rows/\mK h h' c/\
      kI h' c 1 a1 293 [xu eH 0 0,xu eH 0 0,xu eH 0 0]/\dO h' c 4 4 u 1 fh us/\
      kI h' c 5 ap 293 [ss,ds,fs]/\dO h' c 6 357 ss 2 fL st/\dO h' c 7 3 ds 1 ak dd/\dO h' c 8 3 fs 1 ak (fD us j)) (λt=>ii rows-t.1) (0,c,⟨eH,0,0⟩) i0
      ⟨i9,J,a4,T,L,K,M,dO.nil _ _ _ _ _ _⟩ ?_
     rintro⟨j,c,fs⟩ h8 ⟨hj,bl,b3,b0,X,am,a2,a5⟩;dsimp only at*;refine ac (λd5=>?_) (λdk=>?_)
     ·have el:j<ii rows:=i4
      have et:ii (fD us j)<=j:=Gc us j;refine(b0.UC λ_=>rfl).bD j i0 i4 _ i0 ?_;have c0:us.getD j eS=us[j]:=Ii i4;rw[af _];refine bi (λhb=>?_) (λhb=>?_)
      ·refine⟨fs,X.box.cell i0,?_⟩;refine Hm an bl 9 ak ⟨_,_,i0,i0,i0,i0,i0,i0⟩ i0 [(j:Int)] i0 (zN i0) i0 λv h9 d9 p=>?_;refine(a5.keep (m:=9) p i5).append an ⟨_,_,i0,i0,i0,i0,i0,i0⟩ ⟨_,_,i0,i0⟩ i0 i5 (λ_=>rfl) (d9.seq λ_=>rfl) eJ i7 λed b6 b4 g=>?_;refine((X.keep (m:=9) p i5).keep (m:=8) g i5).store an i0 2 _ i0 i0 i0 (zN i0) λcp b9 d=>?_;refine⟨(j+1,_,ed),i9,⟨i7,((bl.keep p i5).keep g i5).keep d i5,((b3.keep p i5).keep g i5).keep d i5,((b0.keep p i5).keep g i5).keep d i5,b9,
        ((am.keep p i5).keep g i5).keep d i5,((a2.keep p i5).keep g i5).keep d i5,?_⟩,i7⟩
       have e:fD us (j+1)=fD us j++[(j:Int)]:=by rw[fD,c0,hb];rfl
       rw[e];exact b4.keep d i5
      ·have e:fD us (j+1)=fD us j:=by rw[fD,c0,hb];rfl
       exact⟨(j+1,c,fs),i9,⟨i7,bl,b3,b0,X,am,a2,by rw[e];exact a5⟩,i7⟩
     ·have d2:j=ii rows:=i4
      subst d2;refine⟨(ss,ds,fs),X.box.aP _ i0,?_⟩;refine b3.jJ an i0 _ i0 i0 i0 (qm _) λh9 d4 p=>?_;refine⟨(ss,ds,fs),d4.box.aP _ i0,?_⟩;refine⟨ss,ds,fs,by rw[hr],?_⟩;simp only[CN,hr,if_true,ql,a8];exact adW (bl.keep (m:=1) p i5) (am.keep (m:=1) p i5) (a2.keep (m:=1) p i5) (a5.keep (m:=1) p i5)
    ·have ab:op.contains eR=eR:=by simpa using hc
     obtain⟨f',rfl⟩:∃f',f=f'+1:=by obtain⟨j,hj,e⟩:=Eu ab;have:=kM e;exact⟨f-1,i4⟩
     refine bc ?_;refine(NP a l o u rows rs op us h7 a7 i4).mono ?_;rintro v h8 ⟨z,rfl⟩;have z:=z.bx c 9;cases hst:mD rows op us with
     |some i=>
      obtain⟨hi,ea⟩:=sK hst;obtain⟨en,c9,ao⟩:=BZ ea;have c1:rows.getD i []=rows[i]:=by rw[qe,qd hi];rfl
      have ej:=Ij (G _ (qg hi)) _ (c1▸c9);refine⟨((i,fl rows op i),eR),i0,?_⟩;dsimp only;refine sD an (J.keep (m:=9) z i5) 9 i0 λax h9 has p=>?_;refine has.jJ an i0 _ i0 i0 i0 (qm _) λb6 S g=>?_;refine DM i0 ?_;have F:=((J.keep (m:=9) z i5).keep (m:=9) p i5).keep (m:=9) g i5;have ay:=((a4.keep (m:=9) z i5).keep (m:=9) p i5).keep (m:=9) g i5;have V:=((P.keep (m:=9) z i5).keep (m:=9) p i5).keep (m:=9) g i5;have U:=((Z.keep (m:=9) z i5).keep (m:=9) p i5).keep (m:=9) g i5;have Y:=((T.keep (m:=9) z i5).keep (m:=9) p i5).keep (m:=9) g i5;have D:=((L.keep (m:=9) z i5).keep (m:=9) p i5).keep (m:=9) g i5;have O:=((K.keep (m:=9) z i5).keep (m:=9) p i5).keep (m:=9) g i5;have Q:=((M.keep (m:=9) z i5).keep (m:=9) p i5).keep (m:=9) g i5;clear J a4 P Z T L K M z p has a7;generalize grow (grow (grow c h7.size 9) h8.size 9) h9.size 9=c10 at*;refine⟨ss,D.box.cell0 i0,(_,_),S.box.aP _ i0,?_⟩;dsimp only;refine Hm an F 10 fL ⟨_,_,i0,i0,i0,i0,i0,i0⟩ i0 [((i:Int),fl rows op i)] i0 (zN i0) i0 λv cp c4 d=>?_;refine(O.keep (m:=10) d i5).append an ⟨_,_,i0,i0,i0,i0,i0,i0⟩ ⟨_,_,i0,i0⟩ i0 i5 (λ_=>rfl) (c4.seq λ_=>rfl) abt i7 λd1 dy bs q=>?_;refine((D.keep (m:=10) d i5).keep (m:=6) q i5).jJ an i0 _ i0 i0 i0 (zN i0) λd3 cd w=>?_;have R:=((S.keep (m:=10) d i5).keep (m:=6) q i5).keep (m:=5) w i5;have a6:=((V.keep (m:=10) d i5).keep (m:=6) q i5).keep (m:=5) w i5;have cn:=((Y.keep (m:=10) d i5).keep (m:=6) q i5).keep (m:=5) w i5;have cs:=((U.keep (m:=10) d i5).keep (m:=6) q i5).keep (m:=5) w i5;refine⟨a,i0,u,a6.box.cell i0,(i:Int),R.box.cell0 i0,a,i0,o,a6.box.cell i0,fl rows op i,R.box.cell i0,?_⟩;refine cn.set an (λ_=>rfl) i0 i i0 i4 eR i0 i0 i0 λd8 cr y=>?_;have a0:=R.keep (m:=4) y i5;have W:=a6.keep (m:=4) y i5;refine⟨⟨a0.box.cell i0,trivial⟩,?_⟩;refine(cs.keep (m:=4) y i5).set an (λ_=>rfl) i0 (fl rows op i).toNat i4 i4 eS i0 i0 i0 λdp a3 x=>?_;have eb:=a0.keep (m:=3) x i5;have cf:=W.keep (m:=3) x i5;refine⟨trivial,?_⟩;have du:=kM (op:=op) (j:=(fl rows op i).toNat) ao;rw[oo ab hst]at ah;refine⟨(f',op.set (fl rows op i).toNat eS,us.set i eR,st++[((i:Int),fl rows op i)],dd,_,d1,ds),i0,⟨by simp[ad],by simp[I],i6,i6,i7,i6,⟨_,i0,?_⟩,
       ((((F.keep d i5).keep q i5).keep w i5).keep y i5).keep x i5,
       ((((ay.keep d i5).keep q i5).keep w i5).keep y i5).keep x i5,
       cf,a3,cr.keep x i5,(cd.keep y i5).keep x i5,((bs.keep w i5).keep y i5).keep x i5,
       ((((Q.keep d i5).keep q i5).keep w i5).keep y i5).keep x i5⟩,i6⟩
      rw[a8,<-ah];simp
     |none=>
      have d0:=rP (rows:=rows) (us:=us) ab;refine⟨((0,0),eS),i0,?_⟩;dsimp only;refine sD an (J.keep (m:=9) z i5) 9 i0 λax h9 has p=>?_;refine has.jJ an i0 _ i0 i0 i0 (qm _) λb6 S g=>?_;refine tK i0 ?_;have F:=((J.keep (m:=9) z i5).keep (m:=9) p i5).keep (m:=9) g i5;have ay:=((a4.keep (m:=9) z i5).keep (m:=9) p i5).keep (m:=9) g i5;have V:=((P.keep (m:=9) z i5).keep (m:=9) p i5).keep (m:=9) g i5;have U:=((Z.keep (m:=9) z i5).keep (m:=9) p i5).keep (m:=9) g i5;have Y:=((T.keep (m:=9) z i5).keep (m:=9) p i5).keep (m:=9) g i5;have D:=((L.keep (m:=9) z i5).keep (m:=9) p i5).keep (m:=9) g i5;have O:=((K.keep (m:=9) z i5).keep (m:=9) p i5).keep (m:=9) g i5;have Q:=((M.keep (m:=9) z i5).keep (m:=9) p i5).keep (m:=9) g i5;clear J a4 P Z T L K M z p has a7;generalize grow (grow (grow c h7.size 9) h8.size 9) h9.size 9=c10 at*;have a7:=QS hl F V U Y I i4 G;refine(NQ a l o u rows rs op us b6 a7 i4 i4).mono ?_;rintro v cp ⟨d,rfl⟩;have d:=d.bx c10 9;refine⟨_,i0,?_⟩;refine⟨ds,(D.keep (m:=9) d i5).box.cell i0,?_⟩;refine Hm an (F.keep (m:=9) d i5) 10 ak ⟨_,_,i0,i0,i0,i0,i0,i0⟩ i0 [hO rows op us] i0 (zN i0) i0 λv dy c2 q=>?_;refine((Q.keep (m:=9) d i5).keep (m:=10) q i5).append an ⟨_,_,i0,i0,i0,i0,i0,i0⟩ ⟨_,_,i0,i0⟩ i0 i5 (λ_=>rfl) (c2.seq λ_=>rfl) eJ i7 λds' d3 cc w=>?_;refine(((D.keep (m:=9) d i5).keep (m:=10) q i5).keep (m:=7) w i5).store an i0 1 _ i0 i0 i0 (zN i0) λd8 b2 y=>?_;have W:=(((V.keep (m:=9) d i5).keep (m:=10) q i5).keep (m:=7) w i5).keep (m:=5) y i5;have cl:=(((U.keep (m:=9) d i5).keep (m:=10) q i5).keep (m:=7) w i5).keep (m:=5) y i5;refine⟨a,i0,o,W.box.cell i0,?_⟩;refine cl.set an (λ_=>rfl) i0 (hO rows op us).toNat i4 i4 eS i0 i0 i0 λdp a3 x=>?_;have du:=kM (op:=op) (j:=(hO rows op us).toNat) d0.2.2;rw[oq ab hst]at ah;refine⟨(f',op.set (hO rows op us).toNat eS,us,st,dd++[hO rows op us],_,ss,ds'),i0,⟨by simp[ad],I,i6,i6,i6,i7,⟨_,i0,?_⟩,
       ((((F.keep d i5).keep q i5).keep w i5).keep y i5).keep x i5,
       ((((ay.keep d i5).keep q i5).keep w i5).keep y i5).keep x i5,
       W.keep x i5,a3,((((Y.keep d i5).keep q i5).keep w i5).keep y i5).keep x i5,b2.keep x i5,
       ((((O.keep d i5).keep q i5).keep w i5).keep y i5).keep x i5,
       (cc.keep y i5).keep x i5⟩,i6⟩
      rw[a8,<-ah];simp
theorem Kd(pool:List (Sl×Row))(d:(⟨eH,0,0⟩,[])∈pool)(n:Nat):ij pool id (qh n ⟨eH,0,0⟩) (qh n []):=
 ⟨i9,λi r l a b=>by
  rw[wj]at a b;split at a
  ·rename_i c;rw[f9 c]at b;cases a;cases b;exact d
  ·cases a⟩
theorem aa.adY{B:aA}{b h:f8}{As:List HP}(H:aa B b h As)(i:Nat){pool:List (Sl×Row)}(c:As[i]?=dB (kX pool)):aa B b h (As.set i (kX ((⟨eH,0,0⟩,[])::pool))):=
 H.gb i c λq d x a=>by
  rcases q8.1 a with rfl|a
  ·exact Seq.nil _ _ _ _ _ _
  ·exact d x a
structure VW (h:f8) (f:eY) (r st dd lf:Sl) (rr:List (Sl×Sl)) (R:List fq) (ST:List (Int×Int)) (D L:aw):Prop where
 field:fH h f
 rest:nD ju 2 qv h r rr R
 steps:Rd h st 2 fL ST
 dead:Rd h dd 1 ak D
 left:Rd h lf 1 ak L
abbrev SA(s:eY)(a:ba):HP:=al s 295 a
abbrev HA(s:Sl)(rs:List Sl):HP:=ae 71 s 1 bp rs
abbrev RA(s:Sl)(l:Row):HP:=ae 5 s 1 aD l
theorem MN{R:bP}:∀{l1 l2:List (Int×Int)} {D:Int->Prop},rR R D (l1++l2)->rR R D l1/\rR R (λx=>D x∨∃i,(i,x)∈l1) l2
 |[],l2,D,h=>⟨trivial,by
  have:(λx=>D x∨∃i,(i,x)∈([]:List (Int×Int)))=D:=by funext x;simp
  rw[this];exact h⟩
 |(i,c)::l1,l2,D,h=>by
  obtain⟨a,b,g,d,e⟩:=h;obtain⟨f,k⟩:=MN e;refine⟨⟨a,b,g,d,f⟩,?_⟩;have:(λx=>D x∨∃j,(j,x)∈(i,c)::l1)=λx=>(D x∨x=c)∨∃j,(j,x)∈l1:=by
   funext x;simp only[q8,Prod.mk.injEq,eq_iff_iff];constructor
   ·rintro(h|⟨j,⟨_,h⟩|h⟩)
    ·exact .inl (.inl h)
    ·exact .inl (.inr h)
    ·exact .inr ⟨j,h⟩
   ·rintro((h|h)|⟨j,h⟩)
    ·exact .inl h
    ·exact .inr ⟨i,.inl ⟨i0,h⟩⟩
    ·exact .inr ⟨j,.inr h⟩
  rw[this];exact k
variable {B:aA} {h0 h:f8} {As:List HP}
theorem SV(s f:eY)(p:Int×Int×Int)(v r Z V U O Q:Sl)(n:Nat)(pool:List (Sl×Row))(H:aa B h0 h (SA s (gC f p v r Z V U O Q)::kX pool::As))(m:v.len=n)(hn:n<=64){K:Unit->f8->Prop}
  (N:∀k d h',k.len=n->d.len=n->aa B h0 h' (SA s (gC f p v r Z V U k d)::HA k (qh n ⟨eH,0,0⟩)::HA d (qh n ⟨eH,0,0⟩)::kX pool::As)->K () h'):(λ(c:bm) (S:Unit->f8->Prop)=>
 ∃a3:eY,(c=dB a3)/\
 ∃b:Sl,f7 h (a3.add 4)=dB (xu b.ptr b.len b.cap)/\
 ∃a5:eY,(c=dB a5)/\
 ∃a:Sl,f7 h (a5.add 4)=dB (xu a.ptr a.len a.cap)/\
 (bV xD (qG 56 (xt xz ((b.len:Nat):Int)) (xt xz ((b.len:Nat):Int))) (.one (.sc .slc)) h λy F=>
 (au.ok [(a5.add 4,(xu a.ptr a.len a.cap)),(a3.add 4,(xu b.ptr b.len b.cap))] F)/\
 ∃P:eY,(c=dB P)/\
 (bV xD (qG 56 (xt xz ((a.len:Nat):Int)) (xt xz ((a.len:Nat):Int))) (.one (.sc .slc)) F λv9 E=>
 (au.ok [(a5.add 4,(xu a.ptr a.len a.cap)),(a3.add 4,(xu b.ptr b.len b.cap))] E)/\
 az xD (qf 56 (xv (dB (P.add 9))) (xu y.ptr y.len y.cap)) E λ_ h3=>
 (au.ok [] h3)/\
 ∃A:eY,(c=dB A)/\
 az xD (qf 56 (xv (dB (A.add 10))) (xu v9.ptr v9.len v9.cap)) h3 λ_ q=>
 (au.ok [] q)/\
 S () q)/\(az xD (qf 56 (xv (dB (P.add 9))) (xu y.ptr y.len y.cap)) F λ_ W=>
 (au.ok [] W)/\
 bV xD (qG 56 (xt xz ((a.len:Nat):Int)) (xt xz ((a.len:Nat):Int))) (.one (.sc .slc)) W λw Y=>
 (au.ok [] Y)/\
 ∃z:eY,(c=dB z)/\
 az xD (qf 56 (xv (dB (z.add 10))) (xu w.ptr w.len w.cap)) Y λ_ X=>
 (au.ok [] X)/\
 S () X))/\(bV xD (qG 56 (xt xz ((a.len:Nat):Int)) (xt xz ((a.len:Nat):Int))) (.one (.sc .slc)) h λu h8=>
 (au.ok [(a5.add 4,(xu a.ptr a.len a.cap)),(a3.add 4,(xu b.ptr b.len b.cap))] h8)/\
 bV xD (qG 56 (xt xz ((b.len:Nat):Int)) (xt xz ((b.len:Nat):Int))) (.one (.sc .slc)) h8 λx h9=>
 (au.ok [(a5.add 4,(xu a.ptr a.len a.cap)),(a3.add 4,(xu b.ptr b.len b.cap))] h9)/\
 ∃D:eY,(c=dB D)/\
 az xD (qf 56 (xv (dB (D.add 9))) (xu x.ptr x.len x.cap)) h9 λ_ I=>
 (au.ok [] I)/\
 ∃L:eY,(c=dB L)/\
 az xD (qf 56 (xv (dB (L.add 10))) (xu u.ptr u.len u.cap)) I λ_ G=>
 (au.ok [] G)/\
 S () G)) (dB s) K:=by
 have T:=H.box 0 i0;refine⟨s,i0,v,T.cell i0,s,i0,v,T.cell i0,?_,?_⟩
 ·refine H.make an bp fF i5 ⟨eH,0,0⟩ i0 i0 n n o5 o5 (qm _) i4 λk F o R l=>?_;have l:=l.bv;have i:=l.box 1 i0;refine⟨⟨i.cell i0,i.cell i0,trivial⟩,s,i0,?_,?_⟩
  ·refine l.make an bp fF i5 ⟨eH,0,0⟩ i0 i0 n n o5 o5 (qm _) i4 λd E e J g=>?_;have g:=g.bv;have j:=g.box 2 i0;refine⟨⟨j.cell i0,j.cell i0,trivial⟩,?_⟩;refine g.store an 2 i0 i0 9 [k] i0 i0 i0 ns λh3 t=>⟨trivial,s,i0,?_⟩
   refine t.store an 2 i0 i0 10 [d] i0 i0 i0 ns λq M=>⟨trivial,?_⟩
   exact N k d q o e (M.aT 4 [2,1,0,3])
  ·refine l.store an 1 i0 i0 9 [k] i0 i0 i0 ns λE g=>⟨trivial,?_⟩
   refine g.make an bp fF i5 ⟨eH,0,0⟩ i0 i0 n n o5 o5 (qm _) i4 λd h3 e J t=>⟨trivial,s,i0,?_⟩
   have t:=t.bv;refine t.store an 2 i0 i0 10 [d] i0 i0 i0 ns λq M=>⟨trivial,?_⟩
   exact N k d q o e (M.aT 4 [2,1,0,3])
 ·refine H.make an bp fF i5 ⟨eH,0,0⟩ i0 i0 n n o5 o5 (qm _) i4 λd F o R l=>?_;have l:=l.bv;have i:=l.box 1 i0;refine⟨⟨i.cell i0,i.cell i0,trivial⟩,?_⟩;refine l.make an bp fF i5 ⟨eH,0,0⟩ i0 i0 n n o5 o5 (qm _) i4 λk E e J g=>?_;have g:=g.bv;have j:=g.box 2 i0;refine⟨⟨j.cell i0,j.cell i0,trivial⟩,s,i0,?_⟩;refine g.store an 2 i0 i0 9 [k] i0 i0 i0 ns λh3 t=>⟨trivial,s,i0,?_⟩
  refine t.store an 2 i0 i0 10 [d] i0 i0 i0 ns λq M=>⟨trivial,?_⟩
  exact N k d q e o (M.aT 4 [2,0,1,3])
theorem Zd(n nd w:Nat)(d:aw):(ge n nd w d).1.length=n/\(ge n nd w d).2.length=n:=by
 unfold ge;have:∀(l:List (Int×Nat)) (s:aL×aL),(l.foldl (λs p=>(s.1.set p.1.toNat (nP nd p.2),s.2.set p.1.toNat (aJ w))) s).1.length=ii s.1/\(l.foldl (λs p=>(s.1.set p.1.toNat (nP nd p.2),s.2.set p.1.toNat (aJ w))) s).2.length=ii s.2:=by
  intro l
  induction l with
  |nil=>intro s;exact⟨i0,i0⟩
  |cons a l ih=>intro s;rw[zE];have:=ih (s.1.set a.1.toNat (nP nd a.2),s.2.set a.1.toNat (aJ w));simpa using this
 have:=this d.zipIdx (qh n [],qh n []);simpa using this
abbrev Told(s f:eY)(p:Int×Int×Int)(v r d i h b a:Sl)(e c:List Sl)(g:List (Sl×Row)):List HP:=[SA s (gC f p v r d i h b a),HA b e,HA a c,kX g]
theorem VX(s f:eY)(p:Int×Int×Int)(v r st M lf wa L:Sl)(I mr:List Sl)(pl:List (Sl×Row))(c:Int)(nd w:Nat)(H:aa B h0 h (Told s f p v r st M lf wa L I mr pl++As))(ax:0<=c)(hw:c.toNat<ii I)(hm:c.toNat<ii mr)(X:p.2.2=w)(hd:M.len=nd)(ar:nd<=64)(O:w<=2^20){K:Unit->f8->Prop}
  (hk:∀a b h',aa B h0 h' (RA a (aJ nd)::RA b (aJ w)::(Told s f p v r st M lf wa L (I.set c.toNat a) (mr.set c.toNat b) pl++As))->K () h'):(λ(J:bm) (K3:Unit->f8->Prop)=>
 ∃l:eY,(J=dB l)/\
 ∃g:Sl,f7 h (l.add 9)=dB (xu g.ptr g.len g.cap)/\
 ∃a25:eY,(J=dB a25)/\
 ∃d:Sl,f7 h (a25.add 10)=dB (xu d.ptr d.len d.cap)/\
 ∃P:eY,(J=dB P)/\
 ∃j:Int,f7 h ((P.add 1).add 2)=dB (xt xz j)/\
 (bV xD (qG 71 (xt xz ((M.len:Nat):Int)) (xt xz ((M.len:Nat):Int))) (.one (.sc .slc)) h λn R=>
 (au.ok [((P.add 1).add 2,(xt xz j)),(a25.add 10,(xu d.ptr d.len d.cap)),(l.add 9,(xu g.ptr g.len g.cap))] R)/\
 ∃U:eY,(g.ptr=dB U/\0<=c/\c<((g.len:Nat):Int))/\
 (bV xD (qG 71 (xt xz j) (xt xz j)) (.one (.sc .slc)) R λT ab=>
 (au.ok [(a25.add 10,(xu d.ptr d.len d.cap)),(l.add 9,(xu g.ptr g.len g.cap))] ab)/\
 az xD (qf 71 (xv (dB (U.add (c.toNat*1)))) (xu n.ptr n.len n.cap)) ab λ_ F=>
 (au.ok [] F)/\
 ∃D:eY,(d.ptr=dB D/\0<=c/\c<((d.len:Nat):Int))/\
 az xD (qf 71 (xv (dB (D.add (c.toNat*1)))) (xu T.ptr T.len T.cap)) F λ_ z=>
 (au.ok [] z)/\
 K3 () z)/\(az xD (qf 71 (xv (dB (U.add (c.toNat*1)))) (xu n.ptr n.len n.cap)) R λ_ q=>
 (au.ok [] q)/\
 bV xD (qG 71 (xt xz j) (xt xz j)) (.one (.sc .slc)) q λk t=>
 (au.ok [] t)/\
 ∃u:eY,(d.ptr=dB u/\0<=c/\c<((d.len:Nat):Int))/\
 az xD (qf 71 (xv (dB (u.add (c.toNat*1)))) (xu k.ptr k.len k.cap)) t λ_ y=>
 (au.ok [] y)/\
 K3 () y))/\(bV xD (qG 71 (xt xz j) (xt xz j)) (.one (.sc .slc)) h λN ao=>
 (au.ok [(a25.add 10,(xu d.ptr d.len d.cap)),(l.add 9,(xu g.ptr g.len g.cap))] ao)/\
 bV xD (qG 71 (xt xz ((M.len:Nat):Int)) (xt xz ((M.len:Nat):Int))) (.one (.sc .slc)) ao λW Z=>
 (au.ok [(a25.add 10,(xu d.ptr d.len d.cap)),(l.add 9,(xu g.ptr g.len g.cap))] Z)/\
 ∃ah:eY,(g.ptr=dB ah/\0<=c/\c<((g.len:Nat):Int))/\
 az xD (qf 71 (xv (dB (ah.add (c.toNat*1)))) (xu W.ptr W.len W.cap)) Z λ_ am=>
 (au.ok [] am)/\
 ∃ad:eY,(d.ptr=dB ad/\0<=c/\c<((d.len:Nat):Int))/\
 az xD (qf 71 (xv (dB (ad.add (c.toNat*1)))) (xu N.ptr N.len N.cap)) am λ_ ap=>
 (au.ok [] ap)/\
 K3 () ap)) (dB s) K:=by
 have hb:=H.box 0 i0;have mk:∀{Y:f8} {Cs:List HP} (m:Nat) (hm:m<=2^20) {z1 z2:Int},z1=(m:Int)->z2=(m:Int)->aa B h0 Y Cs->∀{K:Sl->f8->Prop},(∀a h',aa B h0 h' (RA a (aJ m)::Cs)->K a h')->
   bV xD (qG 71 (xt xz z1) (xt xz z2)) (.one (.sc .slc)) Y K:=by
  intro Y Cs m hm z1 z2 e1 e2 G K hK;subst e1;subst e2;exact G.make an aD gU i5 0 i0 i0 m m i0 i0 (qm _) i4 λa h' _ _ H'=>hK a h' H'.bv
 refine⟨s,i0,wa,hb.cell i0,s,i0,L,hb.cell i0,s,i0,p.2.2,show f7 h (s.add 3)=_ from hb.cell i0,?_,?_⟩
 ·refine mk nd i4 (by rw[hd]) (by rw[hd]) H λa Y G=>?_;have o:=G.box 1 i0;refine⟨⟨show f7 Y (s.add 3)=_ from o.cell i0,o.cell i0,o.cell i0,trivial⟩,?_⟩;have E:∀{h2:f8} {Cs:List HP} {I:List Sl} (i:Nat) (a:Sl) {s':Sl},aa B h0 h2 Cs->Cs[i]?=dB (HA s' I)->c.toNat<ii I->∀{K:f8->Prop},(∀h',aa B h0 h' (Cs.set i (HA s' (I.set c.toNat a)))->K h')->∃x:eY,(s'.ptr=dB x/\0<=c/\c<((s'.len:Nat):Int))/\az xD (qf 71 (xv (dB (x.add (c.toNat*1)))) (xu a.ptr a.len a.cap)) h2 λ_ h'=>K h':=by intro h2 Cs I i a s' Q hi hl K hK;exact Q.set an i hi (λ_=>rfl) i0 c.toNat i4 hl a i0 i0 i0 λh3 S=>hK h3 S
  obtain⟨x,hx,-⟩:=E (K:=λ_=>True) 2 a G rfl hw λ_ _=>trivial;refine⟨x,hx,?_,?_⟩
  ·refine mk w O X X G λb h2 Q=>?_;have A:=Q.box 2 i0;refine⟨⟨A.cell i0,A.cell i0,trivial⟩,?_⟩;obtain⟨x',V,hr⟩:=E (K:=λF=>au.ok [] F/\∃D:eY,(L.ptr=dB D/\0<=c/\c<((L.len:Nat):Int))/\
 az xD (qf 71 (xv (dB (D.add (c.toNat*1)))) (xu b.ptr b.len b.cap)) F λ_ z=>(au.ok [] z)/\K () z) 3 a Q i0 hw λh3 S=>⟨trivial,E 4 b S i0 hm λh4 H4=>⟨trivial,hk a b h4 (H4.aT 6 [1,0,2,3,4,5])⟩⟩
   have e:x=x':=zP.inj (hx.1.symm.trans V.1);subst e;exact hr
  ·obtain⟨x',V,hr⟩:=E (K:=λq=>au.ok [] q/\bV xD (qG 71 (xt xz p.2.2) (xt xz p.2.2)) (.one (.sc .slc)) q λk t=>
 (au.ok [] t)/\
 ∃u:eY,(L.ptr=dB u/\0<=c/\c<((L.len:Nat):Int))/\
 az xD (qf 71 (xv (dB (u.add (c.toNat*1)))) (xu k.ptr k.len k.cap)) t λ_ y=>
 (au.ok [] y)/\K () y) 2 a G i0 hw λh3 S=>⟨trivial,mk w O X X S λb h4 H4=>⟨trivial,E 4 b H4 i0 hm λh5 H5=>⟨trivial,hk a b h5 (H5.aT 6 [1,0,2,3,4,5])⟩⟩⟩
   have e:x=x':=zP.inj (hx.1.symm.trans V.1);subst e;exact hr
 ·refine mk w O X X H λb Y G=>?_;have o:=G.box 1 i0;refine⟨⟨o.cell i0,o.cell i0,trivial⟩,?_⟩;refine mk nd i4 (by rw[hd]) (by rw[hd]) G λa h2 Q=>?_;have A:=Q.box 2 i0;refine⟨⟨A.cell i0,A.cell i0,trivial⟩,?_⟩;refine Q.set an 3 i0 (λ_=>rfl) i0 c.toNat i4 hw a i0 i0 i0 λh3 S=>⟨trivial,?_⟩
  refine S.set an 4 i0 (λ_=>rfl) i0 c.toNat i4 hm b i0 i0 i0 λh4 H4=>⟨trivial,hk a b h4 (H4.aT 6 [0,1,2,3,4,5])⟩
theorem QU{h:f8}{Cs:List HP}(x:Sl)(m:Row)(nd:Nat)(z:Int)(H:aa B h0 h Cs)(A:z=nd)(D:nd<=64)(E:ii m<=2^20){L L2:au}(w:L.ok h)(p:L2.ok h)(u:St B h0 Cs λh=>Rd h x 1 aD m){K:Sl->Sl->f8->Prop}
  (q:∀a b h',aZ (λb=>b<h.size) h h'->aa B h0 h' (RA a (aJ nd)::RA b m::Cs)->K a b h'):
  (bV xD (qG 71 (xt xz z) (xt xz z)) (.one (.sc .slc)) h λl d=>
 (au.ok L d)/\
 ru xD 101 #[(xu x.ptr x.len x.cap)] (.one (.sc .slc)) d λj n=>K l j n)/\(ru xD 101 #[(xu x.ptr x.len x.cap)] (.one (.sc .slc)) h λk e=>
 (au.ok L2 e)/\
 bV xD (qG 71 (xt xz z) (xt xz z)) (.one (.sc .slc)) e λf o=>K f k o):=by
 subst A;constructor
 ·refine H.Oa an aD gU i5 0 i0 i0 nd nd i0 i0 (qm _) i4 λa t _ s c=>⟨kp s w,?_⟩
  have c:=c.bv;refine(fc x m t (u.at [_] c) i4).mono ?_;rintro _ i ⟨b,rfl,r⟩;exact⟨b,i0,q a b i (up s r.ag) ((c.cj r).nC)⟩
 ·refine(fc x m h (u.at [] H) i4).mono ?_;rintro _ t ⟨b,rfl,g⟩;have c:=H.cj g;refine⟨b,i0,kp g.ag p,?_⟩;refine c.Oa an aD gU i5 0 i0 i0 nd nd i0 i0 (qm _) i4 λa i _ y v=>?_;exact q a b i (up g.ag y) v.bv
structure me (pool pl:List (Sl×Row)) (wr mr:List Sl) (W M:aL):Prop where
 sub:∀x∈pool,x∈pl
 way:ij pl id wr W
 more:ij pl id mr M
theorem me.step{pool f:List (Sl×Row)}{g e:List Sl}{W M:aL}(x:me pool f g e W M)(c:Nat)(a b:Sl)(l m:Row):me pool ((b,m)::(a,l)::f) (g.set c a) (e.set c b) (W.set c l) (M.set c m):=
 ⟨λy d=>by simp[x.sub y d],(x.way.mono λy d=>qb).set c i9,(x.more.mono λy d=>qb).set c i9⟩
theorem VY(s f:eY)(p:Int×Int×Int)(v r z o E a9 a1:Sl)(rr:List (Sl×Sl))(R:List fq)(ST:List (Int×Int))(D L:aw)(n nd w:Nat)(pool:List (Sl×Row))(H:aa B h0 h (SA s (gC f p v r z o E a9 a1)::kX pool::As))(Y:St B h0 As λh=>VW h f r z o E rr R ST D L)
  (hv:v.len=n) (hn:n<=64) (hp:p.2.2=w) (hw:w<=2^20) (br:ii D=nd) (ad:nd<=64) (hR:∀e∈R,iT n w e) (hD:∀c∈D,0<=c/\c<(n:Int)) (b4:D.Nodup) (hg:rR (R.map qK) (·∈D) ST) (cc:ii ST<=2^20) (bq:∀e∈R,ii e.1<=2^20) (a7:(⟨eH,0,0⟩,[])∈pool):
  aq xD 227 #[xv (dB s)] h λv' h'=>v'=.tuple #[]/\∃k l u A J,aa B h0 h' (Told s f p v r z o E k l u A J++As)/\me pool J u A (ST.foldl (hY R nd) (ge n nd w D)).1 (ST.foldl (hY R nd) (ge n nd w D)).2:=by
 refine uY (dB s) ?_;have hb:=H.box 0 i0;have a2:o.len=nd:=by rw[(Y.at [_,_] H).dead.len,br]
 refine⟨s,i0,o,show f7 h (s.add 7)=_ from hb.cell i0,?_⟩;refine bT (λ_ h'=>∃k l,k.len=n/\l.len=n/\aa B h0 h' (Told s f p v r z o E k l (qh n ⟨eH,0,0⟩) (qh n ⟨eH,0,0⟩) pool++As)) ?_ ?_
 ·exact SV (K:=λ_ h'=>∃k l,k.len=n/\l.len=n/\aa B h0 h' (Told s f p v r z o E k l (qh n ⟨eH,0,0⟩) (qh n ⟨eH,0,0⟩) pool++As)) s f p v r z o E a9 a1 n pool H hv hn λk l h' h1 h2 O=>⟨k,l,h1,h2,O⟩
 rintro-h1 ⟨k,l,cq,cr,H1⟩;have b9:=H1.box 0 i0;refine⟨s,i0,o,show f7 h1 (s.add 7)=_ from b9.cell i0,?_⟩;refine av (λt:Nat×List Sl×List Sl×List (Sl×Row)=>(t.1:Int)) (λt h'=>t.1<=nd/\aa B h0 h' (Told s f p v r z o E k l t.2.1 t.2.2.1 t.2.2.2++As)/\me pool t.2.2.2 t.2.1 t.2.2.1 (ge n nd w (D.take t.1)).1 (ge n nd w (D.take t.1)).2) (λt=>nd-t.1)
  (0,qh n ⟨eH,0,0⟩,qh n ⟨eH,0,0⟩,pool) i0 ⟨i4,H1,⟨λ_ h=>h,Kd pool a7 n,Kd pool a7 n⟩⟩ ?_
 rintro⟨i,u,A,J⟩ h2 ⟨hi,H2,T2⟩;dsimp only at*;have bk:=Zd n nd w (D.take i);have V:=T2.way.1;have Q:=T2.more.1;refine ac (λe=>?_) (λe=>?_)
 ·have Z:i<nd:=i4
  have X:=hD _ (qg (show i<ii D by omega));refine(Y.at [_,_,_,_] H2).dead.bD i i0 i4 _ i0 ?_;refine bT (λ_ h'=>∃a b,aa B h0 h' (RA a (aJ nd)::RA b (aJ w)::(Told s f p v r z o E k l (u.set D[i].toNat a) (A.set D[i].toNat b) J++As))) ?_ ?_
  ·exact VX (K:=λ_ h'=>∃a b,aa B h0 h' (RA a (aJ nd)::RA b (aJ w)::(Told s f p v r z o E k l (u.set D[i].toNat a) (A.set D[i].toNat b) J++As))) s f p v r z o E k l u A J D[i] nd w H2 X.1 i4 i4 hp a2 ad hw λa b h' O=>⟨a,b,O⟩
  rintro-h3 ⟨a,b,H3⟩;refine⟨s,i0,k,(H3.box 2 i0).cell i0,?_⟩;refine(H3.seq 3 i0 λ_=>rfl).lK D[i].toNat i4 i7 ?_;rw[yq];refine H3.set an 0 i0 (λ_=>rfl) i0 i i0 (by simp[aJ];omega) 1 i0 i0 i0 λh4 H4=>?_;have H5:=(H4.freeze 0 i0 λ_=>rfl).pool 5 0 i5 i0 i0;have H6:=(H5.freeze 1 i0 λ_=>rfl).pool 5 1 i5 i0 i0;refine⟨(i+1,u.set D[i].toNat a,A.set D[i].toNat b,_),jj,⟨i6,H6.aT 6 [2,3,4,5],?_⟩,i6⟩;dsimp only;have e1:D.take (i+1)=D.take i++[D[i]]:=aH _ _;have e2:ii (D.take i)=i:=i7
  rw[e1,IS,e2];exact T2.step D[i].toNat a b (nP nd i) (aJ w)
 have ap:i=ii D:=i4
 subst ap;rw[qV]at T2 bk V Q;refine⟨s,i0,z,(H2.box 0 i0).cell i0,?_⟩;have cd:=(Y.at [_,_,_,_] H2).steps.len;refine av (λt:Nat×List Sl×List Sl×List (Sl×Row)=>(t.1:Int)) (λt h'=>t.1<=ii ST/\aa B h0 h' (Told s f p v r z o E k l t.2.1 t.2.2.1 t.2.2.2++As)/\me pool t.2.2.2 t.2.1 t.2.2.1 ((ST.take t.1).foldl (hY R nd) (ge n nd w D)).1 ((ST.take t.1).foldl (hY R nd) (ge n nd w D)).2) (λt=>ii ST-t.1)
  (0,u,A,J) i0 ⟨i9,H2,T2⟩ ?_
 clear V Q T2 H2 hi e;rintro⟨i,u,A,J⟩ h3 ⟨hi,H3,T3⟩;dsimp only at*;obtain⟨dk,-⟩:=KQ (nd:=nd) (w:=w) hD b4 D.length (qm _);rw[qV]at dk;have ax:=MN (l1:=ST.take i) (l2:=ST.drop i) (by rw[qF];exact hg);obtain⟨a4,-⟩:=HB hR ax.1 dk;obtain⟨W,hW⟩:∃W,W=((ST.take i).foldl (hY R nd) (ge n nd w D)).1:=⟨_,rfl⟩
 obtain⟨M,hM⟩:∃M,M=((ST.take i).foldl (hY R nd) (ge n nd w D)).2:=⟨_,rfl⟩
 have am:(ST.take i).foldl (hY R nd) (ge n nd w D)=(W,M):=by rw[hW,hM]
 have I:XI n nd w (λc=>c∈D∨∃j,(j,c)∈ST.take i) W M:=by rw[hW,hM];exact a4
 rw[<-hW,<-hM]at T3;clear a4 hW hM;have c0:=I.wl;have cl:=I.ml;have V:=T3.way.1;have Q:=T3.more.1;refine ac (λe=>?_) (λe=>?_)
 ·have Z:i<ii ST:=i4
  have ah:=ax.2;rw[qQ Z]at ah;obtain⟨row,bx,ao⟩:∃row bx,ST[i]=(row,bx):=⟨_,_,rfl⟩
  rw[ao]at ah;obtain⟨g1,g2,g3,g4,-⟩:=ah;have m:row.toNat<ii R:=by have:=g1.2;rw[qx]at this;omega
  obtain⟨d,S⟩:∃d,d=R[row.toNat]:=⟨_,rfl⟩
  have er:R.getD row.toNat ([],[])=d:=by rw[qe,qd m,S];rfl
  have b6:(R.map qK).getD row.toNat []=d.1:=by rw[qe,qR,qd m,S];rfl
  rw[b6]at g3 g4;have N:=hR d (S▸qg m);have cn:=bq d (S▸qg m);have cs:=N.cZ bx g3;have G3:=Y.at [_,_,_,_] H3;have hF:=G3.rest.2.1;refine G3.steps.dZ (g:=fL) i i0 Z ST[i] i0 ?_;rw[ao];refine H3.DU an i0 λa50 h4 P4 H4=>?_;have H4:=H4.bv;refine H4.storeAll an 0 i0 i0 (fL (row,bx)) i0 i0 i0 i0 λh5 H5=>?_;have bl:row.toNat<ii rr:=by rw[hF];exact m
  obtain⟨y,hy⟩:∃y,y=rr[row.toNat]:=⟨_,rfl⟩
  have G:∀{h'},nD ju 2 qv h' r rr R->ju.p h' (λb=>b<h'.size) y d:=λhh=>by rw[hy,S];exact Fix.row hh m
  refine bT (λa' h'=>aa B h0 h' (al a' 289 (qv y)::al a50 357 (fL (row,bx))::(Told s f p v r z o E k l u A J++As))) ?_ ?_
  ·have a0:=H5.box 1 i0;have G5:=Y.at [_,_,_,_,_] H5;refine⟨s,i0,r,a0.cell i0,row,(H5.box 0 i0).cell0 i0,?_⟩;obtain⟨bs,ha,x,X,rfl⟩:=G5.rest.1.dZ (g:=qv) (i:=row) row.toNat i4 bl y (by rw[hy]) (K:=λx=>x=y) rfl;refine⟨bs,ha,_,X,?_⟩;refine H5.DU an i0 λU h6 P6 H6=>⟨⟨ow X.1 P6,ow X.2.1 P6,ow ((H5.box 0 i0).cell0 i0) P6,ow (a0.cell i0) P6,trivial⟩,?_⟩
   have H6:=H6.bv;refine H6.storeAll an 0 i0 i0 (qv x) i0 i0 i0 i0 λh7 H7=>⟨trivial,H7⟩
  intro U h7 H7;refine bT (λt h'=>aa B h0 h' (RA t.1 (aJ nd)::RA t.2 d.2::al U 289 (qv y)::al a50 357 (fL (row,bx))::(Told s f p v r z o E k l u A J++As))) ?_ ?_
  ·have a5:=H7.box 0 i0;refine⟨y.2,a5.cell i0,?_⟩;exact QU (L:=[(U.add 1,xu y.2.ptr y.2.len y.2.cap)]) (K:=λa b h'=>au.ok [] h'/\aa B h0 h' (RA a (aJ nd)::RA b d.2::al U 289 (qv y)::al a50 357 (fL (row,bx))::(Told s f p v r z o E k l u A J++As))) y.2 d.2 nd _ H7 (by rw[a2]) ad (by rw[N.len];exact hw) ⟨a5.cell i0,trivial⟩ (L2:=[]) trivial (St.mk' λh' O=>(G (Y.at [_,_,_,_,_,_] O).rest).2) λa b h' _ O=>⟨trivial,O⟩
  rintro⟨P,q⟩ h8 H8;dsimp only at H8;refine⟨y.1,(H8.box 2 i0).cell0 i0,?_⟩;have cf:=(G (Y.at [_,_,_,_,_,_,_,_] H8).rest).1.len;let F:Nat->aw:=λj=>(d.1.take j).filter λc=>!decide (c=bx);refine av (λj:Nat=>(j:Int)) (λj h'=>j<=ii d.1/\aa B h0 h' (RA P (cV W (aJ nd) (F j))::RA q (cV M d.2 (F j))::al U 289 (qv y)::al a50 357 (fL (row,bx))::(Told s f p v r z o E k l u A J++As))) (λj=>ii d.1-j) 0 i0 ⟨i4,by simpa[F,cV]using H8⟩ ?_;rintro j h9 ⟨hj,H9⟩;have told:∀c∈F j,ii (aB W c.toNat)=nd/\(aB M c.toNat).length=w:=λc X=>by
   have bd:=qH.1 X;have hm:=zD bd.1;exact I.rw_ c (g4 c hm (by simpa using bd.2)) (N.cZ c hm).1 (N.cZ c hm).2
  have a8:ii (cV W (aJ nd) (F j))=nd:=jQ k7 λc X=>(told c X).1;have bb:ii (cV M d.2 (F j))=w:=jQ N.len λc X=>(told c X).2;refine ac (λe2=>?_) (λe2=>?_)
  ·have T:j<ii d.1:=i4
   have ar:=N.cZ _ (qg T);refine(G (Y.at [_,_,_,_,_,_,_,_] H9).rest).1.bD j i0 T _ i0 ?_;refine⟨bx,(H9.box 3 i0).cell i0,?_⟩;refine ci (λa3=>?_) (λb7=>?_)
   ·have tc:=I.rw_ d.1[j] (g4 _ (qg T) a3) ar.1 ar.2;refine(Ft s f 1 d.1[j] P q k l _ _ u A W M H9 (St.mk' λh' O=>?_) ar.1 i4 i4 (by rw[tc.1,a8]) (by rw[tc.2,bb]) i4 i4).mono ?_
    ·exact Bz.of (O.box 2 i0) (Y.at [_,_,_,_,_,_] O).field (O.CM 3 5 i0 i0 T3.way) (O.CM 4 5 i0 i0 T3.more)
    rintro _ b2 ⟨rfl,ab⟩;have e3:F (j+1)=F j++[d.1[j]]:=by simp only[F];rw[jC _ _ T];simp[a3]
    exact⟨(),i0,j+1,js,⟨i4,by rw[e3,rU,rU];exact ab⟩,i4⟩
   ·have e3:F (j+1)=F j:=by simp only[F];rw[jC _ _ T];simp[b7]
    exact⟨j+1,js,⟨i4,by rw[e3];exact H9⟩,i4⟩
  ·have b0:j=ii d.1:=i4
   subst b0;have a6:=H9.box 3 i0;have ay:=H9.box 4 i0;refine⟨s,i0,k,ay.cell i0,bx,a6.cell i0,s,i0,l,ay.cell i0,bx,a6.cell i0,?_⟩;refine H9.set an 5 i0 (λ_=>rfl) i0 bx.toNat i4 i4 P i0 i0 i0 λb2 ab=>⟨⟨(ab.box 3 i0).cell i0,trivial⟩,?_⟩
   refine ab.set an 6 i0 (λ_=>rfl) i0 bx.toNat i4 i4 q i0 i0 i0 λcp b5=>⟨trivial,?_⟩
   have b3:=(b5.freeze 0 i0 λ_=>rfl).pool 7 0 i5 i0 i0;have b1:=(b3.freeze 1 i0 λ_=>rfl).pool 7 1 i5 i0 i0;refine⟨(i+1,u.set bx.toNat P,A.set bx.toNat q,_),jj,⟨i6,b1.aT 8 [4,5,6,7],?_⟩,i6⟩;dsimp only;rw[aH _ _ Z,zQ,am,ao];have e3:[(row,bx)].foldl (hY R nd) (W,M)=(W.set bx.toNat (cV W (aJ nd) (F d.1.length)),M.set bx.toNat (cV M d.2 (F d.1.length))):=by simp only[zE,List.foldl_nil,hY,er,F,qV]
   rw[e3];exact T3.step bx.toNat P q _ _
 ·have ap:i=ii ST:=i4
  subst ap;rw[qV]at am;exact⟨i0,k,l,u,A,J,H3,by rw[am];exact T3⟩
def kF(nd:Nat)(known:List Bool)(vals:aL)(s:aL×aL)(i:Nat):aL×aL:=
 (s.1.mapIdx λc r=>if c<i/\known.getD c eS=eR then aJ nd else r,s.2.mapIdx λc r=>if c<i/\known.getD c eS=eR then aB vals c else r)
theorem VZ(nd:Nat)(known:List Bool)(vals:aL)(s:aL×aL):kF nd known vals s 0=s:=by unfold kF;refine y6 ?_ ?_<;>refine wB i9 λi a b=>?_<;>simp
theorem Ze(nd:Nat)(known:List Bool)(vals:aL)(s:aL×aL){n:Nat}(a:ii s.1=n)(b:ii s.2=n):kF nd known vals s n=iD nd known vals s:=by unfold kF iD;refine y6 ?_ ?_<;>refine wB i9 λi a b=>?_<;>simp at a<;>simp[show i<n by omega]
theorem Zf(nd:Nat)(known:List Bool)(vals:aL)(s:aL×aL){i:Nat}(d:known.getD i eS=eR):kF nd known vals s (i+1)=((kF nd known vals s i).1.set i (aJ nd),(kF nd known vals s i).2.set i (aB vals i)):=by
 unfold kF;refine y6 ?_ ?_<;>refine wB i9 λj e f=>?_<;>simp only[List.getElem_mapIdx,List.getElem_set]<;>by_cases c:i=j
 ·subst c;rw[f9 ⟨i4,d⟩,f9 rfl]
 ·rw[g0 c];congr 1;simp only[eq_iff_iff];constructor<;>rintro⟨a,b⟩<;>exact⟨i4,b⟩
 ·subst c;rw[f9 ⟨i4,d⟩,f9 rfl]
 ·rw[g0 c];congr 1;simp only[eq_iff_iff];constructor<;>rintro⟨a,b⟩<;>exact⟨i4,b⟩
theorem abv(nd:Nat)(known:List Bool)(vals:aL)(s:aL×aL){i:Nat}(e:known.getD i eS=eS):kF nd known vals s (i+1)=kF nd known vals s i:=by
 have c:∀j,(j<i+1/\known.getD j eS=eR)↔(j<i/\known.getD j eS=eR):=λj=>by
  constructor
  ·rintro⟨a,b⟩;by_cases d:j=i
   ·subst d;rw[e]at b;cases b
   ·exact⟨i4,b⟩
  ·rintro⟨a,b⟩;exact⟨i4,b⟩
 unfold kF;simp only[c]
theorem Zg(s f:eY)(p:Int×Int×Int)(v r L y K J I:Sl)(j d g:List Sl)(l:List (Sl×Row))(known:List Bool)(V W M:aL)(n nd:Nat)(H:aa B h0 h (Told s f p v r L y K J I d g l++HA v j::As))(hn:n<=64)(w:y.len=nd)(ad:nd<=64)(hT:me l l d g W M)(R:ij l id j V)(Z:ii V=n)(A:ii W=n)(E:ii M=n)
  (Y:∀(c:Nat) (hc:c<ii j),j[c].ptr.isNone=!(known.getD c eS)):
  aq xD 228 #[xv (dB s)] h λv' h'=>v'=.tuple #[]/\∃d g b,aa B h0 h' (Told s f p v r L y K J I d g b++HA v j::As)/\me l b d g (iD nd known V (W,M)).1 (iD nd known V (W,M)).2:=by
 refine Aw (dB s) ?_;have S:=R.1;have N:v.len=n:=by rw[(H.own 4 i0).len];omega
 refine⟨s,i0,v,(H.box 0 i0).cell i0,?_⟩;refine av (λt:Nat×List Sl×List Sl×List (Sl×Row)=>(t.1:Int)) (λt h'=>t.1<=n/\aa B h0 h' (Told s f p v r L y K J I t.2.1 t.2.2.1 t.2.2.2++HA v j::As)/\me l t.2.2.2 t.2.1 t.2.2.1 (kF nd known V (W,M) t.1).1 (kF nd known V (W,M) t.1).2) (λt=>n-t.1) (0,d,g,l) i0 ⟨i4,H,by rw[VZ];exact hT⟩ ?_;rintro⟨i,d,g,b⟩ h1 ⟨hi,u,k⟩;dsimp only at*;have ah:(kF nd known V (W,M) i).1.length=n:=by simp[kF,A]
 have ab:(kF nd known V (W,M) i).2.length=n:=by simp[kF,E]
 have P:=k.way.1;have Q:=k.more.1;refine ac (λe=>?_) (λe=>?_)
 ·have X:i<n:=i4
  refine(u.seq 4 i0 λ_=>rfl).lK i i0 i4 ?_;have D:=Y i i4;refine bi (λz=>?_) (λz=>?_)
  ·have m:known.getD i eS=eR:=by rw[D]at z;simpa using z
   have o:=u.box 0 i0;refine⟨s,i0,J,o.cell i0,s,i0,I,o.cell i0,s,i0,y,show f7 h1 (s.add 7)=_ from o.cell i0,?_⟩;refine u.Oa an aD gU i5 0 i0 i0 nd nd (by rw[w]) (by rw[w]) (qm _) i4 λa h2 _ P2 G=>?_;have G:=G.bv;have q:=G.box 1 i0;refine⟨⟨show f7 h2 (s.add 7)=_ from q.cell i0,q.cell i0,q.cell i0,trivial⟩,?_⟩;refine G.set an 2 i0 (λ_=>rfl) i0 i i0 i4 a i0 i0 i0 λh3 U=>⟨trivial,?_⟩
   refine U.set an 3 i0 (λ_=>rfl) i0 i i0 i4 (j[i]'(by omega)) i0 i0 i0 λh4 H4=>⟨trivial,?_⟩
   have T:=(H4.freeze 0 i0 λ_=>rfl).pool 4 0 i5 i0 i0;refine⟨(i+1,d.set i a,g.set i (j[i]'(by omega)),_),jj,⟨i6,T.aT 5 [1,2,3,4],?_⟩,i6⟩;dsimp only;rw[Zf nd known V (W,M) m];have hm:((j[i]'(by omega)),aB V i)∈l:=by have:=R.get (i:=i) i4;rw[mu i4];exact this
   exact⟨λx F=>qD _ (k.sub x F),(k.way.mono λx F=>qD _ F).set i k7,(k.more.mono λx F=>qD _ F).set i (qD _ (k.sub _ hm))⟩
  ·have m:known.getD i eS=eS:=by rw[D]at z;simpa using z
   exact⟨(i+1,d,g,b),jj,⟨i6,u,by dsimp only;rw[abv nd known V (W,M) m];exact k⟩,i6⟩
 ·have O:i=n:=i4
  subst O;exact⟨i0,d,g,b,u,by rw[<-Ze nd known V (W,M) A E];exact k⟩
def nw(nd:Nat)(known:List Bool)(vals W M D:aL)(i:Nat):aL:=vals.mapIdx λc r=>if c<i/\known.getD c eS=eS then gT D (aB W c) (aB M c) nd else r
theorem Zh(nd:Nat)(known:List Bool)(vals W M D:aL):nw nd known vals W M D 0=vals:=by unfold nw;refine wB i9 λi a b=>?_;simp
theorem abw(nd:Nat)(known:List Bool)(vals W M D:aL){n:Nat}(a:ii vals=n):nw nd known vals W M D n=ui nd known vals W M D:=by
 unfold nw ui;refine wB i9 λi a b=>?_;simp at a;simp only[List.getElem_mapIdx];cases hk:known.getD i eS
 ·rw[f9 ⟨i4,i0⟩,g0 i9]
 ·rw[g0 i9,f9 rfl]
theorem abx(nd:Nat)(known:List Bool)(vals W M D:aL){i:Nat}(e:known.getD i eS=eR):nw nd known vals W M D (i+1)=nw nd known vals W M D i:=by
 have c:∀j,(j<i+1/\known.getD j eS=eS)↔(j<i/\known.getD j eS=eS):=λj=>by
  constructor
  ·rintro⟨a,b⟩;by_cases d:j=i
   ·subst d;rw[e]at b;cases b
   ·exact⟨i4,b⟩
  ·rintro⟨a,b⟩;exact⟨i4,b⟩
 unfold nw;simp only[c]
theorem adZ(nd:Nat)(known:List Bool)(vals W M D:aL){i:Nat}(d:known.getD i eS=eS):nw nd known vals W M D (i+1)=(nw nd known vals W M D i).set i (gT D (aB W i) (aB M i) nd):=by
 unfold nw;refine wB i9 λj e f=>?_;simp only[List.getElem_mapIdx,List.getElem_set];by_cases c:i=j
 ·subst c;rw[f9 ⟨i4,d⟩,f9 rfl]
 ·rw[g0 c];congr 1;simp only[eq_iff_iff];constructor<;>rintro⟨a,b⟩<;>exact⟨i4,b⟩
theorem Zi(s f:eY)(p:Int×Int×Int)(v r Y X U S I dead:Sl)(g A E dr:List Sl)(z:List (Sl×Row))(known:List Bool)(V W M D:aL)(n nd w:Nat)(H:aa B h0 h (Told s f p v r Y X U S I A E z++HA v g::As))(hS:St B h0 As λh=>fH h f/\iu h (λb=>b<h.size) dead 1 aD D dr)(hn:n<=64)(hw:w<=2^20)(a7:nd<=64)(T:me z z A E W M)(hV:ij z id g V)(O:ii V=n)(bd:ii W=n)(a6:ii M=n)
  (R:∀c,c<n->ii (aB W c)=nd/\(aB M c).length=w) (bb:ii D=nd) (F:aY w D) (hk:∀(c:Nat) (l:c<ii g),g[c].ptr.isNone=!(known.getD c eS)):
  aq xD 231 #[xv (dB s),dead] h λv' h'=>v'=.tuple #[]/\∃L a,aa B h0 h' (Told s f p v r Y X U S I A E a++HA v L::As)/\ij a id L (ui nd known V W M D):=by
 refine Bd (dB s) dead ?_;have a4:=hV.1;have a0:v.len=n:=by rw[(H.own 4 i0).len];omega
 have a3:=T.way.1;have a1:=T.more.1;refine⟨s,i0,v,(H.box 0 i0).cell i0,?_⟩;refine av (λt:Nat×List Sl×List (Sl×Row)=>(t.1:Int)) (λt h'=>t.1<=n/\aa B h0 h' (Told s f p v r Y X U S I A E t.2.2++HA v t.2.1::As)/\ij t.2.2 id t.2.1 (nw nd known V W M D t.1)/\(∀x∈z,x∈t.2.2)/\∀(c:Nat) (l:c<ii t.2.1),t.1<=c->t.2.1[c].ptr.isNone=!(known.getD c eS)) (λt=>n-t.1) (0,g,z) i0 ⟨i4,H,by rw[Zh];exact hV,λ_ h=>h,λc l _=>hk c l⟩ ?_;rintro⟨i,g,a⟩ h1 ⟨hi,u,Z,d,o⟩;dsimp only at*;have a9:ii (nw nd known V W M D i)=n:=by simp[nw,O]
 have a2:=Z.1;refine ac (λe=>?_) (λe=>?_)
 ·have ar:i<n:=i4
  have Q:=u.box 0 i0;refine⟨s,i0,v,Q.cell i0,?_⟩;refine(u.seq 4 i0 λ_=>rfl).lK i i0 i4 ?_;have K:=o i i4 (qm _);refine bi (λJ=>?_) (λJ=>?_)
  ·have q:known.getD i eS=eR:=by rw[K]at J;simpa using J
   exact⟨(i+1,g,a),jj,⟨i6,u,by dsimp only;rw[abx nd known V W M D q];exact Z,d,λc l h=>o c l (by dsimp only at h;omega)⟩,i6⟩
  have q:known.getD i eS=eS:=by rw[K]at J;simpa using J
  have ao:=R i ar;have ab:((E[i]'(by omega)),aB M i)∈a:=by have:=(T.more.mono d).get (i:=i) i4;rw[mu i4];exact this
  have G:((A[i]'(by omega)),aB W i)∈a:=by have:=(T.way.mono d).get (i:=i) i4;rw[mu i4];exact this
  refine⟨s,i0,I,Q.cell i0,?_⟩;refine(u.seq 2 i0 λ_=>rfl).lK i i0 i4 ?_;refine(fc _ (aB M i) h1 (u.JZ 3 i0 ab) i4).mono ?_;rintro _ h2 ⟨b,rfl,R2⟩;have H2:=u.cj R2;have ay:=H2.box 1 i0;refine⟨b,i0,s,i0,S,ay.cell i0,?_⟩;refine(H2.seq 2 i0 λ_=>rfl).lK i i0 i4 ?_;have ah:=(H2.JZ 4 i0 G).len;refine av (λj:Nat=>(j:Int)) (λj h'=>j<=nd/\aa B h0 h' (RA b (gT D (aB W i) (aB M i) j)::(Told s f p v r Y X U S I A E a++HA v g::As))) (λj=>nd-j) 0 i0 ⟨i4,H2⟩ ?_;rintro j h3 ⟨hj,N⟩;refine ac (λe3=>?_) (λe3=>?_)
  ·have a8:j<nd:=i4
   have y:j<ii (aB W i):=i4
   refine(N.JZ 4 i0 G).bD j i0 y _ i0 ?_;obtain⟨S1,S2⟩:=hS.at [_,_,_,_,_,_] N;have a5:=S2.len;refine S2.top.lK j i0 i4 ?_;have ax:ii (D[j]'(by omega))=w:=F _ (qg _);have P:(aB W i)[j]'y=aN (aB W i) j:=by rw[aN,qe,qd y];rfl
   have ad:ii (gT D (aB W i) (aB M i) j)=w:=lP _ ao.2 λk hk=>cA F;rw[P];refine Fs s f (aN (aB W i) j) (dr[j]'(by omega)) b (D[j]'(by omega)) _ N (St.mk' λh' H'=>?_) (by rw[ax,ad]) i4 λh4 H4=>?_
   ·obtain⟨q1,q2⟩:=hS.at [_,_,_,_,_] H';exact⟨(H'.box 0 i0).cell0 i0,q1,q2.row _ _ _ (qd _) (qd _)⟩
   ·refine⟨j+1,js,⟨i4,?_⟩,i4⟩;rw[gT,mu (m:=D) (i:=j) i4];exact H4
  ·have am:j=nd:=i4
   subst am;refine⟨s,i0,v,(N.box 1 i0).cell i0,?_⟩;refine N.set an 5 i0 (λ_=>rfl) i0 i i0 i4 b i0 i0 i0 λh4 H4=>?_;have H5:=(H4.freeze 0 i0 λ_=>rfl).pool 4 0 i5 i0 i0;refine⟨(i+1,g.set i b,_),jj,⟨i6,H5.aT 6 [1,2,3,4,5],?_,λx hx=>qD _ (d x hx),λc l h=>?_⟩,i6⟩
   ·dsimp only;rw[adZ j known V W M D q];exact(Z.mono λx hx=>qD _ hx).set i i9
   ·dsimp only at l h⊢;rw[List.getElem_set_ne i4];exact o c (by simpa using l) i4
 ·have ap:i=n:=i4
  subst ap;exact⟨i0,g,a,u,by rw[<-abw nd known V W M D O];exact Z⟩
abbrev MA(s:Sl)(m:aL):HP:=fN 71 s 1 aD m
abbrev QV:iZ Sl Row:=aet (cF 1 aD) λr _=>r.len<=r.cap
abbrev CA(s:Sl)(m:aL):HP:=ce 71 s 1 bp QV m
theorem aa.Zj{e:Nat}{s:Sl}{l:Row}(H:aa B h0 h As)(i:Nat)(c:As[i]?=dB (ae e s 1 aD l)):aa B h0 h (As.set i (EA QV s l)):=
 H.gb i c λ_ ⟨a,b⟩=>⟨a.seq (λ_=>rfl) b,a.cap⟩
theorem Wa(s f:eY)(p:Int×Int×Int)(v r T J Q N I:Sl)(o F:List Sl)(O:List (Sl×Row))(rr:List (Sl×Sl))(R:List fq)(ST:List (Int×Int))(D L:aw)(W M:aL)(n nd w:Nat)(H:aa B h0 h (Told s f p v r T J Q N I o F O++As))(hS:St B h0 As λh=>VW h f r T J Q rr R ST D L)
  (hn:n=p.1.toNat+p.2.1.toNat) (hp:p.2.2=w) (hw:w<=2^20) (ax:bM p=eR) (bq:ii D=nd) (a7:nd<=64) (hR:∀e∈R,iT n w e) (bl:∀e∈R,ii e.1<=2^20) (hL:∀i∈L,0<=i/\i<(ii R:Int)) (b9:ii L<=2^20) (hT:me O O o F W M) (cf:ii W=n) (b5:ii M=n)
  (G:∀c,c<n->ii (aB W c)=nd/\(aB M c).length=w):
  aq xD 229 #[xv (dB s)] h λv' h'=>∃a b:Sl,v'=.tuple #[a,b]/\aa B h0 h' (MA a (dI n nd R W L (bC p.1.toNat p.2.1.toNat))::CA b (fE n w R M L (bC p.1.toNat p.2.1.toNat))::(Told s f p v r T J Q N I o F O++As)):=by
 refine uZ (dB s) ?_;have hb:=H.box 0 i0;have Z:J.len=nd:=by rw[(hS.at [_,_,_,_] H).dead.len,bq]
 have cn:=(cm p).1 ax;have b3:=hT.way.1;have b2:=hT.more.1;refine⟨s,i0,J,show f7 h (s.add 7)=_ from hb.cell i0,s,i0,Q,show f7 h (s.add 8)=_ from hb.cell i0,?_⟩;have cd:=(hS.at [_,_,_,_] H).left.len;have ar:∀{h':f8} {Cs:List HP},aa B h0 h' (Cs++(Told s f p v r T J Q N I o F O++As))->aa B h0 h' (Told s f p v r T J Q N I o F O++As):=λ{h' Cs} U=>U.take Cs.length λi A hi=>by
  rw[qj i4,Nat.add_sub_cancel_left];exact hi
 have SR:∀{h':f8},aa B h0 h' (Told s f p v r T J Q N I o F O++As)->Bz h' s f N I o F W M:=λU=>Bz.of (U.box 0 i0) (hS.at [_,_,_,_] U).field (U.CM 1 3 i0 i0 hT.way) (U.CM 2 3 i0 i0 hT.more);let rA:Int->Row:=λi=>cV W (aJ nd) (R.getD i.toNat ([],[])).1;let rB:Int->Row:=λi=>cV M (R.getD i.toNat ([],[])).2 (R.getD i.toNat ([],[])).1;have H0:aa B h0 h (MA ⟨eH,0,0⟩ []::CA ⟨eH,0,0⟩ []::(Told s f p v r T J Q N I o F O++As)):=((H.DS 71 1 bp QV).bv.ID 71 1 aD).bv;refine av (λt:Nat×Sl×Sl=>(t.2.1,t.2.2,(t.1:Int))) (λt h'=>t.1<=ii L/\aa B h0 h' (MA t.2.1 ((L.take t.1).map rA)::CA t.2.2 ((L.take t.1).map rB)::(Told s f p v r T J Q N I o F O++As))) (λt=>ii L-t.1) (0,⟨eH,0,0⟩,⟨eH,0,0⟩) i0 ⟨i9,H0⟩ ?_;rintro⟨i,a,b⟩ h1 ⟨hi,H1⟩;dsimp only at*;refine ac (λe=>?_) (λe=>?_)
 ·have u:i<ii L:=i4
  have G1:=hS.at [_,_,_,_,_,_] H1;refine G1.left.bD i i0 u _ i0 ?_;have hx:=hL _ (qg u);generalize bd:L[i]=x at hx⊢;have E:x.toNat<ii R:=i4
  obtain⟨l,am⟩:∃l,l=R[x.toNat]:=⟨_,rfl⟩
  have er:R.getD x.toNat ([],[])=l:=by rw[qe,qd E,am];rfl
  have ao:=hR l (am▸qg E);have b7:=bl l (am▸qg E);have hF:=G1.rest.2.1;have a6:x.toNat<ii rr:=by rw[hF];exact E
  obtain⟨y,hy⟩:∃y,y=rr[x.toNat]:=⟨_,rfl⟩
  have S:∀{h'},nD ju 2 qv h' r rr R->ju.p h' (λb=>b<h'.size) y l:=λhh=>by rw[hy,am];exact Fix.row hh E
  refine bT (λt h'=>aa B h0 h' (RA t.1 (aJ nd)::RA t.2 l.2::MA a ((L.take i).map rA)::CA b ((L.take i).map rB)::(Told s f p v r T J Q N I o F O++As))) ?_ ?_
  ·have ap:=H1.box 2 i0;refine⟨s,i0,r,ap.cell i0,?_⟩;obtain⟨a8,ha,z,hc,rfl⟩:=G1.rest.1.dZ (g:=qv) (i:=x) x.toNat i4 a6 y (by rw[hy]) (K:=λz=>z=y) rfl;refine⟨a8,ha,z.2,hc.2.1,?_⟩;have a5:au.ok [(s.add 5,xu r.ptr r.len r.cap)] h1:=⟨ap.cell i0,trivial⟩
   exact QU (L:=[((a8.add (x.toNat*2)).add 1,xu z.2.ptr z.2.len z.2.cap),(s.add 5,xu r.ptr r.len r.cap)]) (L2:=[(s.add 5,xu r.ptr r.len r.cap)]) (K:=λa' b' h'=>au.ok [(s.add 5,xu r.ptr r.len r.cap)] h'/\aa B h0 h' (RA a' (aJ nd)::RA b' l.2::MA a ((L.take i).map rA)::CA b ((L.take i).map rB)::(Told s f p v r T J Q N I o F O++As)))
    z.2 l.2 nd _ H1 sR a7 (by rw[ao.len];exact hw) ⟨hc.2.1,a5⟩ a5 (St.mk' λh' U=>(S (hS.at [_,_,_,_,_,_] U).rest).2) λa b h' P U=>⟨kp P a5,U⟩
  rintro⟨X,m⟩ h2 H2;dsimp only at H2;have G2:=hS.at [_,_,_,_,_,_,_,_] H2;refine⟨s,i0,r,(H2.box 4 i0).cell i0,?_⟩;obtain⟨br,ha,z,hc,rfl⟩:=G2.rest.1.dZ (g:=qv) (i:=x) x.toNat i4 a6 y (by rw[hy]) (K:=λz=>z=y) rfl;refine⟨br,ha,z.1,hc.1,?_⟩;have bk:=(S G2.rest).1.len;refine av (λj:Nat=>(j:Int)) (λj h'=>j<=ii l.1/\aa B h0 h' (RA X (cV W (aJ nd) (l.1.take j))::RA m (cV M l.2 (l.1.take j))::MA a ((L.take i).map rA)::CA b ((L.take i).map rB)::(Told s f p v r T J Q N I o F O++As))) (λj=>ii l.1-j) 0 i0 ⟨i4,by simpa[cV]using H2⟩ ?_;rintro j h3 ⟨hj,H3⟩;have told:∀c∈l.1.take j,ii (aB W c.toNat)=nd/\(aB M c.toNat).length=w:=λc hc=>by
   have cl:=ao.cZ c (zD hc);exact G c.toNat i4
  have ab:ii (cV W (aJ nd) (l.1.take j))=nd:=jQ k7 λc hc=>(told c hc).1;have ad:ii (cV M l.2 (l.1.take j))=w:=jQ ao.len λc hc=>(told c hc).2;refine ac (λe2=>?_) (λe2=>?_)
  ·have Y:j<ii l.1:=i4
   have b0:=ao.cZ _ (qg Y);refine(S (hS.at [_,_,_,_,_,_,_,_] H3).rest).1.bD j i0 Y _ i0 ?_;have tc:=G l.1[j].toNat i4;refine(Ft s f 1 l.1[j] X m N I _ _ o F W M H3 (St.mk' λh' U=>SR (ar (Cs:=[_,_]) U)) b0.1 i4 i4 (by rw[tc.1,ab]) (by rw[tc.2,ad]) i4 i4).mono ?_;rintro _ h4 ⟨rfl,V⟩;exact⟨(),i0,j+1,js,⟨i4,by rw[aH _ _ Y,rU,rU];exact V⟩,i4⟩
  ·have a2:j=ii l.1:=i4
   subst a2;rw[qV]at H3;have V:=aa.Zj (H3.freeze 0 i0 λ_=>rfl) 1 i0;refine V.tk an 2 0 i5 i0 i0 fF i7 λa' h5 H5=>?_;refine H5.rv an 3 1 i5 i0 i0 fF i0 i5 (λ_=>rfl) jK i0 i5 i7 λb' h6 H6=>?_;refine⟨(i+1,a',b'),jj,⟨i6,?_⟩,i6⟩;dsimp only;rw[aH _ _ u,qS,qS,bd];have e3:[x].map rA=[cV W (aJ nd) l.1]:=by simp only[zK,vR,rA,er]
   have e4:[x].map rB=[cV M l.2 l.1]:=by simp only[zK,vR,rB,er]
   rw[e3,e4];exact H6.aT 8 [2,3,4,5,6,7]
 have a1:i=ii L:=i4
 subst a1;rw[qV]at H1;have ap:=H1.box 2 i0;refine⟨s,i0,p,ap.cells 1 _ i0,(sl p h1).mono ?_⟩;rintro _ h2 ⟨q,rfl,R2⟩;rw[ax,f9 rfl]at R2;obtain⟨d,a4⟩:∃d,d=bC p.1.toNat p.2.1.toNat:=⟨_,rfl⟩
 have b4:ii d=p.2.1.toNat:=by rw[a4];simp[bC]
 have a9:∀x∈d,ii x=n:=λx hx=>by rw[hn];exact IP _ _ x (a4▸hx)
 rw[<-a4]at R2⊢;have H2:=(H1.cj R2).NZ 0 i0;obtain⟨qr,H2⟩:=H2.KG 0 rfl λ_=>rfl;have b6:=(H2.fA 0 i0).1.len;have cc:=(H2.fA 0 i0).2.1;refine⟨q,i0,?_⟩;let a0:Row->Row:=λx=>gT W x (aJ nd) n;let a3:Row->Row:=λx=>gT M x (aJ w) n;refine av (λt:Nat×Sl×Sl=>(t.2.1,t.2.2,(t.1:Int))) (λt h'=>t.1<=ii d/\aa B h0 h' (cO (cF 1 aD) 1 bp q qr d::MA t.2.1 (L.map rA++(d.take t.1).map a0)::CA t.2.2 (L.map rB++(d.take t.1).map a3)::(Told s f p v r T J Q N I o F O++As))) (λt=>ii d-t.1) (0,a,b) i0 ⟨i9,by simpa using H2⟩ ?_;rintro⟨i,a,b⟩ h3 ⟨hi,H3⟩;dsimp only at*;refine ac (λe=>?_) (λe=>?_)
 ·have u:i<ii d:=i4
  have bs:=a9 _ (qg u);have F3:=H3.fA 0 i0;refine F3.1.lK i i0 i4 ?_;have bk:(qr[i]'(by omega)).len=n:=by rw[(Fix.row F3 u).len,bs]
  refine bT (λt h'=>aa B h0 h' (RA t.1 (aJ nd)::RA t.2 (aJ w)::cO (cF 1 aD) 1 bp q qr d::MA a (L.map rA++(d.take i).map a0)::CA b (L.map rB++(d.take i).map a3)::(Told s f p v r T J Q N I o F O++As))) ?_ ?_
  ·have b1:=H3.box 3 i0;refine⟨s,i0,p.2.2,show f7 h3 (s.add 3)=_ from b1.cell i0,?_,?_⟩
   ·refine H3.make an aD gU i5 0 i0 i0 nd nd sR sR (qm _) i4 λx h4 _ _ V=>?_;have V:=V.bv;refine⟨⟨show f7 h4 (s.add 3)=_ from(V.box 4 i0).cell i0,trivial⟩,?_⟩;refine V.make an aD gU i5 0 i0 i0 w w hp hp (qm _) i4 λy h5 _ _ H5=>⟨trivial,H5.bv.nC⟩
   ·refine H3.make an aD gU i5 0 i0 i0 w w hp hp (qm _) i4 λy h4 _ _ V=>⟨trivial,?_⟩
    refine V.bv.make an aD gU i5 0 i0 i0 nd nd sR sR (qm _) i4 λx h5 _ _ H5=>⟨trivial,H5.bv⟩
  rintro⟨X,m⟩ h4 V;dsimp only at V⊢;refine av (λj:Nat=>(j:Int)) (λj h'=>j<=n/\aa B h0 h' (RA X (gT W d[i] (aJ nd) j)::RA m (gT M d[i] (aJ w) j)::cO (cF 1 aD) 1 bp q qr d::MA a (L.map rA++(d.take i).map a0)::CA b (L.map rB++(d.take i).map a3)::(Told s f p v r T J Q N I o F O++As))) (λj=>n-j) 0 i0 ⟨i4,V⟩ ?_;rintro j h5 ⟨hj,H5⟩;have ab:ii (gT W d[i] (aJ nd) j)=nd:=lP _ k7 λk hk=>(G k i4).1;have ad:ii (gT M d[i] (aJ w) j)=w:=lP _ k7 λk hk=>(G k i4).2;refine ac (λe2=>?_) (λe2=>?_)
  ·have Y:j<n:=i4
   have ay:j<d[i].length:=i4
   refine(Fix.row (H5.fA 2 i0) u).bD j i0 ay _ i0 ?_;have bb:d[i][j]'ay=aN d[i] j:=by rw[aN,qe,qd ay];rfl
   rw[bb];have tc:=G j Y;refine(Ft s f (aN d[i] j) (j:Int) X m N I _ _ o F W M H5 (St.mk' λh' U=>SR (ar (Cs:=[_,_,_]) U)) i4 i4 i4 (by rw[ql,tc.1,ab]) (by rw[ql,tc.2,ad]) i4 i4).mono ?_;rintro _ h6 ⟨rfl,H6⟩;rw[ql]at H6;exact⟨(),i0,j+1,js,⟨i4,H6⟩,i4⟩
  ·have a2:j=n:=i4
   subst a2;have H6:=aa.Zj (H5.freeze 0 i0 λ_=>rfl) 1 i0;refine H6.tk an 3 0 i5 i0 i0 fF i7 λa' h7 H7=>?_;refine H7.rv an 4 1 i5 i0 i0 fF i0 i5 (λ_=>rfl) jK i0 i5 i7 λb' h8 H8=>?_;refine⟨(i+1,a',b'),jj,⟨i6,?_⟩,i6⟩;dsimp only;rw[aH _ _ u,qS,qS,<-qp,<-qp];exact H8.aT 9 [2,3,4,5,6,7,8]
 ·have a1:i=ii d:=i4
  subst a1;rw[qV]at H3;exact⟨a,b,i0,H3.rest⟩
theorem Fv{α:Type}{g:α->Bool}{l:List α}{i:Nat}(h:i<ii l)(a:∀j (b:j<ii l),j<i->g l[j]=eS)(c:g l[i]=eR):l.findIdx g=i:=by rw[List.findIdx_eq h];exact⟨c,λj b=>a j i4 b⟩
theorem SX(s:Sl)(l:aw)(b:FuncId)(a:Array Value)(g:Int->Bool)(Q:f8->Prop)(w:C.fns[b]?=dB eR)(y:St B h0 As Q)(q:∀x h',Q h'->aq xD b ([Value.int .i64 x]++a.toList).toArray h' λv p=>v=xx (g x)/\Sp h' p [])(H:aa B h0 h (ae 3 s 1 ak l::As))(E:ii l<=2^20):
  aq xD 210 #[s,.func (.func b) #[] a] h λv h'=>v=xt xz (if l.findIdx g<ii l then(l.findIdx g:Int)else-1)/\aa B h0 h' (ae 3 s 1 ak l::As):=by
 refine iK s (b,#[],a) ?_;have u:=(H.own 0 i0).len;refine av (λi:Nat=>(i:Int)) (λi h'=>aa B h0 h' (ae 3 s 1 ak l::As)/\i<=ii l/\∀j (f:j<ii l),j<i->g l[j]=eS) (λi=>ii l-i) 0 i0 ⟨H,i4,λj _ f=>i4⟩ ?_;rintro i z ⟨k,F,d⟩;refine ac (λe=>?_) (λe=>?_)
 ·have c:i<ii l:=i4
  refine(k.seq 0 i0 λ_=>rfl).bD i i0 c _ i0 ?_;refine fo w ?_;refine(q l[i] z (y.at [_] k)).mono ?_;rintro _ D ⟨rfl,t⟩;refine⟨_,i0,bA (λr=>?_) λr=>?_⟩
  ·rw[Fv c d r,f9 c];exact⟨i0,k.up t.ag⟩
  ·refine⟨i+1,js,⟨k.up t.ag,i4,λj f o=>?_⟩,i4⟩;rcases zy.1 o with h3|rfl
   ·exact d j f h3
   ·exact r
 ·have n:¬l.findIdx g<ii l:=by rw[wY];rintro⟨x,A,m⟩;obtain⟨j,f,rfl⟩:=qL A;rw[d j f i4]at m;cases m
  rw[g0 n];exact⟨i0,k⟩
theorem Wb{α:Type}{g:α->Bool}{l:List α}{j:Nat}(h:j<l.findIdx g)(a:j<ii l):g l[j]=eS:=by simpa using List.not_of_lt_findIdx h
structure mF {α:Type} (g:α->Bool) (l l':List α) (i j:Nat):Prop where
 len:ii l'=ii l
 le:i<=j
 pre:l'.take i=(l.take j).filter λx=>!g x
 post:l'.drop j=l.drop j
theorem mF.start{α:Type}{g:α->Bool}{l:List α}{i:Nat}(h:i<ii l)(b:l.findIdx g=i):mF g l l i (i+1):=by
 refine⟨i0,i4,?_,i0⟩;have a:g l[i]=eR:=by have:=List.findIdx_getElem (xs:=l) (p:=g) (w:=by rw[b];exact h);simpa[b]using this
 rw[aH _ _ h,zq,zr,a];have:(l.take i).filter (λx=>!g x)=l.take i:=zZ.2 λx d=>by
  obtain⟨j,c,rfl⟩:=qL d;simp only[qU]at c;rw[yk,Wb (g:=g) (l:=l) (j:=j) i4 i4];rfl
 rw[this];simp
theorem mF.at_{α:Type}{g:α->Bool}{l l':List α}{i j:Nat}(x:mF g l l' i j)(a:j<ii l):l'[j]'(by rw[x.len];exact a)=l[j]:=by have h:=congrArg (λm=>m[0]?) x.post;simp only[wO,Nat.add_zero]at h;rw[qd a,qd (by rw[x.len];exact a)]at h;exact zP.inj h
theorem mF.keep{α:Type}{g:α->Bool}{l l':List α}{i j:Nat}(x:mF g l l' i j)(a:j<ii l)(b:g l[j]=eS):mF g l (l'.set i l[j]) (i+1) (j+1):=by
 have c:=x.len;have d:=x.le;refine⟨p7,i4,?_,?_⟩
 ·rw[aH _ _ i7,yq,List.take_set_of_le (qm _),x.pre,aH _ _ a,zq,zr,b];rfl
 ·rw[List.drop_set_of_lt i4];have e:=congrArg (xr 1) x.post;simpa[zJ]using e
theorem mF.skip{α:Type}{g:α->Bool}{l l':List α}{i j:Nat}(x:mF g l l' i j)(a:j<ii l)(b:g l[j]=eR):mF g l l' i (j+1):=by
 have c:=x.len;have d:=x.le;refine⟨c,i4,?_,?_⟩
 ·rw[x.pre,aH _ _ a,zq,zr,b];simp
 ·have e:=congrArg (xr 1) x.post;simpa[zJ]using e
theorem filter_all{α:Type}{g:α->Bool}{l:List α}(h:¬l.findIdx g<ii l):l.filter (λx=>!g x)=l:=zZ.2 λx a=>by
 have:g x=eS:=by
  cases hh:g x with
  |false=>rfl
  |true=>exact absurd (wY.2 ⟨x,a,hh⟩) h
 rw[this];rfl
theorem QW(s:Sl)(l:aw)(b:FuncId)(a:Array Value)(g:Int->Bool)(Q:f8->Prop)(y:C.fns[b]?=dB eR)(z:St B h0 As Q)(f:∀x h',Q h'->aq xD b ([Value.int .i64 x]++a.toList).toArray h' λv u=>v=xx (g x)/\Sp h' u [])(H:aa B h0 h (ae 3 s 1 ak l::As))(K:ii l<=2^20):
  aq xD 284 #[s,.func (.func b) #[] a] h λv h'=>∃r:Sl,v=r/\aa B h0 h' (ae 3 r 1 ak (l.filter λx=>!g x)::As):=by
 refine px s (b,#[],a) ?_;refine(SX s l b a g Q y z f H K).mono ?_;rintro _ O ⟨rfl,w⟩;have D:=(H.own 0 i0).len;have I:=(H.own 0 i0).cap;refine⟨_,i0,cy (λe=>?_) λe=>?_⟩
 ·have p:¬l.findIdx g<ii l:=λn=>by rw[f9 n]at e;omega
  exact⟨s,i0,by rw[filter_all p];exact w⟩
 ·have c:l.findIdx g<ii l:=by
   by_cases n:l.findIdx g<ii l
   ·exact n
   ·rw[g0 n]at e;exact absurd i0 e
  rw[f9 c];refine av (λt:Nat×Nat×aw=>((t.1:Int),(t.2.1:Int))) (λt h'=>mF g l t.2.2 t.1 t.2.1/\t.2.1<=ii l/\aa B h0 h' (ae 3 s 1 ak t.2.2::As)) (λt=>ii l-t.2.1) (l.findIdx g,l.findIdx g+1,l) js ⟨mF.start c i0,i6,w⟩ ?_;rintro⟨i,j,l'⟩ G ⟨M2,M,k⟩;dsimp only at*;have J:=M2.len;have A:=M2.le;refine ac (λF=>?_) (λF=>?_)
  ·have d:j<ii l:=i4
   refine(k.seq 0 i0 λ_=>rfl).bD j i0 i4 _ i0 ?_;rw[M2.at_ d];refine fo y ?_;refine(f l[j] G (z.at [_] k)).mono ?_;rintro _ h3 ⟨rfl,E⟩;have m:=k.up E.ag;refine⟨_,i0,bi (λo=>?_) λo=>?_⟩
   ·refine m.set an 0 i0 (λ_=>rfl) i0 i i0 i4 l[j] i0 i0 i0 λN L=>?_;exact⟨(i+1,j+1,l'.set i l[j]),by dsimp only;rw[af _,af _];rfl,⟨M2.keep d (by simpa using o),i6,L⟩,i6⟩
   ·exact⟨(i,j+1,l'),jj,⟨M2.skip d (by simpa using o),i6,m⟩,i6⟩
  ·have q:j=ii l:=i4
   subst q;refine⟨⟨i4,i4⟩,?_⟩;rw[ql];refine k.om an 0 i0 fS (λ_=>rfl) i0 i5 i i4 λh3 m=>⟨⟨i4,i4⟩,⟨s.ptr,i,s.cap⟩,i0,?_⟩
   have:=M2.pre;rw[qV]at this;rw[<-this];exact m
abbrev afz:bU C.toAO 291 357 2 [xt xz 0,xt xz 0] 16:=⟨_,_,i0,i0,i0,i0,i0,i0⟩
theorem SY(s:Sl)(l:List (Int×Int))(b:FuncId)(a:Array Value)(g:Int×Int->Bool)(Q:f8->Prop)(w:C.fns[b]?=dB eR)(y:St B h0 As Q)(q:∀x h',Q h'->aq xD b ([Value.agg #[xt xz x.1,xt xz x.2]]++a.toList).toArray h' λv p=>v=xx (g x)/\Sp h' p [])(H:aa B h0 h (ae 357 s 2 fL l::As))(E:ii l<=2^20):
  aq xD 331 #[s,.func (.func b) #[] a] h λv h'=>v=xt xz (if l.findIdx g<ii l then(l.findIdx g:Int)else-1)/\aa B h0 h' (ae 357 s 2 fL l::As):=by
 refine mw s (b,#[],a) ?_;have u:=(H.own 0 i0).len;refine av (λi:Nat=>(i:Int)) (λi h'=>aa B h0 h' (ae 357 s 2 fL l::As)/\i<=ii l/\∀j (f:j<ii l),j<i->g l[j]=eS) (λi=>ii l-i) 0 i0 ⟨H,i4,λj _ f=>i4⟩ ?_;rintro i z ⟨k,F,d⟩;refine ac (λe=>?_) (λe=>?_)
 ·have c:i<ii l:=i4
  refine(k.seq 0 i0 λ_=>rfl).dZ (g:=fL) i i0 c l[i] i0 ?_;refine fo w ?_;refine(q l[i] z (y.at [_] k)).mono ?_;rintro _ D ⟨rfl,t⟩;refine⟨_,i0,bA (λr=>?_) λr=>?_⟩
  ·rw[Fv c d r,f9 c];exact⟨i0,k.up t.ag⟩
  ·refine⟨i+1,js,⟨k.up t.ag,i4,λj f o=>?_⟩,i4⟩;rcases zy.1 o with h3|rfl
   ·exact d j f h3
   ·exact r
 ·have n:¬l.findIdx g<ii l:=by rw[wY];rintro⟨x,A,m⟩;obtain⟨j,f,rfl⟩:=qL A;rw[d j f i4]at m;cases m
  rw[g0 n];exact⟨i0,k⟩
theorem QX(s:Sl)(l:List (Int×Int))(b:FuncId)(a:Array Value)(g:Int×Int->Bool)(Q:f8->Prop)(A:C.fns[b]?=dB eR)(E:St B h0 As Q)(k:∀x h',Q h'->aq xD b ([Value.agg #[xt xz x.1,xt xz x.2]]++a.toList).toArray h' λv w=>v=xx (g x)/\Sp h' w [])(H:aa B h0 h (ae 357 s 2 fL l::As))(M:ii l<=2^20):
  aq xD 282 #[s,.func (.func b) #[] a] h λv h'=>∃r:Sl,v=r/\aa B h0 h' (ae 357 r 2 fL (l.filter λx=>!g x)::As):=by
 refine lZ s (b,#[],a) ?_;refine(SY s l b a g Q A E k H M).mono ?_;rintro _ R ⟨rfl,y⟩;have I:=(H.own 0 i0).len;have K:=(H.own 0 i0).cap;refine⟨_,i0,cy (λe=>?_) λe=>?_⟩
 ·have q:¬l.findIdx g<ii l:=λn=>by rw[f9 n]at e;omega
  exact⟨s,i0,by rw[filter_all q];exact y⟩
 ·have d:l.findIdx g<ii l:=by
   by_cases n:l.findIdx g<ii l
   ·exact n
   ·rw[g0 n]at e;exact absurd i0 e
  rw[f9 d];refine av (λt:Nat×Nat×List (Int×Int)=>((t.1:Int),(t.2.1:Int))) (λt h'=>mF g l t.2.2 t.1 t.2.1/\t.2.1<=ii l/\aa B h0 h' (ae 357 s 2 fL t.2.2::As)) (λt=>ii l-t.2.1) (l.findIdx g,l.findIdx g+1,l) js ⟨mF.start d i0,i6,y⟩ ?_;rintro⟨i,j,l'⟩ P ⟨M2,N,o⟩;dsimp only at*;have L:=M2.len;have F:=M2.le;refine ac (λJ=>?_) (λJ=>?_)
  ·have f:j<ii l:=i4
   refine(o.seq 0 i0 λ_=>rfl).dZ (g:=fL) j i0 i4 l[j] (by rw[M2.at_ f]) ?_;refine o.alloc an i0 λa5 h3 c=>?_;have c:=c.bv;refine c.storeAll an 0 i0 i0 (fL l[j]) i0 i0 i0 i0 λD m=>?_;refine⟨l[j],(m.box 0 i0).aP _ i0,?_⟩;refine fo A ?_;refine(k l[j] D (E.at [_,_] m)).mono ?_;rintro _ O ⟨rfl,G⟩;have z:=m.up G.ag;have c:=z.nM;refine⟨_,i0,bi (λp=>?_) λp=>?_⟩
   ·refine⟨l[j],(z.box 0 i0).aP _ i0,?_⟩;refine c.set an 0 i0 (λ_=>rfl) i0 i i0 i4 l[j] i0 i0 i0 λD m=>?_;exact⟨(i+1,j+1,l'.set i l[j]),by dsimp only;rw[af _,af _];rfl,⟨M2.keep f o7,i6,m⟩,i6⟩
   ·exact⟨(i,j+1,l'),jj,⟨M2.skip f o7,i6,c⟩,i6⟩
  ·have u:j=ii l:=i4
   subst u;refine⟨⟨i4,i4⟩,?_⟩;rw[ql];refine o.om an 0 i0 afz (λ_=>rfl) i0 i5 i i4 λh3 c=>⟨⟨i4,i4⟩,⟨s.ptr,i,s.cap⟩,i0,?_⟩
   have:=M2.pre;rw[qV]at this;rw[<-this];exact c
def sY(pool:List (Sl×aw)):HP:=⟨λh q=>∀x∈pool,Seq h q x.1 1 ak x.2,λa c x b=>(a x b).ag c,λa d x b=>(a x b).mono d⟩
theorem aa.Zk(H:aa B h0 h As):aa B h0 h (As++[sY []]):=H.comp (.one (aZ.refl _ _) λx a=>by cases a)
theorem aa.acT(H:aa B h0 h As)(i j:Nat)(b:i≠j){pool:List (Sl×aw)}{r:Sl}{l:aw}(f:As[i]?=dB (sY pool))(c:As[j]?=dB (rY r 1 ak l)):aa B h0 h ((As.set i (sY (pool++[(r,l)]))).set j emp):=
 H.merge i j b f c λg k _ d e x a=>by
  rcases qA.1 a with a|a
  ·exact(d x a).mono λ_ h=>.inl h
  ·rw[qB]at a;subst a;exact Seq.mono e λ_ h=>.inr h
abbrev afA:bU C.toAO 37 22 1 [xu eH 0 0] 24:=⟨_,_,i0,i0,i0,i0,i0,i0⟩
theorem SZ(s d:eY)(r:Sl)(x:Int×Int)(h':f8)(e:f7 h' d=dB (xv (dB s))/\f7 h' (s.add 5)=dB (xu r.ptr r.len r.cap)):
  aq xD 283 ([Value.agg #[xt xz x.1,xt xz x.2]]++(#[Value.pointer (dB d)]:Array Value).toList).toArray h' λv c=>v=xx (decide (x.1>=(r.len:Int)))/\Sp h' c []:=by
 refine sS x d ?_;refine(Sp.refl h').boxed λa f b=>?_;exact⟨x.1,(b.box 0 i0).cell0 i0,dB s,ow e.1 b.ag,s,i0,r,ow e.2 b.ag,i0,.zip b.ag⟩
theorem Ta(s b:eY)(r:Sl)(x:Int)(h':f8)(c:f7 h' b=dB (xv (dB s))/\f7 h' (s.add 5)=dB (xu r.ptr r.len r.cap)):
  aq xD 285 ([Value.int .i64 x]++(#[Value.pointer (dB b)]:Array Value).toList).toArray h' λv a=>v=xx (decide (x>=(r.len:Int)))/\Sp h' a []:=by
 refine sT x b ?_;exact⟨dB s,c.1,s,i0,r,c.2,i0,Sp.refl _⟩
theorem Tb(s f:eY)(p:Int×Int×Int)(v r m d j L G kn:Sl)(D:List (Sl×Sl))(R:List fq)(known:List Bool)(n:Nat)(H:aa B h0 h (SA s (gC f p v r m d j L G)::As))(hS:St B h0 As λh=>nD ju 2 qv h r D R/\Rd h kn 1 fh known)(am:ii known=n)(hn:n<=64)(a2:ii R<=2^19)(ao:∀e∈R,ii e.1<=2^20)
  (E:jG (n:Int) (rowsOf R known n)=eR) (W:(dL n (rowsOf R known n)).steps.length<=2^20/\(fD (dL n (rowsOf R known n)).used (rowsOf R known n).length).length<=2^20):
  aq xD 226 #[xv (dB s),kn] h λv' h'=>v'=.tuple #[]/\∃J A I:Sl,aa B h0 h' (SA s (gC f p v r J A I L G)::ae 357 J 2 fL ((dL n (rowsOf R known n)).steps.filter λx=>decide (x.1<ii R))::ae 3 A 1 ak (dL n (rowsOf R known n)).dead::ae 3 I 1 ak ((fD (dL n (rowsOf R known n)).used (rowsOf R known n).length).filter λx=>decide (x<ii R))::As):=by
 refine uX (dB s) kn ?_;refine H.boxed λq K S=>?_;have S:=S.bv;refine⟨dB s,(S.box 0 i0).cell0 i0,s,i0,r,(S.box 1 i0).cell i0,?_⟩;have G1:=hS.at [_,_] S;have U:=G1.1.1.len;have M:=G1.1.2.1;have ab:=G1.2.len;let pre:List HP:=[al q 290 [xv (dB s)],SA s (gC f p v r m d j L G)]
 have H2:aa B h0 K (ae 22 ⟨eH,0,0⟩ 1 bp []::sY []::al q 290 [xv (dB s)]::SA s (gC f p v r m d j L G)::As):=((aa.Zk S).bv.nil 22 1 bp).bv;refine av (λt:Nat×Sl=>(t.2,(t.1:Int))) (λt h'=>t.1<=ii R/\aa B h0 h' (ae 22 t.2 1 bp ((D.take t.1).map qK)::sY []::al q 290 [xv (dB s)]::SA s (gC f p v r m d j L G)::As)) (λt=>ii R-t.1) (0,⟨eH,0,0⟩) i0 ⟨i9,by simpa using H2⟩ ?_;rintro⟨i,o⟩ h3 ⟨hi,H3⟩;dsimp only at*;refine ac (λe=>?_) (λe=>?_)
 ·have ap:i<ii R:=i4
  have G3:=hS.at [_,_,_,_] H3;refine G3.1.1.dZ (g:=qv) i i0 i4 (D[i]'(by omega)) i0 ?_;refine H3.alloc an i0 λa8 h4 y=>?_;have y:=y.bv;refine y.storeAll an 0 i0 i0 (qv (D[i]'(by omega))) i0 i0 i0 i0 λh5 F=>?_;refine⟨(D[i]'(by omega)).1,(F.box 0 i0).cell0 i0,?_⟩;refine F.nM.push an 0 i0 afA i0 i5 (λ_=>rfl) jK (D[i]'(by omega)).1 i0 i5 i7 λo' h6 V=>?_;refine⟨(i+1,o'),jj,⟨i6,?_⟩,i6⟩;dsimp only;rw[aH D i,qS];exact V
 have N:i=ii R:=i4
 subst N;rw[qi i4]at H3;refine av (λt:Nat×Sl×List Sl=>(t.2.1,(t.1:Int))) (λt h'=>t.1<=n/\t.2.2.length=ii (io known t.1)/\aa B h0 h' (ae 22 t.2.1 1 bp (D.map qK++t.2.2)::sY (t.2.2.zip (io known t.1))::al q 290 [xv (dB s)]::SA s (gC f p v r m d j L G)::As)) (λt=>n-t.1) (0,o,[]) i0 ⟨i4,i0,by simpa using H3⟩ ?_;rintro⟨i,o,sr⟩ h4 ⟨hi,z,y⟩;dsimp only at*;have a4:=Df known i;refine ac (λe=>?_) (λe=>?_)
 ·have ap:i<n:=i4
  have G4:=hS.at [_,_,_,_] y;refine G4.2.bD i i0 i4 _ i0 ?_;have a0:known.getD i eS=known[i]'(by omega):=by rw[qe,qd i4];rfl
  have O:=KS known i;rw[a0]at O;refine bA (λY=>?_) (λY=>?_)
  ·rw[Y,f9 rfl]at O;refine y.lit an ak fS i0 [(i:Int)] i0 (show 1*1<=2^20 by decide) i0 λb h5 F=>?_;have F:=F.bv.freeze 0 i0 λ_=>rfl;have V:=aa.acT F 2 0 i5 i0 i0;refine V.push an 1 i0 afA i0 i5 (λ_=>rfl) jK b i0 i5 i7 λo' h7 H7=>?_;refine⟨(i+1,o',sr++[b]),jj,⟨i6,by dsimp only;rw[O];simp[z],?_⟩,i6⟩;dsimp only;rw[O,List.zip_append z,<-qp];exact H7.nM
  ·rw[Y,g0 i9,qM]at O;exact⟨(i+1,o,sr),jj,⟨i6,by dsimp only;rw[O];exact z,by dsimp only;rw[O];exact y⟩,i6⟩
 have N:i=n:=i4
 subst N;have G4:=hS.at [_,_,_,_] y;have Q:ii (rowsOf R known i)=ii R+ii sr:=by rw[rowsOf,qw,qx,z]
 have Z:iu h4 (λb=>b<h4.size) o 1 ak (rowsOf R known i) (D.map qK++sr):=by
  refine⟨y.seq 0 i0 λ_=>rfl,by rw[Q];simp;omega,λk a l K T=>?_⟩;by_cases hk:k<ii R
  ·rw[qo i7,qR,qd i4]at K;rw[rowsOf,qo i7,qR,qd hk]at T;simp only[Option.map_some,zP.injEq]at K T;subst K;subst T;exact(Fix.row G4.1 hk).1
  ·rw[qj i7]at K;rw[rowsOf,qj i7]at T;simp only[qx,M]at K T;have hm:(a,l)∈sr.zip (io known i):=by refine yR.2 ⟨k-ii R,?_⟩;rw[List.getElem?_zip_eq_some];exact⟨K,T⟩
   exact(y.at 1 i0) _ hm
 rw[ab,am];refine(Zc (i:Int) o (rowsOf R known i) _ h4 Z i4 ?_).mono ?_
 ·intro x X;rcases qA.1 X with X|X
  ·obtain⟨e,he,rfl⟩:=qu.1 X;have:=ao e he;omega
  ·obtain⟨c,hc,rfl⟩:=qu.1 X;simp
 rintro _ h5 ⟨J,A,I,rfl,R5⟩;have ax:CN (i:Int) (rowsOf R known i)=((dL i (rowsOf R known i)).steps,(dL i (rowsOf R known i)).dead,fD (dL i (rowsOf R known i)).used (rowsOf R known i).length):=by unfold CN;rw[f9 E,ql]
 rw[ax]at R5;dsimp only at R5;have F:=((y.nM).nM).comp R5;refine⟨((J,A,I),_),i0,?_⟩;have V:aa B h0 h5 (ae 357 J 2 fL (dL i (rowsOf R known i)).steps::ae 3 A 1 ak (dL i (rowsOf R known i)).dead::ae 3 I 1 ak (fD (dL i (rowsOf R known i)).used (rowsOf R known i).length)::al q 290 [xv (dB s)]::SA s (gC f p v r m d j L G)::As):=aa.front (As:=al q 290 [xv (dB s)]::SA s (gC f p v r m d j L G)::As) (Bs:=[_,_,_]) F;refine V.alloc an i0 λa3 h7 H7=>?_;have H7:=H7.bv;refine H7.storeAll an 0 i0 i0 [J,A,I] i0 i0 i0 i0 λh8 H8=>?_;refine⟨J,(H8.box 0 i0).cell0 i0,?_⟩;refine(QX J _ 283 #[xv (dB q)] (λx=>decide (x.1>=(r.len:Int))) (λh'=>f7 h' q=dB (xv (dB s))/\f7 h' (s.add 5)=dB (xu r.ptr r.len r.cap)) i0 (St.mk' λh' H'=>⟨(H'.box 3 i0).cell0 i0,(H'.box 4 i0).cell i0⟩) (λx h' hq=>SZ s q r x h' hq) H8.nC W.1).mono ?_;rintro _ h9 ⟨w,rfl,H9⟩;refine⟨w,i0,?_⟩;refine H9.jJ an 1 i0 i0 [w] i0 i0 i0 i9 λa7 ah=>?_;refine⟨I,(ah.box 1 i0).cell i0,?_⟩;have ay:=ah.aT 6 [3,0,1,2,4,5];refine(QW I _ 285 #[xv (dB q)] (λx=>decide (x>=(r.len:Int))) (λh'=>f7 h' q=dB (xv (dB s))/\f7 h' (s.add 5)=dB (xu r.ptr r.len r.cap)) i0 (St.mk' λh' H'=>⟨(H'.box 3 i0).cell0 i0,(H'.box 4 i0).cell i0⟩) (λx h' hq=>Ta s q r x h' hq) ay W.2).mono ?_;rintro _ a5 ⟨u,rfl,ar⟩;refine⟨u,i0,?_⟩;refine ar.store an 2 i0 i0 2 [u] i0 i0 i0 i9 λa6 P=>?_;refine⟨dB s,(P.box 4 i0).cell0 i0,(w,A,u),(P.box 2 i0).aP _ i0,s,i0,?_⟩;refine P.store an 5 i0 i0 6 [w,A,u] i0 i0 i0 ns λa9 ad=>⟨i0,w,A,u,?_⟩
 have e1:(λx:Int×Int=>!decide (x.1>=(r.len:Int)))=λx=>decide (x.1<(ii R:Int)):=by
  funext x;rw[U,M];by_cases h:x.1<(ii R:Int)
  ·rw[g9 h,hU i4];rfl
  ·rw[hU h,g9 i4];rfl
 have Y:(λx:Int=>!decide (x>=(r.len:Int)))=λx=>decide (x<(ii R:Int)):=by
  funext x;rw[U,M];by_cases h:x<(ii R:Int)
  ·rw[g9 h,hU i4];rfl
  ·rw[hU h,g9 i4];rfl
 rw[e1,Y]at ad;exact ad.aT 6 [5,1,3,0]
theorem MO{l:Row}:¬fk l<ii l↔l=aJ l.length:=by
 rw[fk,wY];constructor
 ·intro h;refine vT.2 ⟨i0,λx b=>?_⟩;by_cases a:x=0
  ·exact a
  ·exact absurd ⟨x,b,j9⟩ h
 ·rintro h ⟨x,b,a⟩;have:=(vT.1 h).2 x b;subst this;simp at a
theorem Tc(f:eY)(a b:Sl)(A B:aL)(m n w:Nat)(h:f8)(hf:fH h f)(ha:fW h a 1 aD A)(hb:fW h b 1 aD B)(hl:ii A=m)(br:ii B=m)(u:aY n A)(hB:aY w B)(bb:1<=n)(hn:n+w<=64)(hm:m<=2^20)(hr:ca A=n):
  aq xD 199 #[xv (dB f),a,b] h λv h'=>(kW n A B/\∃r:Sl,v=.tuple #[r,xt xz 0]/\Sp h h' [fN 71 r 1 aD (go n A B)])∨(¬kW n A B/\v=.tuple #[xu eH 0 0,xt xz 10]/\Sp h h' []):=by
 have bk:n<=m:=by have:=oK A u;omega
 have d:ii B=ii A:=i4
 have am:=ha.len;have S:=hb.len;refine Dm (dB f) a b ?_;refine bc ?_;refine(mW a A n h ha u).mono ?_;rintro v h1 ⟨rfl,rfl⟩;refine⟨_,i0,bi (λe=>j0) λ_=>?_⟩;refine(mW b B w h1 hb hB).mono ?_;rintro v W ⟨rfl,rfl⟩;refine⟨_,i0,bi (λe=>j0) λ_=>?_⟩;refine ci (λe=>absurd (by rw[am,S,d]) e) λ_=>?_;refine cy (λe=>i4) λ_=>?_;refine(pY a A W ha).mono ?_;rintro v h3 ⟨rfl,rfl⟩;have a0:eK A=n:=by
  cases A with
  |nil=>simp at hl;omega
  |cons x t=>rw[eK,bz i9];exact u _ i9
 refine⟨_,i0,?_⟩;rw[a0];refine(ux a A n h3 ha u).mono ?_;rintro v h4 ⟨r,rs,rfl,b0,R4⟩;refine⟨r,i0,?_⟩;have a3:=(R4.own 0 i0).len;refine av (λt:Nat×List Sl=>(t.1:Int)) (λt h'=>t.1<=m/\t.2.length=m/\Sp h3 h' (nz r t.2 (ox A B t.1))) (λt=>m-t.1) (0,rs) i0 ⟨i9,i6,by simpa[ox,fg]using R4⟩ ?_;rintro⟨k,rs⟩ h5 ⟨hk,a7,N⟩;dsimp only at*;have H:ii rs=ii (ox A B k):=n4
 refine ac (λe=>?_) (λe=>?_)
 ·have J:k<m:=i4
  have G:k<ii A:=i4
  have F:=ov (a:=r) H k n4;have eg:(ox A B k)[k]'(by rw[rS d];omega)=A[k]:=by have:=Yq d G;rw[qd n4]at this;exact zP.inj this
  rw[eg]at F;have l1:A[k].length=n:=u _ (qg _);have l2:ii (B[k]'(by omega))=w:=hB _ (qg _);refine(N.seq 0 i0 λ_=>rfl).mv k i0 i4 λa1 V X=>?_;refine(hb.up N.ag).get k i0 i4 λrb ab=>?_;refine N.append an (k+1) F gU Qp i0 i5 (λ_=>rfl) ab iF i4 λs6 h6 H6=>⟨trivial,?_⟩
  refine H6.set an 0 i0 (λ_=>rfl) i0 k i0 i4 s6 i0 i0 i0 λh7 H7=>⟨trivial,?_⟩
  refine⟨(k+1,rs.set k s6),jj,⟨i6,lz,?_⟩,i6⟩;dsimp only;rw[<-Yr d G];show Sp h3 h7 (ae 71 r 1 bp (rs.set k s6)::bB 5 1 aD (rs.set k s6) ((ox A B k).set k _));rw[<-kJ H];exact H7
 ·have ao:k=ii A:=i4
  subst ao;rw[Ys d]at N;refine(sk f h5).mono ?_;rintro v h6 ⟨rfl,rfl⟩;refine⟨dB f,i0,?_⟩;have R:=mP d.symm u hB;have a6:=mi d.symm;refine(AC (m:=fg A B) (n:=n+w) hf hf.lt i4 R i4 i4 i4 N).mono ?_;rintro v h7 ⟨l,rfl,a4,q⟩;rw[Ht d.symm u,hr];refine⟨_,i0,?_⟩;dsimp only;have O:=(q.own 0 i0).cap;have a9:=(q.own 0 i0).len;have W:=gV R n;refine ac (λe=>absurd (show(n:Int)<(n:Int)from e) i4) λ_=>?_;refine⟨⟨wc _,y7.2 (show n<=r.len by omega)⟩,?_⟩;obtain⟨M,Y⟩:∃M,M=(bI (fg A B) n).2:=⟨_,rfl⟩
  have bd:ii M=ii A:=by have:=W.2;rw[<-Y]at this;omega
  have T:aY (n+w) M:=by rw[Y];exact W.1
  rw[<-Y]at q;have K:ii l=ii M:=i4
  have o:kW n A B↔∀i (Z:i<ii M),n<=i->M[i]=aJ M[i].length:=by
   unfold kW;rw[<-Y];constructor
   ·intro P i Z hn;refine P _ (yR.2 ⟨i-n,?_⟩);rw[wO,show n+(i-n)=i by omega,qd Z]
   ·intro P x hx;obtain⟨i,Z,rfl⟩:=qL hx;simp only[zi]at Z;rw[wm];exact P _ i4 i4
  refine av (λi:Nat=>(i:Int)) (λi h'=>h'=h7/\n+i<=ii M/\∀j (hj:j<ii M),n<=j->j<n+i->M[j]=aJ M[j].length) (λi=>ii M-(n+i)) 0 i0 ⟨i0,i4,λj _ _ _=>i4⟩ ?_;rintro i h8 ⟨rfl,Z,p⟩;rw[ql];refine ac (λe=>?_) (λe=>?_)
  ·have g:n+i<ii M:=i4
   have F:=ov (a:=r) K (n+i) i4;have ad:ii (M[n+i]'g)=n+w:=T _ (qg _);have D:=q.seq (n+i+1) F λ_=>rfl;have z:=(q.seq 0 i0 λ_=>rfl).drop n O;have ay:(l.drop n)[i]'(by simp;omega)=l[n+i]'(by omega):=wm;refine z.mv i i0 i7 λa1 V X=>?_;rw[ay];refine(Fk _ _ h8 D).mono ?_;rintro _ h9 ⟨rfl,rfl⟩;refine⟨_,i0,ac (λQ=>?_) λQ=>?_⟩
   ·right;have E:fk (M[n+i]'g)<ii (M[n+i]'g):=by
     by_cases hh:fk (M[n+i]'g)<ii (M[n+i]'g)
     ·exact hh
     ·rw[g0 hh]at Q;exact absurd Q i5
    refine⟨λP=>?_,i0,.zip q.ag⟩;have:=o.1 P (n+i) g i4;exact absurd E (MO.2 this)
   ·have E:¬fk (M[n+i]'g)<ii (M[n+i]'g):=λhh=>by
     rw[f9 hh]at Q;exact Q (wc _)
    refine⟨i+1,js,⟨i0,i4,λj hj h1 W=>?_⟩,i4⟩;by_cases ah:j=n+i
    ·subst ah;exact MO.1 E
    ·exact p j hj h1 i4
  refine⟨⟨wc _,y7.2 (show n<=r.cap by omega)⟩,?_⟩;have y:kW n A B:=o.2 λj hj h1=>p j hj h1 i4;have e1:go n A B=(M.take n).map (xr n):=by rw[go,<-Y]
  have I:∀k (hk:k<n),(go n A B).take (k+1)=(go n A B).take k++[(M[k]'(by omega)).drop n]:=λk hk=>by
   rw[e1,aH _ _ i7,List.getElem_map,yk]
  have a8:ii (go n A B)=n:=(tu d.symm u hB hr).1;refine av (λt:Sl×Nat=>(t.1,(t.2:Int))) (λt h'=>t.2<=n/\Sp h8 h' [fN 71 t.1 1 aD ((go n A B).take t.2)]) (λt=>n-t.2) (⟨eH,0,0⟩,0) i0 ⟨i9,(Sp.refl h8).ID 71 1 aD⟩ ?_;rintro⟨s,k⟩ h9 ⟨bq,H9⟩;dsimp only at*;have HH:=q.comp H9;refine ac (λe=>?_) (λe=>?_)
  ·have J:k<n:=i4
   have F:=ov (a:=r) K k i4;have L:(nz r l M++[fN 71 s 1 aD ((go n A B).take k)])[k+1]?=dB (ae 5 (l[k]'(by omega)) 1 aD (M[k]'(by omega))):=by rw[qo (by simp[bB];omega)];exact F
   have ad:ii (M[k]'(by omega))=n+w:=T _ (qg _);have U:=HH.own (k+1) L;have D:=HH.seq (k+1) L λ_=>rfl;have a5:=U.len;have z:=(HH.seq 0 i0 λ_=>rfl).take n i4;have ar:(l.take n)[k]'(by simp;omega)=l[k]'(by omega):=yk;refine z.mv k i0 i7 λa1 V X=>?_;rw[ar];refine⟨⟨wc _,y7.2 i4⟩,?_⟩;refine(fc _ _ h9 (D.drop n U.cap) i7).mono ?_;rintro v bs ⟨c,rfl,ap⟩;have a2:=(H9.comp ap).freeze 1 i0 λ_=>rfl;refine⟨c,i0,?_⟩;refine a2.tk an 0 1 i5 i0 i0 fF i7 λs' bl ax=>?_;refine⟨(s',k+1),jj,⟨i6,?_⟩,i6⟩;dsimp only;rw[I k J];exact ax.del 1
  ·rw[qi i4]at H9;refine .inl ⟨y,s,i0,?_⟩;have:=(Sp.zip q.ag).comp H9;exact this
theorem QY:∀{l:aw},l.Pairwise (·<·)->fJ l=eR
 |[],_=>rfl
 |[_],_=>rfl
 |a::b::r,h=>by
  rw[List.pairwise_cons]at h;rw[fJ,QY h.2,g9 (h.1 b i9)];rfl
theorem Wc{l:aw}(h:l.Pairwise (·<·)):LH l:=λi a=>List.pairwise_iff_getElem.1 h i (i+1) i4 a i4
theorem Wd{n:Nat}{R:List fq}{known:List Bool}(h:n<=64)(b:∀e∈R,(∀c∈e.1,0<=c/\c<(n:Int))/\e.1.Pairwise (·<·)):jG (n:Int) (rowsOf R known n)=eR:=by
 unfold jG;rw[qC];refine⟨i7,q7.2 λr a=>?_⟩;unfold fK;rw[qC];rcases qA.1 a with a|a
 ·obtain⟨e,f,rfl⟩:=qu.1 a;exact⟨q7.2 λc g=>by simpa using(b e f).1 c g,QY (b e f).2⟩
 ·obtain⟨d,rfl,i,_⟩:=xP a;exact⟨i7,i0⟩
theorem aa.afB{e:Nat}{v:Sl}{vs:aL}(H:aa B h0 h As)(i:Nat)(r:As[i]?=dB (ce e v 1 bp (rZ 1 aD) vs)):
  ∃f:List Sl,aa B h0 h (As.set i (ae e v 1 bp f)++[kX (f.zip vs)])/\f.length=ii vs/\∀(c:Nat) (o:c<ii f) (n:c<ii vs),f[c].ptr.isNone=vs[c].isEmpty:=by
 have g:i<ii As:=(qn.1 r).1;have u:aa B h0 h (As.set i (HP.ex λf:List Sl=>((ae e v 1 bp f).sep (kX (f.zip vs))).and (ii f=ii vs/\∀(c:Nat) (o:c<ii f) (n:c<ii vs),f[c].ptr.isNone=vs[c].isEmpty))):=
  H.gb i r λq ⟨rs,D,a,b,c,d,e⟩=>⟨rs,⟨λb=>v.on b,D,λx j=>(b x j).2,λx j=>(b x j).1,c,⟨a,λx j=>j⟩,λx j=>by
   obtain⟨k,w,l⟩:=qL j;simp only[List.length_zip]at w;rw[List.getElem_zip]at l;subst l;exact(e k _ _ (qd i4) (qd i4)).1⟩,d,λk o n=>by
   obtain⟨x,y⟩:=e k _ _ (qd o) (qd n);cases hv:vs[k]with
   |nil=>rw[y hv];rfl
   |cons z t=>
    have:=x.isSome (by rw[hv];simp);rw[this];rfl⟩
 obtain⟨f,m⟩:=u.UD i (zj g);rw[yz]at m;have A:=m.fact i (zj g);have s:=m.aci i (zj g);rw[yz]at s;have p:=s.split i (zj g);rw[yz]at p;exact⟨f,p,A⟩
def yv(x:Int×Sl):ba:=[xt xz x.1,x.2]
def agz:iZ (Int×Sl) (Int×Row):=⟨λh q a b=>a.1=b.1/\Seq h q a.2 1 aD b.2,λa c=>⟨a.1,a.2.ag c⟩,λa d=>⟨a.1,a.2.mono d⟩⟩
abbrev Ke:iZ Sl (List (Int×Row)):=bH agz 2 yv
end Go.Qw
