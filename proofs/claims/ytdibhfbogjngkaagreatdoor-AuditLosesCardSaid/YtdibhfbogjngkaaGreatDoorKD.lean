/- Lemmas for the proof of the law; no condition. -/
import Derived.Test.YtdibhfbogjngkaaGreatDoorKC
set_option linter.unusedVariables false
set_option linter.unusedSimpArgs false
open Go.Proofs.Tryz renaming prog -> xR
open Go.Value renaming agg -> xM, bool -> xL, int -> xH, pointer -> xJ, slice -> xI, string -> xK
open Go.IntKind renaming bits -> qk, i64 -> xN, u32 -> xP, u8 -> xO, wrap -> qc
open List renaming all_eq_true -> qL, any_eq_false -> zW, any_eq_true -> zV, append_assoc -> qp, append_nil -> qN, cons_append -> zt, drop_eq_getElem_cons -> qV, drop_length -> vx, ext_getElem? -> zC, filter_congr -> vX, filter_eq_self -> zT, foldl_append -> zN, foldl_cons -> zy, foldl_nil -> wE, getD_eq_getElem?_getD -> qe, getElem?_append_left -> qm, getElem?_cons_succ -> qu, getElem?_eq_getElem -> qd, getElem?_eq_none -> qZ, getElem?_eq_some_iff -> qo, getElem?_set -> qY, getElem?_set_ne -> zG, getElem?_set_self -> zm, getElem_mem -> qg, getElem_set_self -> yR, length_append -> qx, length_filter_le -> qP, length_map -> qy, length_replicate -> w8, length_set -> zj, length_take -> qU, map_append -> qT, map_set -> vT, mem_append -> qz, mem_map -> qw, mem_of_mem_take -> zD, mem_or_eq_of_mem_set -> wb, mem_range -> qG, mem_singleton -> qC, mergeSort_perm -> w5, range -> qE, range' -> zP, replicate -> qh, replicate_succ -> yt, replicate_zero -> vd, set_append_left -> vu, set_append_right -> q7, set_cons_succ -> zx, set_cons_zero -> zq, set_set -> yG, take_append_drop -> qA, take_append_of_le_length -> z8, take_of_length_le -> qi, zipWith -> zh
open Int renaming emod_lt_of_pos -> wh, emod_nonneg -> yc, fdiv -> qX, le_refl -> vM, mul_le_mul -> yp, natCast_nonneg -> zY, ofNat_inj -> xm, tdiv -> wH, toNat_natCast -> ql
open Nat renaming add_assoc -> w9, le_refl -> qn, le_trans -> zi, lt_of_lt_of_le -> qM, lt_succ_iff_lt_or_eq -> zn, min_eq_left -> wX, mod_eq_of_lt -> wo, mul_comm -> vO, mul_le_mul -> wq, mul_one -> z6, shiftRight_eq_div_pow -> yT, sub_self -> zc, zero_le -> z7
open Prod renaming fst -> qJ
open Go.Instr renaming slice -> xo, sliceAt -> wW, sliceBounds -> we
open BitVec renaming eq_of_toNat_eq -> wN, getLsbD_and -> xx, ofNat -> wP, toNat -> xE, toNat_ofNat -> wU, toNat_ushiftRight -> y8, xor_assoc -> wK, xor_self -> yW, xor_zero -> xr, zero_xor -> xt
open UInt8 renaming toNat_inj -> wY
set_option maxRecDepth 100000
open Option renaming some -> dB, none -> eH
open Bool renaming true -> eL, false -> eR
open Go renaming Addr -> fz
open Go.Vc renaming Heap -> f8
open List renaming length -> ii
namespace Go.Qw
open Go Go.Vc Go.Proofs Wl
section
variable {B:aB} {h0 h:f8} {As:List HP} {a pw b:fz} {mc:be} {offs:Int} {da:List aT} {w:Pow} {ds:aW} {d:bw}
theorem sv{p:aB}(s:Sl)(l:aF)(x:Int)(h:f8)(f:Seq h p s 1 aC l)(n:ii l<=2^40:=by omega):ac xR 84 #[s,xH xN x] h λv h'=>v=xL (decide (x∈l))/\h'=h:=by
 refine lI s x ?_;unfold jd;refine(mY s x (R:=λv h'=>(∃i:Int,v=xH xN i/\(decide (i>=0)=decide (x∈l)))/\h'=h) ?_).mono ?_
 ·unfold kH;have k:=f.len;refine av (λi:Nat=>(i:Int)) (λi h'=>i<=ii l/\x∉l.take i/\h'=h) (λi=>ii l-i) 0 i0 ⟨i4,i9,i0⟩ ?_;rintro i m ⟨g,b,rfl⟩;refine aj (λd=>?_) (λd=>?_)
  ·have a:i<ii l:=by have j:(i:Int)<(s.len:Int):=d;omega
   refine f.bB i i0 a l[i] i0 ?_;refine cu (λe=>⟨⟨i,i0,?_⟩,i0⟩) (λe=>?_)
   ·rw[g9 (show(i:Int)>=0 by omega),g9 (by rw[e];exact qg a)]
   ·refine⟨i+1,js,⟨i4,λc=>?_,i0⟩,i4⟩;rw[aK _ _ a]at c;rcases qz.1 c with c|c
    ·exact b c
    ·exact e (qC.1 c)
  ·have j:¬(i:Int)<(s.len:Int):=d;rw[qi i4]at b;exact⟨⟨-1,i0,o4⟩,i0⟩
 ·rintro _ m ⟨⟨i,rfl,g⟩,rfl⟩;exact⟨i,i0,by rw[g],i0⟩
theorem Iy(H:aa B h0 h (bj bu a pw mc offs da w ds::As)):ac xR 83 #[xJ (dB a)] h λv h'=>v=xL (di w offs)/\h'=h:=by refine QX (dB a) ?_;unfold JN;refine bv (λe=>j0) λ_=>(si H).mono ?_;rintro _ _ ⟨rfl,rfl⟩;exact⟨_,i0,i0,i0⟩
def im(slot cells:Int):Bool:=decide ((0<=slot/\slot<64)/\1<=cells/\cells<=512)
theorem WA(slot cells:Int)(h:f8):ac xR 88 #[xH xN slot,xH xN cells] h λv h'=>v=xL (im slot cells)/\h'=h:=by
 refine Mo slot cells ?_;unfold Fw im;refine aj (λa=>aj (λc=>aj (λb=>⟨?_,i0⟩) λb=>⟨?_,i0⟩) λc=>⟨?_,i0⟩) λa=>⟨?_,i0⟩
 ·congr 1;rw[decide_eq_decide];omega
 all_goals (rw[hU i4])
theorem abV(n:Nat)(i:n<64)(x:cg)(H:aa B h0 h (iI pw b d::bj bu a pw (aX x) offs da w ds::As)):
  ac xR 89 #[xJ (dB a),xH xN n,xJ (dB b)] h λv h'=>v=.tuple #[]/\aa B h0 h' (bj bu a pw (aX x) offs (da.set n (dB b)) w (ds.set n (dB d))::As):=by
 refine rI (dB a) n (dB b) ?_;unfold nO;refine bv (λ_=>?_) λe=>j0
 refine aj (λ_=>aj (λ_=>?_) λe=>absurd (show(n:Int)<64 by omega) e) λe=>absurd (show(n:Int)>=0 by omega) e;refine⟨a,i0,⟨i4,i4⟩,?_⟩;rw[ql,z6];have j:aa B h0 h (bj bu a pw (aX x) offs da w ds::iI pw b d::As):=H.bs 2 [1,0];obtain⟨ok,f⟩:=Go.Vc.aa.oJ j;have g:(a.add 10).add n=a.add (10+n):=by unfold Addr.add;simp[w9]
 rw[g];refine f.storeAt af 0 i0 i0 i0 i0 i0 (by simp[ok.la];omega) λh' c=>?_;rw[zq,Qi ok.l8]at c;exact⟨i0,aa.aec ok i c⟩
theorem UM(slot:Int)(x:cg)(m:aI)(i:dY h x m)(c:db m)(H:aa B h0 h (bj bu a pw (aX x) offs da w ds::As))(b:di w offs=eL∨slot∉aN ds m.drives):
  ac xR 28 #[xJ (dB a),xH xN slot] h λv h'=>v=xH xN (if di w offs then 14 else 5)/\Sp h h' []:=by
 refine CU (dB a) slot ?_;unfold Al;have j:=c.dr;refine(Iy H).mono ?_;rintro _ l ⟨rfl,rfl⟩;refine⟨_,i0,bv (λe=>⟨n8,Sp.refl _⟩) λe=>?_⟩;refine(eF x m i c H).mono ?_;rintro _ g ⟨r,rfl,d⟩;have k:ii (aN ds m.drives)<=ii m.drives:=qP _ _;refine⟨r,i0,(sv r _ slot g (d.seq 0 i0 λ_=>rfl)).mono ?_⟩;rintro _ h3 ⟨rfl,rfl⟩;refine⟨_,i0,bm (λf=>⟨n8,.zip d.ai⟩) λf=>?_⟩;rcases b with b|b
 ·rw[e]at b;cases b
 ·exact absurd (hY f) b
theorem Zm(H:aa B h0 h (iI pw b d::As)):ac xR 85 #[xJ (dB b)] h λv h'=>v=.tuple #[]/\aa B h0 h' (iI pw b d.rU::As):=by
 refine EB (dB b) ?_;unfold tl;obtain⟨ok,s,m,a⟩:=H.rj;refine bv (λ_=>?_) λe=>j0
 refine⟨b,i0,a.store af 0 i0 i0 6 [xL eL] i0 i0 i0 lz λk j=>?_⟩;refine⟨b,i0,j.store af 0 i0 i0 2 [xI eH 0 0] i0 i0 i0 lz λh3 f=>?_⟩;refine⟨b,i0,f.store af 0 i0 i0 3 [xH xN 0] i0 i0 i0 lz λl g=>?_⟩;refine⟨b,i0,g.store af 0 i0 i0 4 [xI eH 0 0] i0 i0 i0 lz λo i=>?_⟩;refine⟨b,i0,i.store af 0 i0 i0 5 [xL eR] i0 i0 i0 lz λn c=>⟨i0,?_⟩⟩;refine aa.AE (s:=⟨eH,0,0⟩) (b:=⟨eH,0,0⟩) ⟨qn _,z7 _,ok.room,by simp[bw.rU],z7 _,by simp[bw.rU]⟩ ?_;exact((c.xT 34 5 1 aE).xT 34 5 1 aE).bs 5 [2,0,1]
theorem WB(n:Nat)(x:cg)(m:aI)(t:dY h x m)(f:db m)(H:aa B h0 h (bj bu a pw (aX x) offs da w ds::As))(E:di w offs=eR)(q:(n:Int)∈aN ds m.drives)(z:ds[n]?=dB (dB d)):
  ac xR 28 #[xJ (dB a),xH xN n] h λv h'=>v=xH xN 0/\aa B h0 h' (bj bu a pw (aX x) offs da w (ds.set n (dB d.rU))::As):=by
 refine CU (dB a) n ?_;unfold Al;have u:=f.dr;refine(Iy H).mono ?_;rintro _ I ⟨rfl,rfl⟩;refine⟨_,i0,bv (λe=>by rw[E]at e;cases e) λe=>?_⟩;refine(eF x m t f H).mono ?_;rintro _ o ⟨r,rfl,i⟩;have y:ii (aN ds m.drives)<=ii m.drives:=qP _ _;refine⟨r,i0,(sv r _ (n:Int) o (i.seq 0 i0 λ_=>rfl)).mono ?_⟩;rintro _ h3 ⟨rfl,rfl⟩;refine⟨_,i0,bm (λj=>absurd q (of_decide_eq_false j)) λj=>?_⟩;have l:=H.up i.ai;obtain⟨ok,p⟩:=aa.cC l;refine(mv (n:Int) ok p).mono ?_;rintro _ F ⟨rfl,rfl⟩;obtain⟨b,c,D⟩:=Go.Vc.aa.ko l z;have g:n<64:=by have:=(qo.1 c).1;rw[ok.la]at this;exact this
 have A:ig da (n:Int)=dB b:=by unfold ig;rw[f9 i4,ql,c];rfl
 rw[A];refine⟨_,i0,(Zm D).mono ?_⟩;rintro _ G ⟨rfl,s⟩;exact⟨(),i0,i0,Go.Vc.aa.AH (k:=bu) (n:=n) c s⟩
end
end Go.Qw
namespace Go.Vc
open Go Wl
section
variable {k:Kit} {B:aB} {h0 h:f8} {As:List HP} {a pw b:fz} {mc:be} {offs:Int} {da:List aT} {w:Pow} {ds:aW} {d:bw} {n:Nat}
theorem Zn(h8:ii mc=8):(cH mc pw offs da).set (10+n) (xJ eH)=cH mc pw offs (da.set n eH):=by unfold cH;rw[q7 _ _ i4,h8,show 10+n-8=n+1+1 by omega,zx,zx,vT]
theorem aa.aed(ok:fS mc da ds)(q:n<64)(H:aa B h0 h (aw a k.tS (cH mc pw offs (da.set n eH))::de k.tP pw w::(fO k pw da ds++As))):aa B h0 h (bj k a pw mc offs (da.set n eH) w (ds.set n eH)::As):=by
 have m:=ok.la;have f:=ok.ls;have l:fS mc (da.set n eH) (ds.set n eH):=⟨ok.l8,by simp[m],nq,λi=>by
  by_cases b:n=i
  ·subst b;rw[qe,qe,zm i4,zm i4];rfl
  ·have:=ok.same i;rw[qe,qe]at this⊢;rw[zG b,zG b];exact this⟩
 have g:=EN (k:=k) (pw:=pw) ok;have d:fO k pw (da.set n eH) (ds.set n eH)=(fO k pw da ds).set n emp:=by
  apply zC;intro j;simp only[fO,qY,List.getElem?_zipWith,List.length_zipWith];by_cases e:n=j
  ·subst e;rw[f9 i0,f9 i4,f9 i0,f9 i4,f9 i0,f9 i4];rfl
  ·simp[e]
 refine aa.po l ?_;rw[d];obtain⟨L,o⟩:∃L,L=fO k pw da ds:=⟨_,rfl⟩
 rw[<-o]at H g⊢;have c:n<ii L:=i4
 have H:=H.fI (n+2) (A:=L[n]) (D:=emp) (by rw[qu,qu,qm c,qd c]) λ_ _=>trivial;have p:(aw a k.tS (cH mc pw offs (da.set n eH))::de k.tP pw w::(L++As)).set (n+2) emp=aw a k.tS (cH mc pw offs (da.set n eH))::de k.tP pw w::(L.set n emp++As):=by rw[zx,zx,vu _ _ c]
 rw[p]at H;exact H
end
end Go.Vc
namespace Go.Qw
open Go Go.Vc Go.Proofs Wl
def Jk(m:aI)(l:aF):aI:={m with seq:=m.seq+1,drives:=l}
def lC(m:aI)(offs:Int)(w:Pow)(ds:aW)(slot cells:Int):Int×aI×Pow×aW:=
 if di w offs then(14,m,w,ds)else if im slot cells=eR then(1,m,w,ds)else if slot∈m.drives then(4,m,w,ds)else if m.seq>=2147483647 then(7,m,w,ds)else
 let r:=cM m offs w (ds.set slot.toNat (dB (bw.new cells.toNat))) (Jk m (gK (m.drives++[slot])))
 (r.1,r.2.1,r.2.2.1,if r.1=7 then r.2.2.2.set slot.toNat eH else r.2.2.2)
section
variable {B:aB} {h0 h:f8} {As:List HP} {a pw b:fz} {offs:Int} {da:List aT} {w:Pow} {ds:aW} {d:bw}
theorem UN(n:Nat)(f:n<64)(x:cg)(H:aa B h0 h (bj bu a pw (aX x) offs da w ds::As)):
  ac xR 89 #[xJ (dB a),xH xN n,xJ eH] h λv h'=>v=.tuple #[]/\aa B h0 h' (bj bu a pw (aX x) offs (da.set n eH) w (ds.set n eH)::As):=by
 refine rI (dB a) n eH ?_;unfold nO;refine bv (λ_=>?_) λe=>j0
 refine aj (λ_=>aj (λ_=>?_) λe=>absurd (show(n:Int)<64 by omega) e) λe=>absurd (show(n:Int)>=0 by omega) e;refine⟨a,i0,⟨i4,i4⟩,?_⟩;rw[ql,z6];obtain⟨ok,c⟩:=Go.Vc.aa.oJ H;have d:(a.add 10).add n=a.add (10+n):=by unfold Addr.add;simp[w9]
 rw[d];refine c.storeAt af 0 i0 i0 i0 i0 i0 (by simp[ok.la];omega) λh' b=>?_;rw[zq,Zn ok.l8]at b;exact⟨i0,aa.aed ok f b⟩
theorem NK(x:cg)(m:aI)(l:dY h x m)(g:db m)(H:aa B h0 h (bj bu a pw (aX x) offs da w ds::As)):
  ac xR 16 #[xJ (dB a)] h λv h'=>∃(y:cg) (L:List (eC×Wl.cb)) (pool:List (Sl×aF)),v=fN y/\(y.1=m.seq/\y.2.1=m.next/\(y.2.2.1,y.2.2.2.1,y.2.2.2.2.1)=m.p/\y.2.2.2.2.2.1=m.extra)/\L.map Prod.snd=m.aG/\(∀p∈L,EK pool p)/\
   Sp h h' [dC 1 aC pool,aq 3 y.2.2.2.2.2.2.1 1 aC m.drives,aq 94 y.2.2.2.2.2.2.2 4 bQ (L.map qJ)]:=by
 refine mU (dB a) ?_;unfold kG;obtain⟨ok,d⟩:=aa.cC H;refine(Sp.refl h).alloc af i0 λs n b=>?_;have c:=d.ai b.ai d.lt;refine bv (λe=>j0) λ_=>⟨a,i0,x,c.aS _ i0,(nC x m n (l.up b.ai) g).mono ?_⟩;rintro _ r ⟨y,L,pool,rfl,i,q,j,k⟩;have o:=b.comp k;refine⟨y,i0,?_⟩;refine o.store af 0 i0 i0 0 (aX y) i0 i0 i0 j9 λh3 f=>?_;exact⟨y,(f.box 0 i0).aS _ i0,y,L,pool,i0,i,q,j,f.ck [1,2,3]⟩
theorem abW(slot cells:Int)(x:cg)(m:aI)(R:bO m=eL)(H:aa B h0 h (bj bu a pw (aX x) offs da w ds::cx x m::As)):
  ac xR 79 #[xJ (dB a),xH xN slot,xH xN cells] h λv h'=>v=xH xN (lC m offs w ds slot cells).1/\
   ∃y Z,aa B h0 h' (bj bu a pw (aX y) offs Z (lC m offs w ds slot cells).2.2.1 (lC m offs w ds slot cells).2.2.2::cx y (lC m offs w ds slot cells).2.1::As):=by
 refine QV (dB a) slot cells ?_;unfold JL;have N:=ka R;have ad:=gv R;obtain⟨g1,g2,g3,g4⟩:=(dE m).1 ((bU m).1 R).1;refine(Iy H).mono ?_;rintro _ h1 ⟨rfl,rfl⟩;refine⟨_,i0,bv (λe=>?_) λK=>?_⟩
 ·have l:lC m offs w ds slot cells=(14,m,w,ds):=by unfold lC;rw[f9 e]
  rw[l];exact⟨i0,x,da,H⟩
 refine(NK x m (H.at 1 i0) N H).mono ?_;rintro _ h2 ⟨y,L,pool,rfl,A,T,hL,R2⟩;have H2:=(H.comp R2).front;refine⟨y,i0,H2.alloc af i0 λa3 h3 Q=>?_⟩;have Q:=Q.bN;refine Q.storeAll af 0 i0 i0 (aX y) i0 i0 i0 i0 λh4 j=>?_;have j:aa B h0 h4 (aw a3 44 (aX y)::dC 1 aC pool::aq 3 y.2.2.2.2.2.2.1 1 aC m.drives::aq 94 y.2.2.2.2.2.2.2 4 bQ (L.map qJ)::bj bu a pw (aX x) offs da w ds::cx x m::As):=j;refine(WA slot cells h4).mono ?_;rintro _ h5 ⟨rfl,rfl⟩;refine⟨_,i0,bm (λz=>?_) λz=>?_⟩
 ·have l:lC m offs w ds slot cells=(1,m,w,ds):=by unfold lC;rw[g0 q5,f9 z]
  rw[l];exact⟨i0,x,da,j.bs 6 [4,5]⟩
 refine⟨y.2.2.2.2.2.2.1,(j.box 0 i0).cell i0,(sv _ m.drives slot h5 (j.seq 2 i0 λ_=>rfl)).mono ?_⟩;rintro _ h6 ⟨rfl,rfl⟩;refine⟨_,i0,bv (λe3=>?_) λe3=>?_⟩
 ·have l:lC m offs w ds slot cells=(4,m,w,ds):=by unfold lC;rw[g0 q5,g0 q6,f9 (hY e3)]
  rw[l];exact⟨i0,x,da,j.bs 6 [4,5]⟩
 have p:slot∉m.drives:=of_decide_eq_false e3;refine⟨y.1,(j.box 0 i0).cell0 i0,aj (λI=>?_) λI=>?_⟩
 ·rw[A.1]at I;have l:lC m offs w ds slot cells=(7,m,w,ds):=by unfold lC;rw[g0 q5,g0 q6,g0 p,f9 I]
  rw[l];exact⟨i0,x,da,j.bs 6 [4,5]⟩
 rw[A.1]at I;have J:=hY z;obtain⟨n,hn⟩:∃n:Nat,slot=n:=⟨slot.toNat,i4⟩
 have s:n<64:=i4
 have H5:aa B h0 h6 (bj bu a pw (aX x) offs da w ds::aw a3 44 (aX y)::dC 1 aC pool::aq 3 y.2.2.2.2.2.2.1 1 aC m.drives::aq 94 y.2.2.2.2.2.2.2 4 bQ (L.map qJ)::cx x m::As):=j.bs 6 [4,0,1,2,3,5];refine(Rm H5).mono ?_;rintro _ h7 ⟨rfl,rfl⟩;refine⟨_,i0,(MU cells pw h7).mono ?_⟩;rintro _ h8 ⟨Q1,_⟩;obtain⟨b,rfl,R8⟩:=Q1 ⟨J.2.1,J.2.2⟩;have H8:=H5.cD R8;subst hn;refine⟨_,i0,(abV n s x H8).mono ?_⟩;rintro _ h9 ⟨rfl,D⟩;obtain⟨c,q⟩:∃c,c=ds.set n (dB (bw.new cells.toNat)):=⟨_,rfl⟩
 rw[<-q]at D;have D:aa B h0 h9 (aw a3 44 (aX y)::aq 3 y.2.2.2.2.2.2.1 1 aC m.drives::dC 1 aC pool::aq 94 y.2.2.2.2.2.2.2 4 bQ (L.map qJ)::bj bu a pw (aX x) offs (da.set n (dB b)) w c::cx x m::As):=D.bs 6 [1,3,2,4,0,5];refine⟨(),i0,y.1,(D.box 0 i0).cell0 i0,?_⟩;dsimp only;rw[A.1,ak (m.seq+1)];refine D.jB af 0 i0 i0 [xH xN (m.seq+1)] i0 i0 i0 j9 λY i=>?_;have i:aa B h0 Y (aw a3 44 (xH xN (m.seq+1)::(aX y).drop 1)::aq 3 y.2.2.2.2.2.2.1 1 aC m.drives::dC 1 aC pool::aq 94 y.2.2.2.2.2.2.2 4 bQ (L.map qJ)::bj bu a pw (aX x) offs (da.set n (dB b)) w c::cx x m::As):=i;refine⟨_,(i.box 0 i0).cell i0,?_⟩;refine i.push af 1 i0 lx i0 i5 (λ_=>rfl) ir (n:Int) i0 i5 i4 λo ao S=>?_;refine S.store af 0 i0 i0 6 [o] i0 i0 i0 j9 λG g=>?_;obtain⟨d,k⟩:∃d:cg,d=(m.seq+1,y.2.1,y.2.2.1,y.2.2.2.1,y.2.2.2.2.1,y.2.2.2.2.2.1,o,y.2.2.2.2.2.2.2):=⟨_,rfl⟩
 have ed:d.2.2.2.2.2.2.1=o:=by rw[k]
 have eo:d.2.2.2.2.2.2.2=y.2.2.2.2.2.2.2:=by rw[k]
 have g:aa B h0 G (aw a3 44 (aX d)::aq 3 d.2.2.2.2.2.2.1 1 aC (m.drives++[(n:Int)])::dC 1 aC pool::aq 94 d.2.2.2.2.2.2.2 4 bQ (L.map qJ)::bj bu a pw (aX x) offs (da.set n (dB b)) w c::cx x m::As):=by rw[ed,eo,k];exact g
 refine⟨_,(g.box 0 i0).cell i0,(HT d.2.2.2.2.2.2.1 (m.drives++[(n:Int)]) G (g.own 1 i0) i7).mono ?_⟩;rintro _ F ⟨rfl,V,U⟩;have f:=g.kX 1 i0 U V;obtain⟨dr,u⟩:∃dr,dr=gK (m.drives++[(n:Int)]):=⟨_,rfl⟩
 rw[<-u]at f;have f:aa B h0 F (aw a3 44 (aX d)::aq 3 d.2.2.2.2.2.2.1 1 aC dr::dC 1 aC pool::aq 94 d.2.2.2.2.2.2.2 4 bQ (L.map qJ)::bj bu a pw (aX x) offs (da.set n (dB b)) w c::cx x m::As):=f;refine⟨(),i0,d,(f.box 0 i0).aS _ i0,?_⟩;obtain⟨M,E⟩:∃M,M=Jk m dr:=⟨_,rfl⟩
 have O:aa B h0 F (cx d M::bj bu a pw (aX x) offs (da.set n (dB b)) w c::cx x m::As):=aa.EL (m:=M) (L:=L) (pool:=pool) (by rw[E,k];exact⟨i0,A.2.1,A.2.2.1,A.2.2.2⟩) (by rw[E];exact T) hL (by rw[E];exact f.bs 6 [2,1,3,4,5]);have ab:db M:=by rw[E];exact⟨by show dr.length<=_;rw[u,GC];simp;omega,N.ob,N.nm⟩
 refine(Kh x m d M (As:=cx d M::As) (St.gI 0 i0 λ_ hq=>hq) N ab i4 (O.bs 3 [1,2,0])).mono ?_;rintro _ ah ⟨rfl,P,t⟩;have l:lC m offs w ds n cells=((cM m offs w c M).1,(cM m offs w c M).2.1,(cM m offs w c M).2.2.1,if(cM m offs w c M).1=7 then(cM m offs w c M).2.2.2.set n eH else(cM m offs w c M).2.2.2):=by unfold lC;rw[g0 q5,g0 q6,g0 p,g0 I,E,u,q];rfl
 rw[l];obtain⟨r,hr⟩:∃r,r=cM m offs w c M:=⟨_,rfl⟩
 rw[<-hr]at t⊢;refine⟨_,i0,bg (cu (λX=>?_) λX=>?_)⟩
 ·refine(UN n s P (t.bs 3 [0,1])).mono ?_;rintro _ am ⟨rfl,W⟩;exact⟨(),i0,i0,P,_,by rw[f9 X];exact W⟩
 ·exact⟨i0,P,_,by rw[g0 X];exact t.bs 3 [0,1]⟩
end
section
variable {B:aB} {h0 h:f8} {As:List HP} {a pw:fz} {offs:Int} {da:List aT} {w:Pow} {ds:aW} {mc:be}
theorem Iz{k:Int}{d:bw}(e:bC ds k=dB d)(H:aa B h0 h (bj bu a pw mc offs da w ds::As)):∃(b:fz) (s f:Sl),ig da k=dB b/\cA h b 156 (ff pw d s f)/\fF h s 1 aE d.l/\eV d:=by
 obtain⟨ok,_⟩:=aa.cC H;rcases nc ok k with⟨h1,_⟩|⟨n,d',b,rfl,hn,h1,h2,h3,h4⟩
 ·rw[h1]at e;cases e
 ·rw[h2]at e;injection e with e
  subst e;obtain⟨m,c,j⟩:=Go.Vc.aa.ko H h1;rw[h3]at c;injection c with c
  injection c with c
  subst c;obtain⟨g,s,f,i⟩:=aa.rj j;exact⟨b,s,f,h4,i.box 0 i0,(i.bs 2 [1,0]).LH λ_=>rfl,g⟩
theorem aib{k:Int}(c:bC ds k=eH)(H:aa B h0 h (bj bu a pw mc offs da w ds::As)):ig da k=eH:=by
 obtain⟨ok,_⟩:=aa.cC H;rcases nc ok k with⟨_,h2⟩|⟨n,d',b,rfl,hn,h1,h2,h3,h4⟩
 ·exact h2
 ·rw[h2]at c;cases c
theorem UO{k:Int}(H:aa B h0 h (bj bu a pw mc offs da w ds::As)):ac xR 35 #[xJ (dB a),xH xN k] h λv h'=>v=.pointer (ig da k)/\h'=h:=by obtain⟨ok,b⟩:=aa.cC H;exact mv k ok b
theorem IA{k:Int}{d:bw}{b:fz}(x:cg)(m:aI)(p:bC ds k=dB d)(e:ig da k=dB b)(j:dY h x m)(f:db m)(H:aa B h0 h (bj bu a pw mc offs da w ds::As)):
  ac xR 34 #[xJ (dB b),fN x] h λv h'=>v=xL (iq m d.l)/\Sp h h' []:=by
 obtain⟨q,s,i,c,o,g,n⟩:=Iz p H;rw[e]at c;injection c with c
 subst c;exact YJ b pw d s i x m h o g n j f
end
def dF(a pw:fz)(b:List aT)(offs:Int)(w:Pow)(ds:aW)(m:aI):HP:=HP.ex λx:cg=>(bj bu a pw (aX x) offs b w ds).sep (cx x m)
section
variable {B:aB} {h0 h:f8} {As:List HP} {a pw:fz} {offs:Int} {da:List aT} {w:Pow} {ds:aW} {m:aI}
theorem gf(H:aa B h0 h (dF a pw da offs w ds m::As)):∃x,aa B h0 h (bj bu a pw (aX x) offs da w ds::cx x m::As):=by obtain⟨x,H⟩:=H.DV;exact⟨x,H.Gy.sV⟩
theorem nl{x:cg}(H:aa B h0 h (bj bu a pw (aX x) offs da w ds::cx x m::As)):aa B h0 h (dF a pw da offs w ds m::As):=
 aa.Gx (F:=λx:cg=>(bj bu a pw (aX x) offs da w ds).sep (cx x m)) x H.sV.ov
end
section
variable {B:aB} {h0 h:f8} {As:List HP} {a pw:fz} {offs:Int} {da:List aT} {w:Pow} {ds:aW} {m:aI}
theorem NL(H:aa B h0 h (dF a pw da offs w ds m::As)):ii ds=64/\∀k d,bC ds k=dB d->ii d.l<=d.room/\d.room<=512/\eV d:=by obtain⟨x,H⟩:=gf H;obtain⟨ok,_⟩:=aa.cC H;refine⟨ok.ls,λk d e=>?_⟩;obtain⟨b,s,f,_,_,_,c⟩:=Iz e H;exact⟨c.len,c.room,c⟩
theorem NM(p:Pm)(extra:Int)(s:Sl)(l:aF)(d:St B h0 As λh=>Rd h s 1 aC l)(e:ii l<=64)(g:sn p extra l=0)(c:w=Pow.new)(H:aa B h0 h (de 92 pw w::As)):
  ac xR 8 #[jU p,xH xN extra,xJ (dB pw),s] h λv h'=>∃(a:fz) (da:List aT) (D:aW),v=.tuple #[xJ (dB a),xH xN 0]/\D.length=64/\
   (∀s,bC D s=if s∈bp l l.length then dB ⟨(l.getD s.toNat 0).toNat,bo (cw p extra l),0,[],eR,eR⟩else eH)/\aa B h0 h' (dF a pw da 0 Pow.new D (cw p extra l)::As):=by
 subst c;obtain⟨D,k,i,f⟩:=abv (p:=p) (extra:=extra) (l:=l) e g;refine(Wb p extra s l d i4 H).mono ?_;rintro _ h' ⟨_,b⟩;rw[k]at b;obtain⟨a,y,da,rfl,j⟩:=b rfl;exact⟨a,da,D,i0,i,f,nl j⟩
theorem agr(name:ByteArray)(s:Sl)(b:bc)(g:St B h0 As λh=>Rd h s 1 aE b)(d:s.len<=s.cap)(k:name.size<=2^40)(c:bO m=eL)(e:ii b<=2^20)(H:aa B h0 h (dF a pw da offs w ds m::As)):
  ac xR 10 #[xJ (dB a),xK name,s] h λv h'=>v=xH xN (gE m offs w ds name b).1/\
   aa B h0 h' (dF a pw da offs (gE m offs w ds name b).2.2.1 (gE m offs w ds name b).2.2.2 (gE m offs w ds name b).2.1::As):=by
 obtain⟨x,H⟩:=gf H;obtain⟨l,n,i,f⟩:=(dE m).1 ((bU m).1 c).1;refine(adG x m name s b g d k (ka c) i f (kE c) (gv c) i4 i4 e H).mono ?_;rintro _ h' ⟨rfl,y,j⟩;exact⟨i0,nl j⟩
theorem ags(slot cells:Int)(d:bO m=eL)(H:aa B h0 h (dF a pw da offs w ds m::As)):
  ac xR 79 #[xJ (dB a),xH xN slot,xH xN cells] h λv h'=>v=xH xN (lC m offs w ds slot cells).1/\
   ∃b,aa B h0 h' (dF a pw b offs (lC m offs w ds slot cells).2.2.1 (lC m offs w ds slot cells).2.2.2 (lC m offs w ds slot cells).2.1::As):=by
 obtain⟨x,H⟩:=gf H;refine(abW slot cells x m d H).mono ?_;rintro _ h' ⟨rfl,y,b,c⟩;exact⟨i0,b,nl c⟩
theorem AV(b:bO m=eL)(H:aa B h0 h (dF a pw da offs w ds m::As)):
  ac xR 25 #[xJ (dB a)] h λv h'=>∃r:Sl,v=r/\Sp h h' [aq 3 r 1 aC (aN ds m.drives)]:=by
 obtain⟨x,H⟩:=gf H;exact eF x m (H.at 1 i0) (ka b) H
theorem UP(b:bO m=eL)(H:aa B h0 h (dF a pw da offs w ds m::As)):
  ac xR 16 #[xJ (dB a)] h λv h'=>∃y:cg,v=fN y/\Sp h h' [cx y m]:=by
 obtain⟨x,H⟩:=gf H;exact Pb x m (H.at 1 i0) (ka b) H
theorem QG(k:Int)(H:aa B h0 h (dF a pw da offs w ds m::As)):ac xR 35 #[xJ (dB a),xH xN k] h λv h'=>v=.pointer (ig da k)/\h'=h:=by obtain⟨x,H⟩:=gf H;exact UO H
theorem Xs{k:Int}{d:bw}(e:bC ds k=dB d)(H:aa B h0 h (dF a pw da offs w ds m::As)):∃b,ig da k=dB b:=by obtain⟨x,H⟩:=gf H;obtain⟨b,_,_,c,_⟩:=Iz e H;exact⟨b,c⟩
theorem abX{k:Int}(b:bC ds k=eH)(H:aa B h0 h (dF a pw da offs w ds m::As)):ig da k=eH:=by obtain⟨x,H⟩:=gf H;exact aib b H
theorem abY{k:Int}{d:bw}{b:fz}(z:cg)(n:aI)(g:bC ds k=dB d)(c:ig da k=dB b)(f:dY h z n)(e:db n)(H:aa B h0 h (dF a pw da offs w ds m::As)):
  ac xR 34 #[xJ (dB b),fN z] h λv h'=>v=xL (iq n d.l)/\Sp h h' []:=by
 obtain⟨x,H⟩:=gf H;exact IA z n g c f e H
theorem aee{k:Int}{d:bw}{b:fz}(n:bC ds k=dB d)(f:ig da k=dB b)(H:aa B h0 h (dF a pw da offs w ds m::As)):∃s e:Sl,cA h b 156 (ff pw d s e)/\fF h s 1 aE d.l/\eV d:=by
 obtain⟨x,H⟩:=gf H;obtain⟨o,s,e,c,j,g,i⟩:=Iz n H;rw[f]at c;injection c with c
 subst c;exact⟨s,e,j,g,i⟩
theorem abZ(o b:Int)(e:bO m=eL)(H:aa B h0 h (dF a pw da offs w ds m::As)):
  ac xR 18 #[xJ (dB a),xH xN o,xH xN b] h λv h'=>∃r:Sl,v=r/\Sp h h' [gy 22 r 3 1 aC (fT m ds o b (aN ds m.drives))]:=by
 have c:=(NL H).2;obtain⟨x,H⟩:=gf H;exact YH x m o b (H.at 1 i0) (ka e) (gv e) (λk d f=>by have:=c k d f;omega) H
theorem aef(H:aa B h0 h (dF a pw da offs w ds m::As)):ac xR 57 #[xJ (dB a)] h λv h'=>v=xL (di w offs)/\h'=h:=by obtain⟨x,H⟩:=gf H;exact si H
end
end Go.Qw
namespace Wl
open Go Go.Qw Go.Vc
def um(m:aI)(i:Nat):aI:={m with seq:=m.seq+1,aG:=m.aG.take i++m.aG.drop (i+1)}
def dV(m:aI)(offs:Int)(w:Pow)(ds:aW)(name:ByteArray):Int×aI×Pow×aW:=
 if di w offs then(14,m,w,ds)else if m.aG.any (dP name)=eR then(5,m,w,ds)else if m.seq>=2147483647 then(7,m,w,ds)else
 cM m offs w ds (um m (m.aG.findIdx (dP name)))
end Wl
namespace Go.Vc
open Go
theorem UQ{C:Ctx}{t e k:Nat}{z:be}{b:Nat}{h:f8}{s:Sl}(a:C.Ok)(c:bL C.toCM t e k z b){x y u:Int}(i j n:Nat)(p:x=i)(D:y=j)(r:u=n)(F:i<=j)(f:j<=n)(h3:n<=s.cap){K:Sl->f8->Prop}(J:∀v,K v h):
  az C.P (wW t (xI s.ptr s.len s.cap) (dB (xH xN x)) (dB (xH xN y)) (dB (xH xN u))) (.one (.sc .slc)) h K:=by
 subst p;subst D;subst r;have d:aH C.P (we eL s.len s.cap (dB (xH xN (i:Int))) (dB (xH xN (j:Int))) (dB (xH xN (n:Int)))) (i,j,n):=λw=>by
  have L:¬((n:Int)<0):=i4
  have x2:¬((s.cap:Int)<(n:Int)):=i4
  have x3:(n:Int)<=(s.cap:Int):=i4
  have I:(0:Int)<=(n:Int):=i4
  have o:(0:Int)<=(j:Int):=i4
  have H:(0:Int)<=(i:Int):=i4
  have E:(j:Int)<=(n:Int):=i4
  have B:(i:Int)<=(j:Int):=i4
  have g:¬((j:Int)<0):=i4
  have G:¬((i:Int)<0):=i4
  have m:¬((n:Int)<(j:Int)):=i4
  have l:¬((j:Int)<(i:Int)):=i4
  have M:¬(n<j):=i4
  have A:¬(j<i):=i4
  have q:¬(s.cap<n):=i4
  simp[we,Instr.sliceBound,asIntOf,L,x2,x3,I,o,H,E,B,g,G,m,l,M,A,q,F,f,h3]
 unfold az wW;refine ag.bind (ag.always (aJ (c.under a)) ?_);show ag C.P (xo t (xI s.ptr s.len s.cap) (dB (xH xN (i:Int))) (dB (xH xN (j:Int))) (dB (xH xN (n:Int)))) h _;unfold xo;refine ag.bind (ag.always (aJ (c.under a)) ?_);refine ag.bind (ag.always d ?_);refine ag.bind (ag.always (c.size a) ?_);exact ag.pure' ⟨⟨_,_,_⟩,i0,J _⟩
end Go.Vc
namespace Go.Qw
open Go Go.Vc Go.Proofs Wl
section
variable {B:aB} {h0 h:f8} {As:List HP} {a pw:fz} {offs:Int} {da:List aT} {w:Pow} {ds:aW} {m:aI} {s:Sl}
theorem WC(d:List eC)(i:Nat)(m:i<ii d)(q:ii d<=2^30)(H:aa B h0 h (aq 94 s 4 bQ d::As)):
  ac xR 144 #[s,xH xN i,xH xN (i+1)] h λv h'=>∃r:Sl,v=r/\aa B h0 h' (aq 94 r 4 bQ (d.take i++d.drop (i+1))::As):=by
 refine mI s i (i+1) ?_;unfold iQ;have c:=H.own 0 i0;have p:=c.len;have k:=c.cap;refine UQ af OW i (i+1) s.len i0 i0 i0 i4 i4 k λ_=>?_;refine cu (λe=>absurd e i4) λ_=>⟨⟨i4,i4⟩,⟨i4,i4⟩,?_⟩
 have j:((i:Int)+1).toNat=i+1:=i4
 rw[j,ql];refine H.Ou af 0 i0 OW ⟨_,_,i0,i0⟩ (λ_=>rfl) OV i m λl a=>⟨trivial,⟨i4,i6,i6⟩,?_⟩
 have a:aa B h0 l (aq 94 s 4 bQ ((d.take i++d.drop (i+1))++d.drop (ii d-1))::As):=a;have b:ii (d.take i++d.drop (i+1))=ii d-1:=i7
 dsimp only;rw[ql,ql];refine a.oR af 0 i0 OW (λ_=>rfl) i0 (by intro v f;simp at f;rcases f with rfl|rfl|rfl<;>rfl) (ii d-1) i7 λo g=>?_;have n:((d.take i++d.drop (i+1))++d.drop (ii d-1)).take (ii d-1)=d.take i++d.drop (i+1):=by rw[<-b,List.take_left]
 rw[n]at g;exact⟨⟨s.ptr,ii d-1,s.cap⟩,i0,g⟩
theorem UR(name:ByteArray)(x:cg)(m:aI)(E:bO m=eL)(H:aa B h0 h (bj bu a pw (aX x) offs da w ds::cx x m::As)):
  ac xR 75 #[xJ (dB a),xK name] h λv h'=>v=xH xN (dV m offs w ds name).1/\
   ∃y,aa B h0 h' (bj bu a pw (aX y) offs da (dV m offs w ds name).2.2.1 (dV m offs w ds name).2.2.2::cx y (dV m offs w ds name).2.1::As):=by
 refine Co (dB a) name ?_;unfold pT;have q:=ka E;have T:=gv E;obtain⟨g1,g2,g3,g4⟩:=(dE m).1 ((bU m).1 E).1;have W:=((bU m).1 E).2.2.2.1;refine(pu H).mono ?_;rintro _ h1 ⟨rfl,rfl⟩;refine⟨_,i0,bv (λe=>?_) λN=>?_⟩
 ·have k:dV m offs w ds name=(14,m,w,ds):=by unfold dV;rw[f9 e]
  rw[k];exact⟨i0,x,H⟩
 refine(find_spec x m name (H.at 1 i0) q H).mono ?_;rintro _ S ⟨⟨i,rfl,hi⟩,X⟩;have z:=H.up X.ai;refine⟨i,i0,?_⟩;rcases hi with⟨rfl,hno⟩|⟨n,hn,rfl,d,hbef⟩
 ·refine aj (λ_=>?_) λe=>absurd i5 e;have k:dV m offs w ds name=(5,m,w,ds):=by unfold dV;rw[g0 (by rw[N];decide),f9 hno]
  rw[k];exact⟨i0,x,z⟩
 have f:m.aG.any (dP name)=eL:=zV.2 ⟨_,qg hn,d⟩;have A:m.aG.findIdx (dP name)=n:=by rw[List.findIdx_eq hn];refine⟨d,λj hj=>?_⟩;have:=zW.1 hbef (m.aG[j]'(by omega)) (List.mem_take_iff_getElem.2 ⟨j,i4,i0⟩);simpa using this
 have s:=(aa.cC z).2;have D:dY S x m:=z.at 1 i0;dsimp only;refine aj (λe=>absurd e (Int.not_lt.2 (zY n))) λ_=>⟨a,i0,x.1,s.cell0 i0,?_⟩
 rw[D.seq];refine aj (λK=>?_) λK=>?_
 ·have k:dV m offs w ds name=(7,m,w,ds):=by unfold dV;rw[g0 (by rw[N];decide),g0 (by rw[f];decide),f9 K]
  rw[k];exact⟨i0,x,z⟩
 refine⟨a,i0,x,s.aS _ i0,(nC x m S D q).mono ?_⟩;rintro _ h3 ⟨y,L,pool,rfl,F,t,V,R3⟩;have H3:=(z.comp R3).front;refine⟨y,i0,H3.alloc af i0 λa3 h4 Q=>?_⟩;have Q:=Q.bN;refine Q.storeAll af 0 i0 i0 (aX y) i0 i0 i0 i0 λh5 G=>?_;have G:aa B h0 h5 (aw a3 44 (aX y)::dC 1 aC pool::aq 3 y.2.2.2.2.2.2.1 1 aC m.drives::aq 94 y.2.2.2.2.2.2.2 4 bQ (L.map qJ)::bj bu a pw (aX x) offs da w ds::cx x m::As):=G;refine⟨y.1,(G.box 0 i0).cell0 i0,?_⟩;dsimp only;rw[F.1,ak (m.seq+1)];refine G.jB af 0 i0 i0 [xH xN (m.seq+1)] i0 i0 i0 j9 λh6 r=>?_;have r:aa B h0 h6 (aw a3 44 (xH xN (m.seq+1)::(aX y).drop 1)::dC 1 aC pool::aq 3 y.2.2.2.2.2.2.1 1 aC m.drives::aq 94 y.2.2.2.2.2.2.2 4 bQ (L.map qJ)::bj bu a pw (aX x) offs da w ds::cx x m::As):=r;refine⟨_,(r.box 0 i0).cell i0,?_⟩;have Z:ii L=ii m.aG:=by rw[<-t,qy]
 have r:=r.bs 6 [3,0,1,2,4,5];rw[ak ((n:Int)+1)];refine(WC (L.map qJ) n m0 m0 r).mono ?_;rintro _ h7 ⟨o,rfl,R⟩;have R:aa B h0 h7 (aw a3 44 (xH xN (m.seq+1)::(aX y).drop 1)::dC 1 aC pool::aq 3 y.2.2.2.2.2.2.1 1 aC m.drives::aq 94 o 4 bQ ((L.map qJ).take n++(L.map qJ).drop (n+1))::bj bu a pw (aX x) offs da w ds::cx x m::As):=R.bs 6 [1,2,3,0,4,5];refine⟨o,i0,R.store af 0 i0 i0 7 [o] i0 i0 i0 j9 λh8 I=>?_⟩;obtain⟨b,c⟩:∃b:cg,b=(m.seq+1,y.2.1,y.2.2.1,y.2.2.2.1,y.2.2.2.2.1,y.2.2.2.2.2.1,y.2.2.2.2.2.2.1,o):=⟨_,rfl⟩
 have Y:b.2.2.2.2.2.2.1=y.2.2.2.2.2.2.1:=by rw[c]
 have U:b.2.2.2.2.2.2.2=o:=by rw[c]
 obtain⟨L2,g⟩:∃L2,L2=L.take n++L.drop (n+1):=⟨_,rfl⟩
 have J:L2.map qJ=(L.map qJ).take n++(L.map qJ).drop (n+1):=by rw[g,qT,List.map_take,List.map_drop]
 have I:aa B h0 h8 (aw a3 44 (aX b)::dC 1 aC pool::aq 3 b.2.2.2.2.2.2.1 1 aC m.drives::aq 94 b.2.2.2.2.2.2.2 4 bQ (L2.map qJ)::bj bu a pw (aX x) offs da w ds::cx x m::As):=by rw[Y,U,J,c];exact I
 refine⟨b,(I.box 0 i0).aS _ i0,?_⟩;obtain⟨M,u⟩:∃M,M=um m n:=⟨_,rfl⟩
 have H9:aa B h0 h8 (cx b M::bj bu a pw (aX x) offs da w ds::cx x m::As):=aa.EL (m:=M) (L:=L2) (pool:=pool) (by rw[u,c];exact⟨i0,F.2.1,F.2.2.1,F.2.2.2⟩)
  (by rw[u,g,qT,List.map_take,List.map_drop,t];rfl) (λp d=>V p (by
   rw[g]at d;rcases qz.1 d with d|d
   ·exact zD d
   ·exact List.mem_of_mem_drop d)) (by rw[u];exact I.bs 6 [1,2,3,4,5])
 have O:db M:=by
  rw[u];have sub:∀e,e∈m.aG.take n++m.aG.drop (n+1)->e∈m.aG:=λe l=>by
   rcases qz.1 l with l|l
   ·exact zD l
   ·exact List.mem_of_mem_drop l
  refine⟨q.dr,?_,?_⟩
  ·have:=q.ob;show(m.aG.take n++m.aG.drop (n+1)).length<=_;simp;omega
  ·exactλe l=>q.nm e (sub e l)
 refine(Kh x m b M (As:=cx b M::As) (St.gI 0 i0 λ_ hq=>hq) q O i4 (H9.bs 3 [1,2,0])).mono ?_;rintro _ ab ⟨rfl,y3,P⟩;have k:dV m offs w ds name=cM m offs w ds M:=by unfold dV;rw[g0 (by rw[N];decide),g0 (by rw[f];decide),g0 K,A,u]
 rw[k];exact⟨_,i0,i0,y3,P.bs 3 [0,1]⟩
theorem Zo(name:ByteArray)(c:bO m=eL)(H:aa B h0 h (dF a pw da offs w ds m::As)):
  ac xR 75 #[xJ (dB a),xK name] h λv h'=>v=xH xN (dV m offs w ds name).1/\
   aa B h0 h' (dF a pw da offs (dV m offs w ds name).2.2.1 (dV m offs w ds name).2.2.2 (dV m offs w ds name).2.1::As):=by
 obtain⟨x,H⟩:=gf H;refine(UR name x m c H).mono ?_;rintro _ h' ⟨rfl,y,b⟩;exact⟨i0,nl b⟩
end
section
variable {B B':aB} {h0 h0' h h':f8} {As As':List HP} {a b pw pw2:fz} {d:bw}
end
section
variable {B:aB} {h0 h:f8} {As:List HP} {a a2 pw pw2:fz} {mc:be} {offs:Int} {da da2:List aT} {w:Pow} {ds:aW}
end
section
variable {B:aB} {h0 h:f8} {As:List HP} {a pw b:fz} {x:cg} {offs:Int} {da:List aT} {w:Pow} {ds:aW} {d:bw}
end
end Go.Qw
namespace Go.Vc
open Go Wl Go.Qw
def sw(l:aF)(k:Nat):Int:=l.getD k 0
def iK(l:aF):Pm:=DE (sw l 0) (sw l 1) (sw l 2)
def un(l:aF):Nat:=(2+sw l 4%4).toNat
def Fa(l:aF):aF:=(qE (un l)).map λi=>8+sw l (5+i)%50
def Zp(l:aF):Int:=sw l 3%7
theorem Xt(l:aF):2<=un l/\un l<=5:=by unfold un;omega
theorem US(l:aF):ii (Fa l)=un l:=by simp[Fa]
end Go.Vc
namespace Go.Qw
open Go Go.Vc Go.Proofs Wl
section
variable {B:aB} {h0 h:f8} {As:List HP} {a pw:fz} {offs:Int} {da:List aT} {w:Pow} {ds:aW}
theorem sA(s:Sl)(l:aF)(k:Nat)(h:f8)(b:Rd h s 1 aC l):ac xR 38 #[s,xH xN k] h λv h'=>v=xH xN (sw l k)/\h'=h:=by
 refine Cn s k ?_;unfold pS sw;have c:=b.len;refine aj (λe=>?_) (λe=>⟨?_,i0⟩)
 ·have a:k<ii l:=i4
  refine b.bB k i0 a (l.getD k 0) (by rw[getD_lt a];rfl) ⟨i0,i0⟩
 ·rw[qe,qZ i4];rfl
theorem WD(s:Sl)(l:aF)(h:f8)(w:Rd h s 1 aC l):ac xR 7 #[s] h λv h'=>∃r:Sl,v=.tuple #[jU (iK l),xH xN (Zp l),r]/\Sp h h' [aq 3 r 1 aC (Fa l)]:=by
 refine uM s ?_;unfold nI;refine(Sp.refl h).alloc af i0 λu H p=>?_;have b:=w.up p.ai;refine(sA s l 0 H b).mono ?_;rintro _ _ ⟨rfl,rfl⟩;refine⟨_,i0,(sA s l 1 _ b).mono ?_⟩;rintro _ _ ⟨rfl,rfl⟩;refine⟨_,i0,(sA s l 2 _ b).mono ?_⟩;rintro _ z ⟨rfl,rfl⟩;refine⟨_,i0,(YQ _ _ _ z).mono ?_⟩;rintro _ Q ⟨rfl,G⟩;have K:=p.up G.ai;refine⟨iK l,i0,?_⟩;refine K.alloc af i0 λf N B=>?_;refine B.storeAll af 1 i0 i0 [xH xN (iK l).1,xH xN (iK l).2.1,xH xN (iK l).2.2] i0 i0 i0 i0 λD n=>?_;have n:Sp h D [aq 3 ⟨eH,0,0⟩ 1 aC ((Fa l).take 0),aw f 24 [xH xN (iK l).1,xH xN (iK l).2.1,xH xN (iK l).2.2],aw u 24 [xH xN 0,xH xN 0,xH xN 0]]:=(n.nil 3 1 aC).ck [2,1,0];have O:=Xt l;have F:=US l;refine av (λt:Sl×Nat=>(t.1,(t.2:Int))) (λt h'=>t.2<=un l/\Sp h h' [aq 3 t.1 1 aC ((Fa l).take t.2),aw f 24 [xH xN (iK l).1,xH xN (iK l).2.1,xH xN (iK l).2.2],aw u 24 [xH xN 0,xH xN 0,xH xN 0]]) (λt=>un l-t.2) (⟨eH,0,0⟩,0) i0 ⟨i9,n⟩ ?_;rintro⟨o,i⟩ h8 ⟨P,d⟩;dsimp only at*;have a:=w.up d.ai;refine(sA s l 4 h8 a).mono ?_;rintro _ _ ⟨rfl,rfl⟩;refine⟨_,i0,(bZ _ 4 _ i5 i5).mono ?_⟩;rintro _ h8 ⟨rfl,rfl⟩;refine⟨_,i0,?_⟩;have g:=d.box 1 i0;dsimp only;rw[ak (2+sw l 4%4)];have j:2+sw l 4%4=(un l:Int):=by unfold un;omega
 rw[j];refine aj (λe=>?_) (λe=>?_)
 ·have J:i<un l:=i4
  rw[ak ((5:Int)+i)];have L:(5:Int)+i=((5+i:Nat):Int):=i4
  rw[L];refine(sA s l (5+i) h8 a).mono ?_;rintro _ _ ⟨rfl,rfl⟩;refine⟨_,i0,(bZ _ 50 _ i5 i5).mono ?_⟩;rintro _ A ⟨rfl,rfl⟩;refine⟨_,i0,?_⟩;dsimp only;rw[ak (8+sw l (5+i)%50)];refine d.push af 0 i0 lx i0 i5 (λ_=>rfl) ir (8+sw l (5+i)%50) i0 i5 i7 λM y k=>?_;refine⟨(M,i+1),jj,⟨i6,?_⟩,i6⟩;dsimp only;rw[aK _ _ (show i<ii (Fa l) by omega)];have x:(Fa l)[i]'(by omega)=8+sw l (5+i)%50:=by simp[Fa]
  rw[x];exact k
 ·have m:i=un l:=i4
  subst m;rw[qi i4]at d;have q:aA.ok [(f,(xH xN (iK l).1)),(f.add 1,(xH xN (iK l).2.1)),(f.add 2,(xH xN (iK l).2.2))] h8:=⟨g.cell0 i0,g.cell i0,g.cell i0,trivial⟩
  refine⟨iK l,g.aS _ i0,(sA s l 3 h8 a).mono ?_⟩;rintro _ _ ⟨rfl,rfl⟩;refine⟨_,i0,q,(bZ _ 7 _ i5 i5).mono ?_⟩;rintro _ I ⟨rfl,rfl⟩;refine⟨_,i0,q,?_⟩;refine d.storeAll af 2 i0 i0 [xH xN (iK l).1,xH xN (iK l).2.1,xH xN (iK l).2.2] i0 i0 i0 i0 λE c=>⟨trivial,?_⟩
  exact⟨iK l,(c.box 2 i0).aS _ i0,o,i0,c.ck [0]⟩
end
end Go.Qw
namespace Wl
structure Mv where
 kind:Int
 name:ByteArray
 data:bc
 slot:Int
 n:Int
 m:Int
 mask:Int
 keeps:aF
 torns:aF
def IB:List ByteArray:=[⟨#[97]⟩,⟨#[98]⟩,⟨#[99,97,116,45,55]⟩,⟨#[100]⟩,⟨#[101,49,50,51,52,53,54,55,56,57,48,49]⟩]
def kM(p:Int×Int×Int)(b:Mv):Prop:=
 (b.kind=1/\b.name∈IB/\(ii b.data:Int)<=3*(p.1*p.2.2)+1)∨((b.kind=2∨b.kind=3∨b.kind=5)/\b.name∈IB)∨b.kind=4∨
 (b.kind=6/\(0<=b.slot/\b.slot<9)/\6<=b.n/\b.n<66)∨(b.kind=7/\0<=b.slot/\b.slot<8)∨(b.kind=8/\(0<=b.slot/\b.slot<8)/\6<=b.n/\b.n<66)∨(b.kind=9/\0<=b.slot/\b.slot<8)∨
 (b.kind=10/\(-1<=b.n/\b.n<=7)/\-1<=b.m/\b.m<=68)∨(b.kind=11/\(0<=b.slot/\b.slot<7)/\(0<=b.n/\b.n<40)/\(0<=b.m/\b.m<61)/\0<=b.mask/\b.mask<4294967296)
def UT(b:Mv):Prop:=b=⟨b.kind,if b.kind=1∨b.kind=2∨b.kind=3∨b.kind=5 then b.name else⟨#[]⟩,if b.kind=1 then b.data else[],if b.kind=6∨b.kind=7∨b.kind=8∨b.kind=9∨b.kind=11 then b.slot else 0,
 if b.kind=6∨b.kind=8∨b.kind=10∨b.kind=11 then b.n else 0,if b.kind=10∨b.kind=11 then b.m else 0,if b.kind=11 then b.mask else 0,[],[]⟩
end Wl
namespace Go.Vc
open Go Wl
abbrev mC(s:ByteArray):be:=[xK s]
abbrev UU:=Int×ByteArray×Sl×Int×Int×Int×Int×Sl×Sl
abbrev oq(x:UU):be:=[xH xN x.1,xK x.2.1,x.2.2.1,xH xN x.2.2.2.1,xH xN x.2.2.2.2.1,xH xN x.2.2.2.2.2.1,xH xP x.2.2.2.2.2.2.1,x.2.2.2.2.2.2.2.1,x.2.2.2.2.2.2.2.2]
abbrev mvV(x:UU):Value:=xM #[xH xN x.1,xK x.2.1,x.2.2.1,xH xN x.2.2.2.1,xH xN x.2.2.2.2.1,xH xN x.2.2.2.2.2.1,xH xP x.2.2.2.2.2.2.1,x.2.2.2.2.2.2.2.1,x.2.2.2.2.2.2.2.2]
def lX:iM UU Mv:=⟨λh q a b=>(a.1=b.kind/\a.2.1=b.name/\a.2.2.2.1=b.slot/\a.2.2.2.2.1=b.n/\a.2.2.2.2.2.1=b.m/\a.2.2.2.2.2.2.1=b.mask/\a.2.2.1.len<=a.2.2.1.cap)/\Seq h q a.2.2.1 1 aE b.data/\Seq h q a.2.2.2.2.2.2.2.1 1 aC b.keeps/\Seq h q a.2.2.2.2.2.2.2.2 1 aC b.torns,
 λa d=>⟨a.1,a.2.1.ai d,a.2.2.1.ai d,a.2.2.2.ai d⟩,λa c=>⟨a.1,a.2.1.mono c,a.2.2.1.mono c,a.2.2.2.mono c⟩⟩
theorem agt:∀x,∀c∈mC x,c.oneCell'=eL:=by intro x c a;simp[mC]at a;subst a;rfl
theorem aic:∀x,∀c∈oq x,c.oneCell'=eL:=by intro x c a;simp[oq]at a;rcases a with rfl|rfl|rfl|rfl|rfl|rfl|rfl|rfl|rfl<;>rfl
end Go.Vc
namespace Go.Qw
open Go Go.Vc Go.Proofs Wl
abbrev aid:bL C.toCM 37 9 1 [xK ⟨#[]⟩] 16:=⟨_,_,i0,i0,i0,i0,i0,i0⟩
abbrev zMv:be:=[xH xN 0,xK ⟨#[]⟩,xI eH 0 0,xH xN 0,xH xN 0,xH xN 0,xH xP 0,xI eH 0 0,xI eH 0 0]
abbrev eMv:bL C.toCM 132 135 9 zMv 128:=⟨_,_,i0,i0,i0,i0,i0,i0⟩
theorem uV(n:Int)(h:f8):ac xR 211 #[xH xN n] h λv h'=>∃s∈IB,v=xK s/\Sp h h' []:=by refine Be n ?_;unfold ph;refine(Sp.refl h).lit af mC aid i0 IB i0 i5 j1 λe b a=>?_;refine(bZ n 5 b i5 i5).mono ?_;rintro _ c ⟨rfl,rfl⟩;have f:=yc n (show(5:Int)≠0 by decide);have d:=wh n (show(0:Int)<5 by decide);have g:ii IB=5:=rfl;refine⟨_,i0,(a.seq 0 i0 λ_=>rfl).bB (n%5).toNat i4 i4 (IB[(n%5).toNat]'(by omega)) i0 ⟨_,qg _,i0,.zip a.ai⟩⟩
theorem Zq(p:Pm)(k a b:Int)(h:f8)(Z:bI p=eL):ac xR 143 #[jU p,xH xN k,xH xN a,xH xN b] h λv h'=>∃(x:UU) (m:Mv),v=mvV x/\kM p m/\UT m/\Sp h h' [EA lX x m]:=by
 refine Bb p k a b ?_;unfold pc;obtain⟨⟨Q,R⟩,_,X,V⟩:=(ce p).1 Z;have K:1<=p.1*p.2.2/\p.1*p.2.2<=16*24:=⟨yp Q X i4 i4,yp R V i4 i4⟩
 refine(Sp.refl h).boxed λG h1 M=>M.alloc af i0 λa2 F d=>?_;have d:Sp h F [aw G 24 [xH xN p.1,xH xN p.2.1,xH xN p.2.2],aw a2 135 zMv]:=d;have fin:∀(kind slot n m c:Int) (name:ByteArray) {h':f8},Sp h h' [aw G 24 [xH xN p.1,xH xN p.2.1,xH xN p.2.2],aw a2 135 zMv]->kM p ⟨kind,name,[],slot,n,m,c,[],[]⟩->UT ⟨kind,name,[],slot,n,m,c,[],[]⟩->
   ag xR (Instr.storeAt 135 (xJ (dB a2)) (xM #[xH xN kind,xK name,xI eH 0 0,xH xN slot,xH xN n,xH xN m,xH xP c,xI eH 0 0,xI eH 0 0])) h' λ_ f=>
    ∃r:UU,an f a2 0 (oq r)/\∃(x:UU) (m:Mv),mvV r=mvV x/\kM p m/\UT m/\Sp h f [EA lX x m]:=by
  intro kind slot n m c name h' U E T;refine U.storeAll af 1 i0 i0 (oq (kind,name,⟨eH,0,0⟩,slot,n,m,c,⟨eH,0,0⟩,⟨eH,0,0⟩)) i0 i0 i0 i0 λf w=>?_;refine⟨(kind,name,⟨eH,0,0⟩,slot,n,m,c,⟨eH,0,0⟩,⟨eH,0,0⟩),(w.box 1 i0).aS _ i0,_,_,i0,E,T,?_⟩;have P:Sp h f []:=.zip w.ai;exact P.comp (.one (aV.refl _ _) ⟨⟨i0,i0,i0,i0,i0,i0,qn _⟩,Seq.nil _ _ _ _ _ _,Seq.nil _ _ _ _ _ _,Seq.nil _ _ _ _ _ _⟩)
 refine(bZ k 26 F i5 i5).mono ?_;rintro _ h3 ⟨rfl,rfl⟩;have k0:=yc k (show(26:Int)≠0 by decide);have k1:=wh k (show(0:Int)<26 by decide);have W:∀(x n:Int),0<n->0<=x%n/\x%n<n:=λx n Y=>⟨yc x i4,wh x Y⟩
 refine⟨_,i0,aj (λ_=>?_) λ_=>?_⟩
 ·refine⟨i5,p.1,(d.box 0 i0).cell0 i0,p.2.2,(d.box 0 i0).cell i0,(uV a h3).mono ?_⟩;rintro _ e ⟨s,i,rfl,g⟩;have u:=d.up g.ai;have O:qc xN ((qc xN ((qc xN ((3:Int)*p.1))*p.2.2))+(2:Int))=3*(p.1*p.2.2)+2:=by rw[ak (3*p.1),Int.mul_assoc,ak (3*(p.1*p.2.2)),ak _]
  refine⟨s,i0,⟨(u.box 0 i0).cell i0,(u.box 0 i0).cell0 i0,trivial⟩,?_⟩;rw[O];refine(bZ _ (3*(p.1*p.2.2)+2) e i4 i4).mono ?_;rintro _ j ⟨rfl,rfl⟩;obtain⟨q,y⟩:∃q,q=qc xN (wH a 5)%(3*(p.1*p.2.2)+2):=⟨_,rfl⟩
  have D:=W (qc xN (wH a 5)) (3*(p.1*p.2.2)+2) i4;rw[<-y]at D⊢;obtain⟨N,L⟩:∃N:Nat,q=N:=⟨q.toNat,i4⟩
  subst L;refine⟨_,i0,⟨(u.box 0 i0).cell i0,(u.box 0 i0).cell0 i0,trivial⟩,(YF N b j i4).mono ?_⟩;rintro _ S ⟨r,l,rfl,hl,H⟩;have B:=u.comp H;have t:=(H.own 0 i0).cap;refine⟨r,i0,⟨(B.box 0 i0).cell i0,(B.box 0 i0).cell0 i0,trivial⟩,?_⟩;refine B.storeAll af 1 i0 i0 (oq (1,s,r,0,0,0,0,⟨eH,0,0⟩,⟨eH,0,0⟩)) i0 i0 i0 i0 λh7 I=>?_;refine⟨trivial,(1,s,r,0,0,0,0,⟨eH,0,0⟩,⟨eH,0,0⟩),(I.box 1 i0).aS _ i0,_,(⟨1,s,l,0,0,0,0,[],[]⟩:Mv),i0,.inl ⟨i0,i,i6⟩,i0,?_⟩;have H8:=I.ck [2];exact H8.fI 0 i0 λq y=>⟨⟨i0,i0,i0,i0,i0,i0,t⟩,y.1.seq (λ_=>rfl) y.2,Seq.nil _ _ _ _ _ _,Seq.nil _ _ _ _ _ _⟩
 refine aj (λ_=>(uV a h3).mono ?_) λ_=>aj (λ_=>(uV a h3).mono ?_) λ_=>cu (λ_=>?_) λ_=>cu (λ_=>(uV a h3).mono ?_) λ_=>cu (λ_=>?_) λ_=>cu (λ_=>?_) λ_=>cu (λ_=>?_) λ_=>cu (λ_=>?_) λ_=>aj (λ_=>?_) λ_=>cu (λ_=>?_) λ_=>?_
 ·rintro _ e ⟨s,i,rfl,g⟩;exact⟨s,i0,fin 2 0 0 0 0 s (d.up g.ai) (.inr (.inl ⟨.inl i0,i⟩)) i0⟩
 ·rintro _ e ⟨s,i,rfl,g⟩;exact⟨s,i0,fin 3 0 0 0 0 s (d.up g.ai) (.inr (.inl ⟨.inr (.inl i0),i⟩)) i0⟩
 ·exact fin 4 0 0 0 0 _ d (.inr (.inr (.inl i0))) i0
 ·rintro _ e ⟨s,i,rfl,g⟩;exact⟨s,i0,fin 5 0 0 0 0 s (d.up g.ai) (.inr (.inl ⟨.inr (.inr i0),i⟩)) i0⟩
 ·refine(bZ a 9 h3 i5 i5).mono ?_;rintro _ e ⟨rfl,rfl⟩;refine⟨_,i0,(bZ b 60 e i5 i5).mono ?_⟩;rintro _ j ⟨rfl,rfl⟩;have o:=W a 9 i5;have A:=W b 60 i5;refine⟨_,i0,?_⟩;dsimp only;rw[ak (6+b%60)];exact fin 6 _ _ 0 0 _ d (.inr (.inr (.inr (.inl ⟨i0,o,i6,i6⟩)))) i0
 ·refine(bZ a 8 h3 i5 i5).mono ?_;rintro _ _ ⟨rfl,rfl⟩;exact⟨_,i0,fin 7 _ 0 0 0 _ d (.inr (.inr (.inr (.inr (.inl ⟨i0,W a 8 i5⟩))))) i0⟩
 ·refine(bZ a 8 h3 i5 i5).mono ?_;rintro _ e ⟨rfl,rfl⟩;refine⟨_,i0,(bZ b 60 e i5 i5).mono ?_⟩;rintro _ j ⟨rfl,rfl⟩;have o:=W a 8 i5;have A:=W b 60 i5;refine⟨_,i0,?_⟩;dsimp only;rw[ak (6+b%60)];exact fin 8 _ _ 0 0 _ d (.inr (.inr (.inr (.inr (.inr (.inl ⟨i0,o,i6,i6⟩)))))) i0
 ·refine(bZ a 8 h3 i5 i5).mono ?_;rintro _ _ ⟨rfl,rfl⟩;exact⟨_,i0,fin 9 _ 0 0 0 _ d (.inr (.inr (.inr (.inr (.inr (.inr (.inl ⟨i0,W a 8 i5⟩))))))) i0⟩
 ·refine(bZ a 3 h3 i5 i5).mono ?_;rintro _ e ⟨rfl,rfl⟩;refine⟨_,i0,(bZ b 20 e i5 i5).mono ?_⟩;rintro _ j ⟨rfl,rfl⟩;have o:=W a 3 i5;have A:=W b 20 i5;exact⟨_,i0,fin 10 0 _ _ 0 _ d (.inr (.inr (.inr (.inr (.inr (.inr (.inr (.inl ⟨i0,i6,i6,i6⟩)))))))) i0⟩
 ·refine(bZ a 9 h3 i5 i5).mono ?_;rintro _ e ⟨rfl,rfl⟩;refine⟨_,i0,(bZ b 70 e i5 i5).mono ?_⟩;rintro _ j ⟨rfl,rfl⟩;have o:=W a 9 i5;have A:=W b 70 i5;refine⟨_,i0,?_⟩;dsimp only;rw[ak (a%9-1),ak (b%70-1)];exact fin 10 0 _ _ 0 _ d (.inr (.inr (.inr (.inr (.inr (.inr (.inr (.inl ⟨i0,i6,i6,i6⟩)))))))) i0
 ·refine(bZ a 7 h3 i5 i5).mono ?_;rintro _ e ⟨rfl,rfl⟩;refine⟨_,i0,i5,(bZ _ 40 e i5 i5).mono ?_⟩;rintro _ j ⟨rfl,rfl⟩;refine⟨_,i0,(bZ b 61 j i5 i5).mono ?_⟩;rintro _ S ⟨rfl,rfl⟩;have J:∀z:Int,0<=qc xP z/\qc xP z<4294967296:=λz=>by rw[PC];have:=(BitVec.ofInt 32 z).isLt;omega
  exact⟨_,i0,fin 11 _ _ _ _ _ d (.inr (.inr (.inr (.inr (.inr (.inr (.inr (.inr ⟨i0,W a 7 i5,W _ 40 i5,W b 61 i5,J _⟩)))))))) i0⟩
theorem aca(p:Pm)(k a b:Int)(h:f8)(c:bI p=eL):ac xR 143 #[jU p,xH xN k,xH xN a,xH xN b] h λv h'=>∃(x:UU) (m:Mv),v=mvV x/\kM p m/\Sp h h' [EA lX x m]:=
 (Zq p k a b h c).mono λ_ _ ⟨x,m,e,o,_,H⟩=>⟨x,m,e,o,H⟩
theorem Zr(p:Pm)(s:Sl)(l:aF)(a:Nat)(h:f8)(R:bI p=eL)(i:Rd h s 1 aC l)(Z:a<=100):
  ac xR 74 #[jU p,s,xH xN a,xL eR] h λv h'=>∃(r:Sl) (L:List Mv),v=r/\(∀m∈L,kM p m)/\L.length<=a/\Sp h h' [bX 135 r 9 oq lX L]:=by
 refine An p s a eR ?_;unfold oa;have M:=i.len;refine(Sp.refl h).boxed λz Q w=>?_;have w:Sp h Q [aw z 24 [xH xN p.1,xH xN p.2.1,xH xN p.2.2]]:=w;have fin:∀{h':f8} (r:Sl) (L:List Mv),(∀m∈L,kM p m)->ii L<=a->Sp h h' [aw z 24 [xH xN p.1,xH xN p.2.1,xH xN p.2.2],bX 135 r 9 oq lX L]->∃(j:Sl) (L:List Mv),(Value.slice r.ptr r.len r.cap)=xI j.ptr j.len j.cap/\(∀m∈L,kM p m)/\L.length<=a/\Sp h h' [bX 135 j 9 oq lX L]:=λr L q J P=>⟨r,L,i0,q,J,P.ck [1]⟩
 refine bg ?_;refine av (λt:Sl×List Mv=>(t.1,((3*ii t.2:Nat):Int))) (λt h'=>(∀m∈t.2,kM p m)/\t.2.length<=a/\Sp h h' [aw z 24 [xH xN p.1,xH xN p.2.1,xH xN p.2.2],bX 135 t.1 9 oq lX t.2]) (λt=>a-ii t.2) (⟨eH,0,0⟩,[]) i0 ⟨i9,i9,w.Gw 135 9 oq lX⟩ ?_;rintro⟨o,L⟩ I ⟨c,B,f⟩;dsimp only at c B f⊢;obtain⟨k,G⟩:∃k,k=ii L:=⟨_,rfl⟩
 rw[<-G]at B⊢;obtain⟨W,V⟩:=f.XH 1 rfl;refine bg ?_;rw[ak (((3*k:Nat):Int)+2)];refine aj (λU=>?_) λ_=>fin o L c i4 f;refine aj (λX=>?_) λ_=>fin o L c i4 f;have O:3*k+2<ii l:=i4
 have K:k<a:=i4
 refine bg (bg (bv (λe=>j0) λ_=>bv (λe=>j0) λ_=>?_));have d:=i.up f.ai;obtain⟨D,E,q,_,_⟩:=i.elem (3*k) l[3*k] (qd i4);have b:∀{h':f8},Rd h' s 1 aC l->cellOf h' ((⟨D,E,eH⟩:fz).add (((3*k:Nat):Int).toNat*1))=dB (xH xN l[3*k]):=λ{h'} hr=>by
  obtain⟨T,H,g,_,u3⟩:=hr.elem (3*k) l[3*k] (qd i4);rw[q]at g;injection g with g
  injection g with g u2
  subst g;subst u2;rw[ql,add_eq];have A:=u3.1;rw[add_eq,Nat.add_zero]at A;exact A
 refine⟨p,(f.box 0 i0).aS _ i0,⟨D,E,eH⟩,⟨q,i4,i4⟩,l[3*k],b d,i5,?_⟩;rw[ak (((3*k:Nat):Int)+1)];refine d.bB (3*k+1) i4 i4 l[3*k+1] i0 ?_;refine d.bB (3*k+2) i4 i4 l[3*k+2] i0 ?_;refine(aca p _ _ _ I R).mono ?_;rintro _ h3 ⟨x,m,rfl,y,N⟩;have n:=f.comp N;refine⟨x,i0,⟨b (i.up n.ai),trivial⟩,?_⟩;refine n.oO af oq eMv i0 [x] i0 (show 1*9<=2^20 by decide) j1 ⟨b (i.up n.ai),trivial⟩ ?_;refine n.sH af 1 2 i5 i0 i0 eMv i0 i5 (λ_=>rfl) aic j1 i5 i4 λH Y F=>?_;refine⟨⟨b (i.up F.ai),trivial⟩,(H,L++[m]),?_,⟨λS u=>?_,l0,F.ck [0,1]⟩,l0⟩
 ·dsimp only;rw[ak (((3*k:Nat):Int)+3),qx,<-G];rfl
 ·rcases qz.1 u with h|h
  ·exact c S h
  ·rw[qC.1 h];exact y
theorem kM.put{p:Pm}{b:Mv}(h:kM p b)(a:b.kind=1):b.name∈IB/\(ii b.data:Int)<=3*(p.1*p.2.2)+1:=by
 unfold kM at h;rw[a]at h;rcases h with h|h|h|h|h|h|h|h|h
 ·exact h.2
 ·exact absurd h.1 i5
 ·exact absurd h i5
 all_goals exact absurd h.1 i5
theorem kM.named{p:Pm}{b:Mv}(h:kM p b)(a:b.kind=2∨b.kind=3∨b.kind=5):b.name∈IB:=by
 unfold kM at h;rcases h with h|h|h|h|h|h|h|h|h
 ·exact h.2.1
 ·exact h.2
 ·omega
 all_goals omega
theorem aeg:∀s∈IB,s.size<=12:=j4
theorem agu{p:Pm}{extra:Int}{l:aF}(k:bI p=eL)(g:0<=extra/\extra<=16)(f:1<=ii l/\l.length<=24)(h:∀x∈l,1<=x/\x<=512):
  sn p extra l=0/\bp l l.length=(qE l.length).map λi:Nat=>(i:Int):=by
 have d:∀i (a:i<ii l),1<=l.getD i 0/\l.getD i 0<=512:=λi a=>by rw[fR 0 a];exact h _ (qg a)
 have h0:bp l l.length=(qE l.length).map λi:Nat=>(i:Int):=by unfold bp;refine zT.2 λy b=>?_;obtain⟨i,a,rfl⟩:=qw.1 b;have a:=qG.1 a;have:=d i a;rw[ql];exact g9 i4
 refine⟨?_,h0⟩;have j:(eE l).2=eL:=by have c:l.all (eW · 0 512)=eL:=qL.2 λy b=>(jX _ _ _).2 ⟨by have:=h y b;omega,(h y b).2⟩;unfold eE;rw[f9 c,h0];simp;omega
 have e:eW extra 0 16=eL:=(jX _ _ _).2 g;have h3:((bp l l.length).any λi=>decide (l.getD i.toNat 0<(ii (bo (cw p extra l)):Int)))=eR:=by refine zW.2 λy b=>?_;rw[h0]at b;obtain⟨i,a,rfl⟩:=qw.1 b;have a:=qG.1 a;have m:=FS p extra l f.2;have:=d i a;rw[ql,decide_eq_true_eq];omega
 unfold sn;rw[j,k,e,h3];rfl
theorem acb{p:Pm}{extra:Int}{l:aF}{D:aW}{m:aI}(n:m=cw p extra l)(w:sn p extra l=0)(v:ii l<=64)(i:ii D=64)
  (o:∀s,bC D s=if s∈bp l l.length then dB ⟨(l.getD s.toNat 0).toNat,bo m,0,[],eR,eR⟩else eH) (C:Int->bc):fl m C D/\Full m C D/\Kj m D:=by
 have b:bO m=eL:=by rw[n];exact Lj v w
 have j:m.drives=bp l l.length:=by rw[n];rfl
 have q:m.aG=[]:=by rw[n];rfl
 have f:∀k d,bC D k=dB d->∀c∈d.l,c∈bo m:=λk d a c f=>by
  rw[o]at a;split at a
  ·injection a with a;subst a;exact f
  ·cases a
 refine⟨⟨b,i,λk d a c h=>Jj C b (f k d a c h),λe g=>by rw[q]at g;cases g⟩,⟨λk u=>?_,λe g=>by rw[q]at g;cases g⟩,λk d a c h r t=>?_⟩
 ·rw[j]at u;refine⟨_,by rw[o,f9 u],i0,?_⟩;unfold iq;rw[b,Bool.true_and];exact qL.2 λc f=>g9 f
 ·rw[mu (f k d a c h)]at t;cases t
theorem vZ{m:aI}{i:Nat}{e:Wl.cb}(h:e∈(um m i).aG):e∈m.aG:=by
 have h:e∈m.aG.take i++m.aG.drop (i+1):=h;rcases qz.1 h with h|h
 ·exact zD h
 ·exact List.mem_of_mem_drop h
theorem aif(m:aI)(i:Nat):(um m i).aG=m.aG.eraseIdx i:=by show m.aG.take i++m.aG.drop (i+1)=_;rw[List.eraseIdx_eq_take_drop_succ]
theorem UV{m:aI}(k:bO m=eL)(n:m.seq<=2147483646)(i:Nat):bO (um m i)=eL:=by
 obtain⟨g,b,h3,d,h,c,j⟩:=(bU m).1 k;obtain⟨l,a2,a3,a4⟩:=(dE m).1 g;have a:(um m i).aG.Sublist m.aG:=by rw[aif];exact List.eraseIdx_sublist ..
 refine(bU _).2 ⟨(dE _).2 ⟨⟨?_,?_⟩,a2,a3,a4⟩,b,h3,zi a.length_le d,λe f=>?_,c.sublist a,j.sublist a⟩
 ·show 1<=m.seq+1;omega
 ·show m.seq+1<=_;omega
 ·exact(gP _ _).2 ((gP _ _).1 (h e (vZ f)))
structure Inv (m:aI) (C:Int->bc) (ds:aW) (N:Nat):Prop where
 fD:fl m C ds
 full:Full m C ds
 low:Kj m ds
 nm:∀e∈m.aG,e.name∈IB
 dr:m.drives≠[]
 seq:m.seq<=1+N
 nx:m.next<=N
theorem Inv.step{m:aI}{C:Int->bc}{ds:aW}{N:Nat}(I:Inv m C ds N):Inv m C ds (N+1):=⟨I.fD,I.full,I.low,I.nm,I.dr,by have:=I.seq;omega,by have:=I.nx;omega⟩
theorem Inv.put{m:aI}{C:Int->bc}{ds:aW}{N:Nat}{name:ByteArray}{b:bc}(I:Inv m C ds N)(d:name∈IB):
  (∃e,e≠0/\gE m 0 Pow.new ds name b=(e,m,Pow.new,ds))∨(dv m eR ds name b.length=0/\∃t a,cL m.p m.next (splitB m.p b).length=dB t/\gE m 0 Pow.new ds name b=(0,dw m ⟨name,m.next,ii b,t⟩,Pow.new,a)/\Inv (dw m ⟨name,m.next,ii b,t⟩) (kK C m.next b) a (N+1)):=by
 rcases Xr (offs:=0) (name:=name) (b:=b) AR I.fD with⟨h,_⟩|⟨hr,t,a,ht,c,S',hds⟩
 ·exact .inl h
 ·refine .inr ⟨hr,t,a,ht,c,S',I.full.put I.fD hr ht S' hds,I.low.put I.fD hr ht hds,λe c=>?_,I.dr,?_,?_⟩
  ·rcases su.1 c with c|rfl
   ·exact I.nm e c
   ·exact d
  ·have:=I.seq;show m.seq+1<=_;omega
  ·have:=I.nx;show m.next+1<=_;omega
theorem Inv.del{m:aI}{C:Int->bc}{ds:aW}{N:Nat}{name:ByteArray}(I:Inv m C ds N)(h:N<=1000):
  (m.aG.any (dP name)=eR/\dV m 0 Pow.new ds name=(5,m,Pow.new,ds))∨(m.aG.any (dP name)=eL/\((dt m ds m.drives (λ_=>(ii (bo (um m (m.aG.findIdx (dP name)))):Int))=eR/\dV m 0 Pow.new ds name=(7,m,Pow.new,ds))∨
   ∃a,dV m 0 Pow.new ds name=(0,um m (m.aG.findIdx (dP name)),Pow.new,a)/\Inv (um m (m.aG.findIdx (dP name))) C a (N+1))):=by
 have j:=I.seq;cases ha:m.aG.any (dP name)with
 |false=>exact .inl ⟨i0,by unfold dV;rw[g0 i5,f9 ha]⟩
 |true=>
  obtain⟨i,f⟩:∃i,i=m.aG.findIdx (dP name):=⟨_,rfl⟩
  have e:dV m 0 Pow.new ds name=cM m 0 Pow.new ds (um m i):=by unfold dV;rw[g0 i5,g0 (by rw[ha];decide),g0 i4,f]
  have d:aN ds (um m i).drives=m.drives:=I.full.aN;rw[e,<-f];refine .inr ⟨i0,?_⟩;have c:=UV I.fD.may i4 i;rcases NG (offs:=0) AR I.fD rfl c rfl rfl (vM _) (λx b=>vZ b)with⟨h1,h2⟩|⟨_,a,h1,S',hds⟩
  ·rw[d]at h1;exact .inl ⟨h1.resolve_left I.dr,h2⟩
  ·exact .inr ⟨a,h1,S',I.full.DG I.fD c i0 i0 i0 (λx b=>vZ b) hds,I.low.DG i0 i0 (λx b=>vZ b) hds,λe g=>I.nm e (vZ g),I.dr,by show m.seq+1<=_;omega,by have:=I.nx;show m.next<=_;omega⟩
theorem Inv.get{m:aI}{C:Int->bc}{ds:aW}{N:Nat}(I:Inv m C ds N){e:Wl.cb}(a:e∈m.aG):kL m 0 Pow.new ds e.name=(C e.object,0):=by rw[(I.fD.get i0 e.name).1 e a i0,f9 (I.full.can I.fD I.dr a)]
theorem Ac{l:aF}(h:l.Pairwise (·<·)):gK l=l:=by have g:(gK l).Perm l:=w5 _ _;have f:(gK l).Pairwise (λa b=>decide (a<=b)=eL):=List.pairwise_mergeSort (λa b c e d=>by simp at*;omega) (λa b=>i7) l;refine g.eq_of_pairwise (le:=λa b:Int=>decide (a<=b)=eL) ?_ f (h.imp λh=>i7);intro a b _ _ e d;simp at e d;omega
theorem BZ(c:Nat)(x:Int)(d:0<x:=by omega):bp (qh c x) (qh c x).length=(qE c).map λi:Nat=>(i:Int):=by rw[w8];unfold bp;refine zT.2 λy b=>?_;obtain⟨i,a,rfl⟩:=qw.1 b;have a:=qG.1 a;simp[qe,a];omega
theorem acd{p:Pm}{extra:Int}(h:bI p=eL)(f:0<=extra/\extra<=16)(c:Nat)(x:Int)(l:1<=c/\c<=24)(k:1<=x/\x<=512):sn p extra (qh c x)=0:=by
 have g:(eE (qh c x)).2=eL:=by
  have a:(qh c x).all (eW · 0 512)=eL:=qL.2 λy b=>by
   rw[List.eq_of_mem_replicate b];exact(jX _ _ _).2 ⟨i4,i4⟩
  unfold eE;rw[f9 a,BZ c x,w8];simp;omega
 have e:eW extra 0 16=eL:=(jX _ _ _).2 f;have h3:((bp (qh c x) (qh c x).length).any λi=>decide ((qh c x).getD i.toNat 0<(ii (bo (cw p extra (qh c x))):Int)))=eR:=by
  refine zW.2 λy b=>?_;rw[BZ c x]at b;obtain⟨i,d,rfl⟩:=qw.1 b;have d:=qG.1 d;have m:=FS p extra (qh c x) i7;have j:(qh c x).getD ((i:Int)).toNat 0=x:=by rw[ql];simp[qe,d]
  rw[j];simp;omega
 unfold sn;rw[g,h,e,h3];rfl
structure Jl (p:Pm) (extra:Int) (c:Nat) (x:Int) (m:aI) (D:aW):Prop where
 m_eq:m=cw p extra (qh c x)
 len:ii D=64
 may:bO m=eL
 dr:m.drives=(qE c).map λi:Nat=>(i:Int)
 at_:∀s,bC D s=if s∈m.drives then dB ⟨x.toNat,bo m,0,[],eR,eR⟩else eH
theorem aeh{p:Pm}{extra:Int}{c:Nat}{x:Int}(k:bI p=eL)(f:0<=extra/\extra<=16)(g:1<=c/\c<=24)(d:1<=x/\x<=512){D:aW}(b:ii D=64)
  (e:∀s,bC D s=if s∈bp (qh c x) (qh c x).length then dB ⟨((qh c x).getD s.toNat 0).toNat,bo (cw p extra (qh c x)),0,[],eR,eR⟩else eH):Jl p extra c x (cw p extra (qh c x)) D:=by
 have j:=acd k f c x g d;refine⟨i0,b,Lj i7 j,BZ c x,λs=>?_⟩;rw[e s];show(if s∈bp _ _ then _ else eH)=(if s∈bp _ _ then _ else eH)
 by_cases h:s∈bp (qh c x) (qh c x).length
 ·rw[f9 h,f9 h];rw[BZ c x]at h;obtain⟨i,a,rfl⟩:=qw.1 h;have a:=qG.1 a;rw[ql,fR 0 j7,List.getElem_replicate]
 ·rw[g0 h,g0 h]
theorem Jl.live{p:Pm}{extra:Int}{c:Nat}{x:Int}{m:aI}{D:aW}(F:Jl p extra c x m D):aN D m.drives=m.drives:=zT.2 λk a=>by
 unfold isLive;rw[F.at_ k,f9 a];rfl
theorem Jl.aG{p:Pm}{extra:Int}{c:Nat}{x:Int}{m:aI}{D:aW}(F:Jl p extra c x m D):m.aG=[]/\m.seq=1/\m.next=0/\m.p=p/\m.extra=extra:=by rw[F.m_eq];exact⟨i0,i0,i0,i0,i0⟩
section
variable {B:aB} {h0 h:f8} {As:List HP}
end
end Go.Qw
namespace Wl
open Go Go.Qw Go.Vc
end Wl
namespace Go.Qw
open Go Go.Vc Go.Proofs Wl
section
variable {B:aB} {h0 h:f8} {As:List HP} {a pw v:fz} {offs:Int} {da:List aT} {w:Pow} {ds:aW} {mc:be}
end
section
variable {B:aB} {h0 h:f8} {As:List HP} {a pw v:fz} {offs:Int} {da:List aT} {w:Pow} {ds:aW} {mc:be}
end
section
variable {B:aB} {h0 h:f8} {As:List HP} {a pw v:fz} {offs:Int} {da:List aT} {w:Pow} {ds:aW} {mc:be}
end
end Go.Qw
namespace Wl
open Go Go.Qw Go.Vc
end Wl
namespace Go.Qw
open Go Go.Vc Go.Proofs Wl
section
variable {B:aB} {h0 h:f8} {As:List HP} {a pw v:fz} {offs:Int} {da:List aT} {w:Pow} {ds:aW} {mc:be}
end
end Go.Qw
namespace Wl
open Go Go.Qw Go.Vc
end Wl
namespace Go.Qw
open Go Go.Vc Go.Proofs Wl
section
variable {B:aB} {h0 h:f8} {As:List HP} {a pw v:fz} {offs:Int} {da:List aT} {w:Pow} {ds:aW} {mc:be}
end
end Go.Qw
namespace Wl
open Go Go.Qw Go.Vc
def kz(m:aI)(offs:Int)(w:Pow)(ds:aW)(slot:Int):Int×aW:=
 if di w offs then(14,ds)else if slot∉aN ds m.drives then(5,ds)else
 match bC ds slot with
 |some d=>(0,gh ds slot d.rU)
 |none=>(5,ds)
end Wl
namespace Go.Qw
open Go Go.Vc Go.Proofs Wl
section
variable {B:aB} {h0 h:f8} {As:List HP} {a pw:fz} {offs:Int} {da:List aT} {w:Pow} {ds:aW} {m:aI}
theorem UW(slot:Int)(j:bO m=eL)(H:aa B h0 h (dF a pw da offs w ds m::As)):
  ac xR 28 #[xJ (dB a),xH xN slot] h λv h'=>v=xH xN (kz m offs w ds slot).1/\aa B h0 h' (dF a pw da offs w (kz m offs w ds slot).2 m::As):=by
 obtain⟨x,H⟩:=gf H;by_cases g:di w offs=eL∨slot∉aN ds m.drives
 ·refine(UM slot x m (H.at 1 i0) (ka j) H g).mono ?_;rintro _ h' ⟨rfl,R⟩;by_cases c:di w offs=eL
  ·have e:kz m offs w ds slot=(14,ds):=by unfold kz;rw[f9 c]
   rw[e,f9 c];exact⟨i0,nl (H.up R.ai)⟩
  ·have i:slot∉aN ds m.drives:=g.resolve_left c;have e:kz m offs w ds slot=(5,ds):=by unfold kz;rw[g0 c,f9 i]
   rw[e,g0 c];exact⟨i0,nl (H.up R.ai)⟩
 ·have c:¬di w offs=eL:=λh=>g (.inl h);have i:¬slot∉aN ds m.drives:=λh=>g (.inr h);have f:slot∈aN ds m.drives:=Decidable.not_not.1 i;obtain⟨p,d,b,h3⟩:=jK f;obtain⟨n,rfl,q⟩:=ju b;have k:ds[n]?=dB (dB d):=by
   unfold bC at b;rw[f9 i4,ql]at b;cases hX:ds[n]? with
   |none=>rw[hX]at b;cases b
   |some o=>rw[hX]at b;exact congrArg dB b
  refine(WB n x m (H.at 1 i0) (ka j) H o6 f k).mono ?_;rintro _ h' ⟨rfl,l⟩;have e:kz m offs w ds (n:Int)=(0,ds.set n (dB d.rU)):=by unfold kz;rw[g0 c,g0 i,b];simp only[gh,ql]
  rw[e];exact⟨i0,nl l⟩
end
end Go.Qw
namespace Wl
open Go Go.Qw Go.Vc
def RQ(a:Int)(k:Nat):UInt8:=b8 (qX a (2^(8*k)))
def fk(c:bc)(at_:Nat)(a:Int):Nat->bc
 |0=>c
 |k+1=>(fk c at_ a k).set (at_+k) ((fk c at_ a k).getD (at_+k) 0^^^RQ a k)
def Ca(c:bc)(at_:Int)(a:Int):bc:=fk c at_.toNat a 4
theorem Cb(c:bc)(a:Nat)(b:Int):∀k,ii (fk c a b k)=ii c
 |0=>rfl
 |k+1=>by unfold fk;rw[zj];exact Cb c a b k
def DH(d:bw)(i at_ a:Int):Bool:=decide ((0<=i/\i<(ii d.l:Int))/\(0<=at_/\at_<=60)/\a≠0)
def bw.mH(d:bw)(i at_ a:Int):bw:=if DH d i at_ a then{d with l:=d.l.set i.toNat (Ca (d.l.getD i.toNat []) at_ a)}else d
end Wl
namespace Go.Vc
theorem UX{α:Type}{e k:Nat}{f:α->be}{rs:List Sl}{b:List (List α)}(h:ii rs=ii b)(n:Nat)(d:n<ii b)(x:List α):bM e k f rs (b.set n x)=(bM e k f rs b).set n (aq e (rs[n]'(by omega)) k f x):=by
 apply zC;intro j;by_cases c:j<ii b
 ·rw[gg (by rw[zj];exact h) j (by rw[zj];exact c)];by_cases a:n=j
  ·subst a;rw[zm (by rw[mi h];exact d),yR]
  ·rw[zG a,gg h j c,List.getElem_set_ne a]
 ·rw[qZ (by rw[mi (by rw[zj];exact h),zj];omega),qZ (by rw[zj,mi h];omega)]
end Go.Vc
namespace Go.Qw
open Go Go.Vc Go.Proofs Wl
section
variable {B:aB} {h0 h:f8} {As:List HP} {a pw:fz} {d:bw}
theorem Zs(i at_ f:Int)(hm:0<=f/\f<2^32)(H:aa B h0 h (iI pw a d::As)):
  ac xR 78 #[xJ (dB a),xH xN i,xH xN at_,xH xP f] h λv h'=>v=xL (DH d i at_ f)/\aa B h0 h' (iI pw a (d.mH i at_ f)::As):=by
 refine CZ (dB a) i at_ f ?_;unfold rH;obtain⟨ok,s,q,L⟩:=aa.rj H;have V:=(aa.xU (L.bs 2 [1,0])).1;have U:=L.box 0 i0;have w:DH d i at_ f=eR->(Value.bool eR=xL (DH d i at_ f)/\aa B h0 h (iI pw a (d.mH i at_ f)::As)):=λe=>by
  unfold bw.mH;rw[e];exact⟨i0,H⟩
 have g:¬((0<=i/\i<(ii d.l:Int))/\(0<=at_/\at_<=60)/\f≠0)->DH d i at_ f=eR:=λh=>hU h;refine bg (bv (λe=>j0) λ_=>aj (λe=>w (g i4)) λe1=>⟨a,i0,s,U.cell i0,aj (λe=>w (g i4)) λe2=>aj (λe=>w (g i4)) λe3=>aj (λe=>w (g i4)) λe4=>cu (λe=>w (g i4)) λe5=>?_⟩);have Y:0<=i/\i<(ii d.l:Int):=i4
 have o:DH d i at_ f=eL:=g9 ⟨Y,⟨i4,i4⟩,e5⟩;obtain⟨n,rfl⟩:∃n:Nat,i=n:=⟨i.toNat,i4⟩
 obtain⟨p,rfl⟩:∃p:Nat,at_=p:=⟨at_.toNat,i4⟩
 have R:n<ii d.l:=i4
 have y:d.l[n].length=64:=ok.cell _ (qg R);obtain⟨c,I⟩:∃c,c=d.l[n]:=⟨_,rfl⟩
 have Z:aa B h0 h (gy 34 s 5 1 aE (d.l.set n (fk c p f 0))::aw a 156 (ff pw d s q)::dN q d.laid::As):=by
  have e:d.l.set n (fk c p f 0)=d.l:=by show d.l.set n c=d.l;rw[I];exact List.set_getElem_self _
  rw[e];exact L.bs 3 [1,0,2]
 refine av (λk:Nat=>(k:Int)) (λk h'=>k<=4/\aa B h0 h' (gy 34 s 5 1 aE (d.l.set n (fk c p f k))::aw a 156 (ff pw d s q)::dN q d.laid::As)) (λk=>4-k) 0 i0 ⟨i4,Z⟩ ?_;rintro k h3 ⟨hk,G⟩;dsimp only;refine aj (λe=>?_) λe=>?_
 ·have E:k<4:=i4
  have O:=G.box 1 i0;obtain⟨rs,j,J⟩:=G.IQ;have Q:=(G.xU).1;have X:ii (d.l.set n (fk c p f k))=ii d.l:=zj;have m:n<ii (d.l.set n (fk c p f k)):=i4
  have A:(bM 5 1 aE rs (d.l.set n (fk c p f k)))[n]?=dB (aq 5 (rs[n]'(by omega)) 1 aE (fk c p f k)):=by rw[gg j n m,yR]
  have t:((aq 34 s 1 bt rs::bM 5 1 aE rs (d.l.set n (fk c p f k)))++(aw a 156 (ff pw d s q)::dN q d.laid::As))[n+1]?=dB (aq 5 (rs[n]'(by omega)) 1 aE (fk c p f k)):=by rw[zt,qu,qm (by rw[mi j];exact m)];exact A
  have W:ii (fk c p f k)=64:=by rw[Cb,I];exact y
  have T:=J.own (n+1) t;refine⟨a,i0,s,O.cell i0,?_⟩;have N:=J.seq 0 i0 λ_=>rfl;refine N.lM n i0 i4 ?_;obtain⟨z,P⟩:∃z,z=(fk c p f k)[p+k]'(by omega):=⟨_,rfl⟩
  have K:qc xN ((p:Int)+(k:Int))=((p+k:Nat):Int):=j3
  rw[K];have D:Vc.Seq h3 (λb=>b<h3.size) (rs[n]'(by omega)) 1 aE (fk c p f k):=J.seq (n+1) t λ_=>rfl;refine D.bB (p+k) i0 i4 (z.toNat:Int) (by rw[P];rfl) ?_;refine⟨j3,?_⟩;have u:min (qc xN ((8:Int)*(k:Int))).toNat (qk xP)=8*k:=by rw[ak _];show min ((8:Int)*k).toNat 32=8*k;omega
  rw[u,dR (qX f (2^(8*k)))];have M:=ne z (b8 (qX f (2^(8*k))));rw[M];refine J.set af (n+1) t (λ_=>rfl) i0 (p+k) i0 i4 (z^^^RQ f k) i0 i0 i0 λh5 S=>⟨trivial,?_⟩
  refine⟨k+1,js,⟨i4,?_⟩,i4⟩;have r:fk c p f (k+1)=(fk c p f k).set (p+k) (z^^^RQ f k):=by show(fk c p f k).set (p+k) ((fk c p f k).getD (p+k) 0^^^RQ f k)=_;rw[fR 0,P]
  refine aa.LG (rs:=rs) (by rw[zj];omega) ?_;have e:bM 5 1 aE rs (d.l.set n (fk c p f (k+1)))=(bM 5 1 aE rs (d.l.set n (fk c p f k))).set n (aq 5 (rs[n]'(by omega)) 1 aE (fk c p f (k+1))):=by rw[<-UX j n m,yG]
  rw[e,r];rw[zt,zx,vu _ _ (by rw[mi j];exact m)]at S;exact S
 ·have E:k=4:=i4
  subst E;have F:d.mH (n:Int) (p:Int) f={d with l:=d.l.set n (fk c p f 4)}:=by unfold bw.mH;rw[o,f9 i0,ql,fR [] R,<-I];rfl
  refine⟨by rw[o],?_⟩;rw[F];refine aa.AE (s:=s) (b:=q) ⟨by show d.wait<=_;rw[zj];exact ok.wait,by show(d.l.set n _).length<=_;rw[zj];exact ok.len,ok.room,λx M=>?_,ok.laid,ok.cellL⟩ (G.bs 3 [1,0,2]);rcases wb M with h|rfl
  ·exact ok.cell x h
  ·rw[Cb,I];exact y
end
def ints(l:List Nat):aF:=l.map λx:Nat=>(x:Int)
theorem lY(l:List Nat):ii (ints l)=ii l:=by simp[ints]
theorem Lq{l:List Nat}{k:Nat}(h:k<ii l):(ints l)[k]'(by rw[lY];exact h)=(l[k]:Int):=by simp[ints]
theorem aei{l:List Nat}{k:Nat}:(k:Int)∈ints l↔k∈l:=by simp only[ints,qw];exact⟨λ⟨a,h1,h2⟩=>by rw[<-xm.1 h2];exact h1,λh=>⟨k,h,i0⟩⟩
theorem Xu{n:Nat}:∀{j i:Nat},i<=j->2*j<=n->ch n i<=ch n j
 |0,i,h,_=>by
   have:i=0:=i4
   subst this;exact qn _
 |j+1,i,h,hj=>by
  by_cases a:i=j+1
  ·subst a;exact qn _
  ·exact zi (Xu i4 i4) (air i4)
theorem DI(n t:Int)(h:f8):ac xR 122 #[xH xN n,xH xN t] h λv h'=>v=xL (decide (0<=n/\n<=64/\0<=t/\t<=n))/\h'=h:=by
 refine OE n t ?_;unfold Hp;refine aj (λb=>aj (λa=>aj (λh3=>⟨?_,i0⟩) λh3=>⟨?_,i0⟩) λa=>⟨?_,i0⟩) (λb=>⟨?_,i0⟩)
 ·congr 1;exact decide_eq_decide.2 i4
 ·rw[hU i4]
 ·rw[hU i4]
 ·rw[hU i4]
theorem DJ(n t:Int)(h:f8)(D:-(2^62)<=n/\n<=2^62)(B:-(2^62)<=t/\t<=2^62):ac xR 58 #[xH xN n,xH xN t] h λv h'=>v=xH xN (iV n t)/\h'=h:=by
 refine Oz n t ?_;unfold Hj;refine(DI n t h).mono ?_;rintro v u ⟨rfl,rfl⟩;refine⟨_,i0,bm (λe=>?_) λe=>?_⟩
 ·have e:=of_decide_eq_false e;unfold iV;rw[g0 e];exact⟨i0,i0⟩
 ·have e:=hY e;obtain⟨N,rfl⟩:∃N:Nat,n=N:=⟨n.toNat,i4⟩
  obtain⟨T,rfl⟩:∃T:Nat,t=T:=⟨t.toNat,i4⟩
  have s:iV N T=((min (ch N T) 4097:Nat):Int):=by unfold iV;rw[f9 e];rfl
  rw[s];obtain⟨m,z⟩:∃m,m=min T (N-T):=⟨_,rfl⟩
  have f:ch N m=ch N T:=by
   rw[z];rcases Nat.le_total T (N-T)with b|b
   ·rw[wX b]
   ·rw[Nat.min_eq_right b,<-Tj N T i4]
  have a:(if qc xN ((N:Int)-T)<(T:Int)then qc xN ((N:Int)-T)else(T:Int))=(m:Int):=by rw[ak _];split<;>omega
  rw[a];refine av (λi:Nat=>(((ch N i:Nat):Int),(i:Int))) (λi h'=>h'=u/\i<=m/\ch N i<=4096) (λi=>m-i) 0 (by rw[nw];rfl) ⟨i0,i4,by rw[nw];omega⟩ ?_;rintro i b ⟨rfl,E,c⟩;dsimp only;refine aj (λx=>?_) (λx=>?_)
  ·have w:i<m:=i4
   have A:N<=64:=i4
   have d:=Xc (n:=N) (k:=i) i4;have g:ch N i*(N-i)<=4096*64:=wq c i4;have q:qc xN ((N:Int)-i)=((N-i:Nat):Int):=j3
   have o:qc xN (((ch N i:Nat):Int)*((N-i:Nat):Int))=((ch N i*(N-i):Nat):Int):=by rw[<-Int.natCast_mul,ak _]
   have y:qc xN ((i:Int)+1)=((i+1:Nat):Int):=js
   have l:wH ((ch N i*(N-i):Nat):Int) ((i+1:Nat):Int)=((ch N (i+1):Nat):Int):=by rw[<-d,<-Int.ofNat_tdiv,Nat.mul_div_cancel _ i4]
   have p:ch N (i+1)<=4096*64:=by have:ch N (i+1)*1<=ch N (i+1)*(i+1):=Nat.mul_le_mul_left _ i4;omega
   rw[q,o,y,l,ak _];refine⟨i4,aj (λr=>?_) λr=>?_⟩
   ·have:=Xu (n:=N) (j:=m) (i:=i+1) i4 i4;refine⟨?_,i0⟩;rw[show min (ch N T) 4097=4097 by omega];rfl
   ·exact⟨i+1,i0,⟨i0,i4,i4⟩,i4⟩
  ·have:i=m:=i4
   subst this;refine⟨?_,i0⟩;rw[show min (ch N T) 4097=ch N i by omega]
theorem index_spec(s:Sl)(l:aF)(x:Int)(h:f8)(g:Rd h s 1 aC l)(m:ii l<=2^30):ac xR 150 #[s,xH xN x] h λv h'=>(∃i:Int,v=xH xN i/\(0<=i↔x∈l)/\(0<=i->l[i.toNat]?=dB x/\∀j,j<i.toNat->l[j]?≠dB x)/\i<ii l/\-1<=i)/\h'=h:=by
 refine mY s x ?_;unfold kH;have k:=g.len;refine av (λi:Nat=>(i:Int)) (λi h'=>h'=h/\i<=ii l/\∀j,j<i->l[j]?≠dB x) (λi=>ii l-i) 0 i0 ⟨i0,i4,λj b=>i4⟩ ?_;rintro i n ⟨rfl,o,c⟩;refine aj (λe=>?_) (λe=>?_)
 ·have a:i<ii l:=i4
  refine g.bB i i0 a _ i0 ?_;refine cu (λf=>?_) (λf=>?_)
  ·refine⟨⟨i,i0,⟨λ_=>f▸qg a,λ_=>i4⟩,λ_=>⟨by rw[ql,qd a,f],λj b=>c j i4⟩,i4,i4⟩,i0⟩
  ·refine⟨i+1,js,⟨i0,i4,λj b=>?_⟩,i4⟩;rcases zn.1 b with b|rfl
   ·exact c j b
   ·rw[qd a];intro d;exact f (Option.some.inj d).symm
 ·refine⟨⟨-1,i0,⟨λd=>i4,λd=>?_⟩,λd=>i4,i4,i4⟩,i0⟩;obtain⟨j,b,rfl⟩:=List.getElem_of_mem d;exact absurd (qd b) (c j i4)
theorem Ry(s:Sl)(l:aF)(x:Int)(h:f8)(b:Rd h s 1 aC l)(c:ii l<=2^30):ac xR 84 #[s,xH xN x] h λv h'=>v=xL (decide (x∈l))/\h'=h:=by refine lI s x ?_;unfold jd;refine(index_spec s l x h b c).mono ?_;rintro v d ⟨⟨i,rfl,a,_⟩,rfl⟩;refine⟨i,i0,?_,i0⟩;congr 1;exact decide_eq_decide.2 a
theorem ace(n:Nat)(s:Sl)(l:List Nat){B:aB}{p h:f8}{As:List HP}(H:aa B p h As)(i:Nat)(o:As[i]?=dB (aq 3 s 1 aC (ints l)))(R:n<=64)(K:ii l<=n)(F:∀x∈l,x<n):
  ac xR 135 #[s,xH xN n] h λv h'=>match jO n l with
   |some l'=>v=xL eL/\aa B p h' (As.set i (aq 3 s 1 aC (ints l')))
   |none=>v=xL eR/\h'=h:=by
 refine Re s n ?_;unfold JT;have d:=(H.own i o).len;rw[lY]at d;refine av (λk:Nat=>(k:Int)-1) (λk h'=>h'=h/\k<=ii l/\jO n (l.drop k)=eH) (λk=>k) l.length (by rw[d,ak _]) ⟨i0,qn _,by rw[vx];rfl⟩ ?_;rintro k Q ⟨rfl,S,c⟩;refine aj (λe=>?_) (λe=>?_)
 ·obtain⟨k,rfl⟩:∃j,k=j+1:=⟨k-1,i4⟩
  have a:k<ii l:=i4
  have A:=H.seq i o λ_=>rfl;have g:(((k+1:Nat):Int)-1)=(k:Int):=i4
  have G:=F _ (qg a);have m:jO n (l.drop k)=if l[k]+(ii l-k-1)+1<n then dB (zP (l[k]+1) (ii l-k-1+1))else eH:=by rw[qV a];unfold jO;rw[c];simp[Nat.sub_sub]
  refine A.bB k g (by rw[lY];exact a) _ i0 ?_;rw[Lq a,g,ak ((n:Int)-((s.len:Nat):Int)),ak _];refine aj (λL=>?_) (λL=>?_)
  ·refine A.bB k i0 (by rw[lY];exact a) _ i0 ?_;rw[Lq a,ak _];rw[f9 i4]at m;have J:=Th k l _ i4 m;rw[J];dsimp only;refine H.set af i o (λ_=>rfl) i0 k i0 (by rw[lY];exact a) ((l[k]:Int)+1) i0 i0 i0 λN D=>?_;let b:Nat->List Nat:=λj=>l.take k++zP (l[k]+1) (j+1)++l.drop (k+1+j);have f:(ints l).set k ((l[k]:Int)+1)=ints (b 0):=by
    have:b 0=l.set k (l[k]+1):=by simp only[b];rw[List.set_eq_take_append_cons_drop,f9 a];simp[List.range'_succ]
    rw[this];simp[ints,vT]
   rw[f]at D;refine av (λj:Nat=>((k+1+j:Nat):Int)) (λj h'=>k+1+j<=ii l/\aa B p h' (As.set i (aq 3 s 1 aC (ints (b j))))) (λj=>ii l-j) 0 js ⟨i4,D⟩ ?_;rintro j h3 ⟨P,q⟩;have z:ii (b j)=ii l:=by simp[b];omega
   have w:i<ii As:=(qo.1 o).1;have E:(As.set i (aq 3 s 1 aC (ints (b j))))[i]?=dB (aq 3 s 1 aC (ints (b j))):=zm w;refine aj (λI=>?_) (λI=>?_)
   ·have u:k+1+j<ii l:=i4
    have r:(b j)[k+j]'(by omega)=l[k]+1+j:=by simp only[b,qp];rw[List.getElem_append_right i7,List.getElem_append_left i7];simp[List.getElem_range'];omega
    refine(q.seq i E λ_=>rfl).bB (k+j) j3 (by rw[lY];omega) _ i0 ?_;rw[Lq i4,r,ak _];refine q.set af i E (λ_=>rfl) i0 (k+1+j) i0 (by rw[lY];omega) (((l[k]+1+j:Nat):Int)+1) i0 i0 i0 λO t=>?_;refine⟨j+1,j3,⟨i4,?_⟩,i4⟩;rw[yG]at t;have:(ints (b j)).set (k+1+j) (((l[k]+1+j:Nat):Int)+1)=ints (b (j+1)):=by
     have M:(b j).set (k+1+j) (l[k]+1+j+1)=b (j+1):=by
      simp only[b];rw[q7 _ _ i7];have:k+1+j-ii (List.take k l++zP (l[k]+1) (j+1))=0:=i7
      rw[this,qV u,zq,List.range'_concat (n:=j+1)];simp[w9]
     rw[<-M];simp[ints,vT]
    rw[this]at t;exact t
   ·have y:k+1+j=ii l:=i4
    refine⟨i0,?_⟩;have:l.take k++zP (l[k]+1) (ii l-k-1+1)=b j:=by simp only[b];rw[y,vx,qN,show l.length-k-1+1=j+1 by omega]
    rw[this];exact q
  ·rw[g0 i4]at m;exact⟨k,by rw[ak _],⟨i0,i4,m⟩,i4⟩
 ·have:k=0:=i4
  subst this;rw[List.drop_zero]at c;rw[c];exact⟨i0,i0⟩
theorem aej(a b:Sl)(c d:Row)(h:f8)(l:Rd h a 1 aE c)(j:Rd h b 1 aE d)(u:ii c=ii d)(y:ii c<=2^30):ac xR 253 #[a,b] h λv h'=>∃r:Sl,v=.tuple #[r,xL eL]/\Sp h h' [aq 5 r 1 aE (zh (·^^^·) c d)]:=by
 refine VI a b ?_;unfold Qb;have x:=l.len;have q:=j.len;refine cv (λe=>i4) λ_=>?_;refine(Sp.refl h).make af aE gj i5 0 i0 i0 c.length c.length i4 i4 (qn _) i4 λs h3 m w n=>?_;refine av (λk:Nat=>(k:Int)) (λk h'=>k<=ii c/\Sp h h' [aq 5 s 1 aE (zh (·^^^·) (c.take k) (d.take k)++qh (ii c-k) 0)]) (λk=>ii c-k) 0 i0 ⟨i4,n4⟩ ?_;rintro k t ⟨A,g⟩;refine aj (λe=>?_) (λe=>?_)
 ·have f:k<ii c:=i4
  refine(Seq.up l g.ai).bB k i0 f _ i0 ?_;refine(Seq.up j g.ai).bB k i0 i4 _ i0 ?_;rw[ne];refine g.set af 0 i0 (λ_=>rfl) i0 k i0 i7 (c[k]^^^d[k]) i0 i0 i0 λz p=>⟨trivial,?_⟩
  refine⟨k+1,js,⟨i4,?_⟩,i4⟩;have i:ii (zh (·^^^·) (c.take k) (d.take k))=k:=i7
  have o:(zh (·^^^·) (c.take k) (d.take k)++qh (ii c-k) (0:UInt8)).set k (c[k]^^^d[k])=zh (·^^^·) (c.take (k+1)) (d.take (k+1))++qh (ii c-(k+1)) 0:=by rw[q7 _ _ i4,i,zc,show c.length-k=ii c-(k+1)+1 by omega,yt,zq,aK _ _ f,aK _ _ (show k<ii d by omega),List.zipWith_append i7,qp];rfl
  rw[<-o];exact p
 ·have:k=ii c:=i4
  subst this;refine⟨s,i0,?_⟩;rw[qi (qn _),qi i4,zc,vd,qN]at g;exact g
theorem agv(c:UInt8)(a b:Row):zh (·^^^·) (scaleB c a) b=cR c a b:=by unfold scaleB cR;rw[List.zipWith_map_left];congr 1;funext x y;exact UInt8.xor_comm _ _
theorem acf(f:fz)(c:UInt8)(a b:Sl)(d e:Row)(h:f8)(m:fw h f)(q:Rd h a 1 aE d)(l:Rd h b 1 aE e)(o:ii d=ii e)(j:ii d<=2^30):
  ac xR 207 #[xJ (dB f),xH xO c.toNat,a,b] h λv h'=>∃r:Sl,v=.tuple #[r,xL eL]/\Sp h h' [aq 5 r 1 aE (cR c d e)]:=by
 refine TF (dB f) _ a b ?_;unfold ML;refine(Ng f c a d h m q j).mono ?_;rintro v p ⟨r,rfl,g⟩;refine⟨r,i0,(aej r b _ e p (g.seq 0 i0 λ_=>rfl) (Seq.up l g.ai) (by rw[oP];exact o) (by rw[oP];exact j)).mono ?_⟩;rintro v s ⟨w,rfl,n⟩;refine⟨(w,eL),i0,w,i0,?_⟩;rw[<-agv];exact(g.comp n).take 1 λi A k=>by cases i with|zero=>exact k|succ i=>simp at k
def gd(f:fz)(n:Nat)(a:Sl):be:=[xJ (dB f),xH xN n,a]
def gX(b f:fz)(n:Nat)(M:aQ):HP:=.ex λa:Sl=>(aw b 200 (gd f n a)).sep (bX 34 a 1 bt (ct 1 aE) M)
theorem acg(d f:fz)(n:Nat)(c r:Sl)(M:aQ)(l:Row)(h:f8)(g:cA h d 200 (gd f n c))(B:fw h f)(G:dX (bE (ct 1 aE) 1 bt) h c M)(E:Rd h r 1 aE l)
  (O:ii l=n) (W:n<=64) (m:aZ n M) (z:∀x∈M,eU x<n) (P:ii M<=2^30):
  ac xR 138 #[xJ (dB d),r] h λv h'=>∃w:Sl,v=.tuple #[w,xL eL]/\Sp h h' [aq 5 w 1 aE (dZ M l)]:=by
 refine Hr (dB d) r ?_;unfold Ar;have N:=E.len;have R:=bE.len G;refine bg ?_;refine bv (λe=>j0) λ_=>?_;refine⟨d,i0,n,g.cell i0,cv (λe=>i4) λ_=>?_⟩;refine(eI r l h E i4).mono ?_;rintro v V ⟨w,rfl,D⟩;refine⟨w,i0,d,i0,c,(g.ai D.ai g.lt).cell i0,?_⟩;refine av (λt:Sl×Nat=>(t.1,(t.2:Int))) (λt h'=>t.2<=ii M/\Sp h h' [aq 5 t.1 1 aE (dZ (M.take t.2) l)]) (λt=>ii M-t.2) (w,0) i0 ⟨i9,by simpa[dZ]using D⟩ ?_;rintro⟨o,k⟩ K ⟨X,a⟩;dsimp only at*;refine aj (λe=>?_) (λe=>?_)
 ·have b:k<ii M:=i4
  have S:M[k].length=n:=m _ (qg _);have I:=z _ (qg b);have s:aZ n (M.take k):=λx y=>m x (zD y);have u:=KG s O;have T:=(a.own 0 i0).len;refine bE.nN (dX.up G a.ai) k i0 b λx y=>?_;refine(Iu x _ K y).mono ?_;rintro v h3 ⟨rfl,rfl⟩;refine⟨_,i0,?_⟩;dsimp only;rw[f9 i4];refine(a.seq 0 i0 λ_=>rfl).bB (eU M[k]) i0 i4 _ i0 ?_;have p:(dZ (M.take k) l)[eU M[k]]'(by omega)=aP (dZ (M.take k) l) (eU M[k]):=(On i4).symm;have q:dZ (M.take (k+1)) l=cR (aP (dZ (M.take k) l) (eU M[k])) M[k] (dZ (M.take k) l):=by unfold dZ;rw[aK _ _ b,zN];rfl
  rw[p];refine cv (λF=>?_) (λF=>?_)
  ·refine⟨d,i0,dB f,(g.ai a.ai g.lt).cell0 i0,?_⟩;refine(acf f (aP (dZ (M.take k) l) (eU M[k])) x o M[k] _ h3 (B.ai a.ai B.lt) y (a.seq 0 i0 λ_=>rfl) i4 i4).mono ?_;rintro v U ⟨J,rfl,Q⟩;refine⟨(J,eL),i0,⟨(J,k+1),jj,⟨i6,?_⟩,i6⟩⟩;dsimp only;rw[q];exact(a.comp Q).take 1 λi A H=>by cases i with|zero=>exact H|succ i=>simp at H
  ·refine⟨(o,k+1),jj,⟨i6,?_⟩,i6⟩;have L:aP (dZ (M.take k) l) (eU M[k])=0:=CE.1 F;have:dZ (M.take (k+1)) l=dZ (M.take k) l:=by rw[q,L];refine ez (n:=n) (by rw[bT];exact u) u λj _=>?_;rw[cG i4,Gf.zero_mul,UInt8.xor_zero]
   dsimp only;rw[this];exact a
 ·refine⟨o,i0,?_⟩;rw[qi i4]at a;exact a
theorem Rz(f:fz)(n:Nat)(h:f8)(j:n<=64):ac xR 69 #[xJ (dB f),xH xN n] h λv h'=>∃c:fz,v=xJ (dB c)/\Sp h h' [gX c f n []]:=by refine Tq (dB f) n ?_;unfold Mj;refine bg ?_;refine aj (λe=>i4) λ_=>aj (λe=>i4) λ_=>?_;refine bg ?_;refine bv (λe=>j0) λ_=>?_;refine(Sp.refl h).boxed λa i g=>?_;refine⟨a,i0,?_⟩;have d:=(g.Gw 34 1 bt (ct 1 aE)).join 0 1 i5 i0 i0;exact(d.close' (F:=λb:Sl=>(aw a 200 (gd f n b)).sep (bX 34 b 1 bt (ct 1 aE) [])) 0 ⟨eH,0,0⟩ i0).del 1
theorem gX.open{B:aB}{c h:f8}{As:List HP}{b f:fz}{n:Nat}{M:aQ}(H:aa B c h (gX b f n M::As)):
  ∃a:Sl,aa B c h (bX 34 a 1 bt (ct 1 aE) M::aw b 200 (gd f n a)::As):=by
 obtain⟨a,d⟩:=H.DV;exact⟨a,d.Gy⟩
theorem gX.close{B:aB}{c h:f8}{As:List HP}{b f:fz}{n:Nat}{M:aQ}{a:Sl}(H:aa B c h (bX 34 a 1 bt (ct 1 aE) M::aw b 200 (gd f n a)::As)):
  aa B c h (gX b f n M::As):=H.ov.Gx (F:=λa:Sl=>(aw b 200 (gd f n a)).sep (bX 34 a 1 bt (ct 1 aE) M)) a
theorem DK(a f:fz)(n:Nat)(M:aQ){B:aB}{d h:f8}{As:List HP}(H:aa B d h (gX a f n M::As)):ac xR 141 #[xJ (dB a)] h λv h'=>v=xH xN M.length/\h'=h:=by refine Hs (dB a) ?_;unfold Au;obtain⟨b,c⟩:=gX.open H;refine bv (λe=>j0) λ_=>?_;exact⟨a,i0,b,(c.box 1 i0).cell i0,by rw[(c.XH 0 i0).1],i0⟩
theorem FU(d f:fz)(n:Nat)(M:aQ)(r:Sl)(l:Row){B:aB}{o h:f8}{As:List HP}(H:aa B o h (gX d f n M::As))(E:St B o As λh=>fw h f)(R:Rd h r 1 aE l)
  (G:ii l=n) (J:n<=64) (j:aZ n M) (A:∀x∈M,eU x<n) (N:ii M<=64):
  ac xR 71 #[xJ (dB d),r] h λv h'=>(∃b,v=xL b)/\aa B o h' (gX d f n (Tb M l)::As):=by
 refine Jp (dB d) r ?_;unfold BL;obtain⟨m,t⟩:=gX.open H;have k:=KG j G;refine(acg d f n m r M l h (t.box 1 i0) (E [_,_] h t) (t.Pz 0 i0 λ_=>rfl) R G J j A i4).mono ?_;rintro v S ⟨w,rfl,F⟩;have K:=t.cD F;have L:=F.seq 0 i0 λ_=>rfl;refine⟨(w,eL),i0,bg ?_⟩;refine bm (λe=>j0) λ_=>?_;refine(Iu w _ S L).mono ?_;rintro v Z ⟨rfl,rfl⟩;refine⟨_,i0,?_⟩;dsimp only;by_cases a:eU (dZ M l)<ii (dZ M l)
 ·rw[f9 a];refine wn (hU (Int.not_lt.2 (zY _))) ?_;have u:=K.Bq 0 i0 λ_=>rfl;have c:=u.box 2 i0;refine⟨d,i0,dB f,c.cell0 i0,d,i0,m,c.cell i0,?_⟩;have p:aZ n (M++[dZ M l]):=mP j k;refine u.oO af bt fj i0 [w] i0 (show 1*1<=2^20 by decide) i0 ⟨c.cell i0,c.cell0 i0,trivial⟩ ?_;refine u.sH af 1 0 i5 i0 i0 fj i0 i5 (λ_=>rfl) iU i0 i5 i4 λD s O=>?_;have g:aa B o s (bX 34 D 1 bt (ct 1 aE) (M++[dZ M l])::aw d 200 (gd f n m)::As):=O.ou;have z:=g.box 1 i0;refine⟨⟨z.cell0 i0,trivial⟩,?_⟩;refine(Ke f D _ n s (E [_,_] s g) (bE.tofF (g.Pz 0 i0 λ_=>rfl)) p J i7).mono ?_;rintro v W ⟨q,rs,rfl,T,y,V,Q⟩;have i:=(gG p (eu (M++[dZ M l]))).2;have X:Sp s W [bX 34 ⟨q.ptr,bW (M++[dZ M l]),q.cap⟩ 1 bt (ct 1 aE) (mS (M++[dZ M l]))]:=by have:=aa.afv (As:=[]) Q (by rw[i];exact y) (λ_=>rfl) (bW (M++[dZ M l])) (by rw[i];omega);exact this
  have U:=g.cD X;refine⟨q,i0,trivial,d,i0,?_⟩;refine U.storeAt af 2 i0 i0 (off:=2) (v:=xI q.ptr q.len q.cap) i0 i0 i0 (by simp[gd]) λP I=>⟨trivial,⟨_,i0⟩,?_⟩
  have Y:aa B o P (bX 34 ⟨q.ptr,bW (M++[dZ M l]),q.cap⟩ 1 bt (ct 1 aE) (mS (M++[dZ M l]))::bX 34 D 1 bt (ct 1 aE) (M++[dZ M l])::aw d 200 (gd f n ⟨q.ptr,bW (M++[dZ M l]),q.cap⟩)::As):=by rw[show q.len=bW (M++[dZ M l])from T]at I;exact I
  rw[Tb,f9 a];exact gX.close Y.pC
 ·rw[g0 a];refine Gr (g9 i5) ⟨⟨_,i0⟩,?_⟩;rw[Tb,g0 a];exact gX.close K.ou
theorem RB(g f:fz)(n:Nat)(M:aQ)(b:Sl)(h:f8)(o:cA h g 200 (gd f n b))(d:dX (bE (ct 1 aE) 1 bt) h b M)(q:ii M<=64)(j:aZ n M)(D:n<=64):
  ac xR 210 #[xJ (dB g)] h λv h'=>∃r:Sl,v=r/\Sp h h' [bX 34 r 1 bt (ct 1 aE) M]:=by
 refine HG (dB g) ?_;unfold Ay;refine bv (λe=>j0) λ_=>?_;have l:=bE.len d;refine⟨g,i0,b,o.cell i0,?_⟩;refine av (λt:Sl×Nat=>(t.1,(t.2:Int))) (λt h'=>t.2<=ii M/\Sp h h' [bX 34 t.1 1 bt (ct 1 aE) (M.take t.2)]) (λt=>ii M-t.2) (⟨eH,0,0⟩,0) i0 ⟨i9,(Sp.refl h).Gw 34 1 bt (ct 1 aE)⟩ ?_;rintro⟨s,k⟩ m ⟨E,i⟩;dsimp only at*;refine aj (λe=>?_) (λe=>?_)
 ·have a:k<ii M:=i4
  have A:=j _ (qg a);refine bE.nN (dX.up d i.ai) k i0 a λx p=>?_;refine(eI x M[k] m p i4).mono ?_;rintro v h3 ⟨c,rfl,y⟩;have u:=(i.cD y).Bq 0 i0 λ_=>rfl;refine⟨c,i0,?_⟩;refine u.sH af 1 0 i5 i0 i0 fj i0 i5 (λ_=>rfl) iU i0 i5 i7 λz B w=>?_;refine⟨(z,k+1),jj,⟨i6,?_⟩,i6⟩;dsimp only;rw[aK _ _ a];exact w.ou
 ·rw[qi i4]at i;exact⟨s,i0,i⟩
theorem gX.rd{B:aB}{q h:f8}{As:List HP}{k f:fz}{n:Nat}{M:aQ}(H:aa B q h As)(i:Nat)(t:As[i]?=dB (gX k f n M)):∃g:Sl,cA h k 200 (gd f n g)/\dX (bE (ct 1 aE) 1 bt) h g M:=by obtain⟨g,y,u,z,v,m,p,rs,w,a,b,c,d,e⟩:=H.at i t;exact⟨g,p.1,rs,a.seq (λ_=>rfl) λx j=>m x (b x j).1,d,λi r l s o=>(ct 1 aE).mono (e i r l s o) λx j=>m x (c x j)⟩
theorem Po(b f:fz)(n:Nat)(M:aQ)(c:Sl)(h:f8)(d:cA h b 200 (gd f n c))(l:dX (bE (ct 1 aE) 1 bt) h c M)(j:ii M<=64)(i:aZ n M)(t:n<=64):
  ac xR 140 #[xJ (dB b)] h λv h'=>∃g:fz,v=xJ (dB g)/\Sp h h' [gX g f n M]:=by
 refine Ga (dB b) ?_;unfold uw;refine bv (λe=>j0) λ_=>?_;refine⟨b,i0,dB f,d.cell0 i0,b,i0,n,d.cell i0,?_⟩;have m:aA.ok [(b.add 1,(xH xN (n:Int))),(b,(xJ (dB f)))] h:=⟨d.cell i0,d.cell0 i0,trivial⟩
 refine(RB b f n M c h d l j i t).mono ?_;rintro v u ⟨r,rfl,o⟩;have k:=kf o.ai m;refine⟨r,i0,k,o.boxed λa q p=>?_⟩;have s:Sp h q (aw a 200 (gd f n r)::bX 34 r 1 bt (ct 1 aE) M::[]):=p.bN;refine⟨kf p.ai m,a,i0,?_⟩;exact gX.close s.sV
def dc(p:Pm)(seed:Int)(ids:aF):aQ:=if bI p then(ids.filter bV).map (oC (bS p).toNat seed)else[]
theorem Kk{p:Pm}{seed:Int}{ids:aF}{k:Nat}(b:k<ii ids):dc p seed (ids.take (k+1))=dc p seed (ids.take k)++(if(bI p&&bV ids[k])=eL then[oC (bS p).toNat seed ids[k]]else[]):=by
 unfold dc;by_cases a:bI p=eL
 ·rw[f9 a,f9 a,oD b];by_cases h:bV ids[k]=eL
  ·rw[f9 h,f9 (by rw[a,h];rfl),qT];rfl
  ·rw[g0 h,g0 rb,qN]
 ·rw[g0 a,g0 a,g0 l7];rfl
theorem WE(p:Pm)(seed:Int)(ids:aF):aZ (bS p).toNat (dc p seed ids):=λr a=>by
 unfold dc at a;split at a
 ·obtain⟨i,_,rfl⟩:=qw.1 a;exact SC _ _ _
 ·cases a
theorem NN(p:Pm)(seed:Int)(ids:aF):ii (dc p seed ids)<=ii ids:=by
 unfold dc;split
 ·rw[qy];exact qP _ _
 ·simp
abbrev IC:iM Sl aQ:=bE (ct 1 aE) 1 bt
theorem ach(p:Pm)(seed:Int)(w:Sl)(W:cV)(h:f8)(H:dX (bE (ct 1 aC) 1 bt) h w W)(Y:ii W<=2^20)(M:∀l∈W,ii l<=2^20):
  ac xR 72 #[jU p,xH xP seed,w] h λv h'=>∃r:Sl,v=r/\Sp h h' [bX 85 r 1 bt IC (W.map (dc p seed))]:=by
 refine Ml p seed w ?_;unfold Fu;obtain⟨S,y,N,G⟩:=bE.kO H;have J:=y.len;refine(Sp.refl h).boxed λa Z I=>?_;refine av (λt:Sl×Nat=>(t.1,(t.2:Int))) (λt h'=>t.2<=ii W/\Sp h h' [bX 85 t.1 1 bt IC ((W.take t.2).map (dc p seed)),aw a 24 [xH xN p.1,xH xN p.2.1,xH xN p.2.2]]) (λt=>ii W-t.2) (⟨eH,0,0⟩,0) i0 ⟨i9,(I.Gw 85 1 bt IC).bN⟩ ?_;rintro⟨o,k⟩ U ⟨hk,z⟩;dsimp only at*;refine aj (λe=>?_) (λe=>?_)
 ·have g:k<ii W:=i4
  have Q:=M _ (qg g);have A:=G k i4 g;refine(Seq.up y z.ai).lM k i0 i4 ?_;generalize S[k]'(by omega)=x at A;have R:=Seq.len A;refine av (λt:Sl×Nat=>(t.1,(t.2:Int))) (λt h'=>t.2<=W[k].length/\Sp h h' [bX 34 t.1 1 bt (ct 1 aE) (dc p seed (W[k].take t.2)),bX 85 o 1 bt IC ((W.take k).map (dc p seed)),aw a 24 [xH xN p.1,xH xN p.2.1,xH xN p.2.2]]) (λt=>W[k].length-t.2) (⟨eH,0,0⟩,0) i0 ⟨i9,by
    have:=(z.Gw 34 1 bt (ct 1 aE)).bN;have O:dc p seed []=[]:=by unfold dc;split<;>rfl
    dsimp only;rw[List.take_zero,O];exact this⟩ ?_
  rintro⟨s,j⟩ h3 ⟨X,q⟩;dsimp only at*;refine aj (λP=>?_) (λP=>?_)
  ·have i:j<W[k].length:=i4
   refine(Seq.up A q.ai).bB j i0 i _ i0 ?_;refine⟨p,(q.box 2 i0).aS _ i0,(TV p seed W[k][j] h3).mono ?_⟩;rintro v V ⟨c,rfl,L,f⟩;refine⟨c,i0,?_⟩;have u:=(q.cD L).Bq 0 i0 λ_=>rfl;have m:=NN p seed (W[k].take j);rw[qU]at m;refine bm (λn=>?_) (λn=>?_)
   ·rw[f]at n;have d:(bI p&&bV W[k][j])=eL:=n4
    rw[d,f9 rfl]at u;refine u.sH af 1 0 i5 i0 i0 fj i0 i5 (λ_=>rfl) iU i0 i5 i4 λF T D=>?_;have B:=D.ou;refine⟨(F,j+1),jj,⟨i6,?_⟩,i6⟩;dsimp only;rw[Kk i,f9 d];exact B
   ·rw[f]at n;have d:¬(bI p&&bV W[k][j])=eL:=λK=>by rw[K]at n;cases n
    refine⟨(s,j+1),jj,⟨i6,?_⟩,i6⟩;dsimp only;rw[Kk i,g0 d,qN];exact u.ou
  ·rw[qi i4]at q;have u:=q.WP 0 i0 λ_=>rfl;refine u.sH af 1 0 i5 (E:=IC) (a:=s) (b:=dc p seed W[k]) i0 i0 (⟨_,_,i0,i0,i0,i0,i0,i0⟩:bL C.toCM 129 85 1 [xI eH 0 0] 24) i0 i5 (λ_=>rfl) iU i0 i5 i7 λF T D=>?_;refine⟨(F,k+1),jj,⟨i6,?_⟩,i6⟩;dsimp only;rw[aK _ _ g,qT];exact D.ou
 ·rw[qi i4]at z;exact⟨o,i0,z.pC⟩
def lD(R:List aQ)(a:aF):Nat->aQ
 |0=>[]
 |k+1=>lD R a k++if(k:Int)∈a then[]else R.getD k []
theorem QH{n:Nat}{R:List aQ}(c:∀m∈R,aZ n m)(b:aF):∀k,aZ n (lD R b k)
 |0=>λr a=>by cases a
 |k+1=>λr a=>by
  rcases qz.1 a with a|a
  ·exact QH c b k r a
  ·split at a
   ·cases a
   ·rw[qe]at a;cases hg:R[k]? with
    |none=>rw[hg]at a;cases a
    |some m=>rw[hg]at a;exact c m (List.mem_of_getElem? hg) r a
theorem UY(R:List aQ)(a:aF):∀{j k:Nat},j<=k->∃X,lD R a k=lD R a j++X
 |j,0,h=>⟨[],by
   have:j=0:=i4
   subst this;simp⟩
 |j,k+1,h=>by
  by_cases c:j=k+1
  ·subst c;exact⟨[],i9⟩
  ·obtain⟨X,b⟩:=UY R a (j:=j) (k:=k) i4;exact⟨X++if(k:Int)∈a then[]else R.getD k [],by rw[lD,b,qp]⟩
theorem aek{n:Nat}{m:aQ}(d:aZ n m)(h:bW m=n){b:aQ}(a:aZ n b)(c:∀r∈m,r∈b):bW b=n:=by have f:=mO a;have e:=PF d a c;omega
theorem WF(J f:fz)(n:Nat)(M A:aQ)(z l g:Sl)(R:List aQ)(a:aF)(h:f8)(hb:cA h J 200 (gd f n z))(T:dX IC h z M)(Q:fw h f)(hl:dX (bE IC 1 bt) h l R)(hg:Rd h g 1 aC a)
  (Y:n<=64) (i:Ep n M A) (Z:∀m∈R,aZ n m/\m.length<=2^20) (ad:ii R<=2^20) (L:ii a<=2^30):
  ac xR 73 #[xJ (dB J),l,g,xH xN n] h λv h'=>v=xL (decide (bW (A++lD R a R.length)=n))/\Sp h h' []:=by
 refine Mm (dB J) l g n ?_;unfold Fv;obtain⟨ls,G,ab,N⟩:=bE.kO hl;have ao:=G.len;have p:∀{q A':aQ},Ep n q A'->ii q<=64:=λx=>by have:=x.len;have:=mO x.evenA;omega
 have O:St (λb=>b<h.size) h [] λh'=>fw h' f:=.base Q λh' hp=>Q.ai hp Q.lt;have S:aZ n (A++lD R a R.length):=λr d=>(qz.1 d).elim (i.evenA r) (QH (λm hm=>(Z m hm).1) a _ r);refine(Po J f n M z h hb T (p i) i.even Y).mono ?_;rintro v h1 ⟨s,rfl,R1⟩;refine⟨dB s,i0,?_⟩;refine av (λk:Nat=>(k:Int)) (λk h'=>k<=ii R/\∃q,Ep n q (A++lD R a k)/\Sp h h' [gX s f n q]) (λk=>ii R-k) 0 i0 ⟨i4,M,by simpa[lD]using i,R1⟩ ?_;rintro k h2 ⟨hk,M2,u,B⟩;refine aj (λe=>?_) (λe=>?_)
 ·have t:k<ii R:=i4
  have U:=N k i4 t;refine(Seq.up G B.ai).lM k i0 i4 ?_;generalize ls[k]'(by omega)=x at U;have E:=Z _ (qg t);refine(Ry g a k h2 (Seq.up hg B.ai) L).mono ?_;rintro v h3 ⟨rfl,rfl⟩;refine⟨_,i0,aj (λP=>?_) λo=>?_⟩
  ·refine⟨k+1,js,⟨i4,M2,?_,B⟩,i4⟩;rw[lD,f9 P,qN];exact u
  ·obtain⟨xs,F,am,K⟩:=bE.kO U;have ap:=F.len;have H:R.getD k []=R[k]:=by rw[qe,qd t];rfl
   refine av (λj:Nat=>(j:Int)) (λj h'=>j<=R[k].length/\∃q,Ep n q ((A++lD R a k)++R[k].take j)/\Sp h h' [gX s f n q]) (λj=>R[k].length-j) 0 i0 ⟨i4,M2,o5,B⟩ ?_;rintro j h4 ⟨hj,I,c,D⟩;refine aj (λe2=>?_) (λe2=>?_)
   ·have w:j<R[k].length:=i4
    have hy:=K j i4 w;refine(Seq.up F D.ai).lM j i0 i4 ?_;generalize xs[j]'(by omega)=y at hy;refine(DK s f n I D).mono ?_;rintro v h5 ⟨rfl,rfl⟩;refine⟨_,i0,cu (λe3=>?_) λe3=>?_⟩
    ·refine⟨?_,.zip D.ai⟩;have ah:((ii I:Nat):Int)=(n:Int):=e3;have W:bW ((A++lD R a k)++R[k].take j)=n:=by have:=c.len;omega
     have h7:bW (A++lD R a R.length)=n:=by
      refine aek c.evenA W S λr d=>?_;obtain⟨X,hX⟩:=UY R a (j:=k+1) (k:=ii R) i4;rw[hX,lD,g0 o,H];simp only[qz]at d⊢;rcases d with(d|d)|d
      ·exact .inl d
      ·exact .inr (.inl (.inl d))
      ·exact .inr (.inl (.inr (zD d)))
     rw[h7];simp
    ·refine(FU s f n I y _ D O (Seq.up hy D.ai) (E.1 _ (qg _)) Y c.even c.lead (p c)).mono ?_;rintro v W ⟨⟨b,rfl⟩,H6⟩;refine⟨b,i0,⟨j+1,js,⟨i4,_,?_,H6⟩,i4⟩⟩;have:=aax c (E.1 _ (qg w));rw[aK _ _ w,<-qp];exact this
   ·refine⟨k+1,js,⟨i4,I,?_,D⟩,i4⟩;rw[qi i4]at c;rw[lD,g0 o,H,<-qp];exact c
 ·have:k=ii R:=i4
  subst this;refine(DK s f n M2 B).mono ?_;rintro v h5 ⟨rfl,rfl⟩;refine⟨_,i0,?_,.zip B.ai⟩;have:=u.len;congr 1;by_cases V:bW (A++lD R a R.length)=n
  ·rw[g9 V];exact beq_iff_eq.2 (show((ii M2:Nat):Int)=n by omega)
  ·rw[hU V];exact beq_eq_false_iff_ne.2 (show((ii M2:Nat):Int)≠n by omega)
def Cc(n t:Nat):cV:=(kl t 0 n).map ints
def ID(n t:Int)(h:f8)(v:Value)(h':f8):Prop:=
 if 0<=n/\n<=64/\0<=t/\t<=n then
  if iV n t>4096 then v=.tuple #[xI eH 0 0,xH xN 13]/\h'=h
  else∃r:Sl,v=.tuple #[r,xH xN 0]/\Sp h h' [bX 22 r 1 bt (ct 1 aC) (Cc n.toNat t.toNat)]
 else v=.tuple #[xI eH 0 0,xH xN 1]/\h'=h
theorem UZ(n t:Int)(h:f8)(hn:0<=n/\n<=2^30)(ht:(0:Int)<=0):ac xR 68 #[xH xN n,xH xN t] h (ID n t h):=by
 refine Tp n t ?_;unfold Mi;refine(DI n t h).mono ?_;rintro v K ⟨rfl,rfl⟩;refine⟨_,i0,bm (λe=>?_) λe=>?_⟩
 ·show ID n t K _ K;unfold ID;rw[g0 (of_decide_eq_false e)];exact⟨i0,i0⟩
 ·have e:=hY e;refine(DJ n t K i4 i4).mono ?_;rintro v i ⟨rfl,rfl⟩;refine⟨_,i0,aj (λu=>?_) λu=>?_⟩
  ·show ID n t i _ i;unfold ID;rw[f9 e,f9 u];exact⟨i0,i0⟩
  ·refine(λO=>?_:(∀(v:Value) (h':f8),(∃r:Sl,v=.tuple #[r,xH xN 0]/\Sp i h' [bX 22 r 1 bt (ct 1 aC) (Cc n.toNat t.toNat)])->ID n t i v h')->_) (λv h' l=>by unfold ID;rw[f9 e,g0 u];exact l);obtain⟨N,rfl⟩:∃N:Nat,n=N:=⟨n.toNat,i4⟩
   obtain⟨T,rfl⟩:∃T:Nat,t=T:=⟨t.toNat,i4⟩
   have V:ii (kl T 0 N)<=4096:=by
    rw[KJ N T 0 i4];have:iV (N:Int) T=((min (ch N T) 4097:Nat):Int):=by unfold iV;rw[f9 e];rfl
    rw[this]at u;have am:¬(((min (ch N T) 4097:Nat):Int)>4096):=u;simp;omega
   refine(Sp.refl i).make af aC lx i5 0 i0 i0 T T i0 i0 (qn _) i4 λs h3 ad W H3=>?_;refine av (λk:Nat=>(k:Int)) (λk h'=>k<=T/\Sp i h' [aq 3 s 1 aC (ints (zP 0 k++qh (T-k) 0))]) (λk=>T-k) 0 i0 ⟨i4,by
    have P:ints (zP 0 0++qh (T-0) 0)=qh T 0:=by simp[ints]
    rw[P];exact H3⟩ ?_
   rintro k X ⟨hk,A⟩;refine aj (λe3=>?_) (λe3=>?_)
   ·have ah:k<T:=i4
    refine A.set af 0 i0 (λ_=>rfl) i0 k i0 (by simp[ints];omega) (k:Int) i0 i0 i0 λh5 B=>?_;refine⟨k+1,js,⟨i4,?_⟩,i4⟩;have P:(ints (zP 0 k++qh (T-k) 0)).set k (k:Int)=ints (zP 0 (k+1)++qh (T-(k+1)) 0):=by
     have:(zP 0 k++qh (T-k) 0).set k k=zP 0 (k+1)++qh (T-(k+1)) 0:=by rw[q7 _ _ i9,List.length_range',zc,show T-k=T-(k+1)+1 by omega,yt,zq,List.range'_concat];simp
     rw[<-this];simp[ints,vT]
    rw[P]at B;exact B
   ·have:k=T:=i4
    subst this;rw[zc,vd,qN]at A;refine(jy s _ X (A.seq 0 i0 λ_=>rfl) (by simp[ints];omega)).mono ?_;rintro v h5 ⟨c,rfl,R5⟩;have B:=(A.cD R5).Bq 0 i0 λ_=>rfl;refine⟨c,i0,?_⟩;refine B.lit af bt (⟨_,_,i0,i0,i0,i0,i0,i0⟩:bL C.toCM 51 22 1 [xI eH 0 0] 24) i0 [c] i0 (show 1*1<=2^20 by decide) i0 λo h6 Z=>?_;have H7:Sp i h6 (bX 22 o 1 bt (ct 1 aC) [ints (zP 0 k)]::aq 3 s 1 aC (ints (zP 0 k))::[]):=(Z.agN (E:=ct 1 aC) (a:=c) (b:=ints (zP 0 k)) 2 0 i5 i0 i0).bN.pC;have R:=Ha N k 0 i4;refine av (λx:Sl×List (List Nat)×List Nat×List (List Nat)=>x.1) (λx h'=>x.2.1++x.2.2.2=kl k 0 N/\pO N x.2.2.1 x.2.2.2/\x.2.2.1.length=k/\(∀y∈x.2.2.1,y<N)/\Sp i h' [bX 22 x.1 1 bt (ct 1 aC) ((x.2.1++[x.2.2.1]).map ints),aq 3 s 1 aC (ints x.2.2.1)]) (λx=>ii x.2.2.2) (o,[],zP 0 k,kl k 0 N) i0 ⟨i0,R,i9,λy I=>by rw[List.mem_range'_1]at I;omega,by simpa using H7⟩ ?_;rintro⟨o,g,f,rest⟩ h8 ⟨z,w,ap,F,U⟩;dsimp only at*;refine(ace N s f U 1 i0 i4 i4 F).mono ?_;intro v m l;cases hs:jO N f with
    |none=>
     rw[hs]at l;obtain⟨rfl,rfl⟩:=l;refine⟨eR,i0,?_⟩;refine wn i0 (O _ _ ⟨o,i0,?_⟩);rw[ql,ql];have:rest=[f]:=by
      cases w with
      |last _=>rfl
      |more h _=>rw[hs]at h;cases h
     rw[this]at z;unfold Cc;rw[<-z];exact U.pC
    |some cur'=>
     rw[hs]at l;obtain⟨rfl,Q⟩:=l;refine⟨eL,i0,Gr i0 ?_⟩;obtain⟨L,D,d⟩:∃L,pO N cur' L/\rest=f::L:=by
      cases w with
      |last h=>rw[hs]at h;cases h
      |more h h'=>rw[hs]at h;injection h with h;subst h;exact⟨_,h',i0⟩
     have j:Sp i m [bX 22 o 1 bt (ct 1 aC) ((g++[f]).map ints),aq 3 s 1 aC (ints cur')]:=Q;have p:cur'∈kl k 0 N:=by
      rw[<-z,d];have:cur'∈L:=by cases D<;>simp
      simp[this]
     have q:=KI p;have ab:ii g+2<=ii (kl k 0 N):=by
      rw[<-z,d];have:1<=ii L:=by cases D<;>simp
      simp;omega
     refine(jy s _ m (j.seq 1 i0 λ_=>rfl) (by rw[lY];omega)).mono ?_;rintro v Y ⟨S,rfl,H⟩;have J:=(j.cD H).Bq 0 i0 λ_=>rfl;refine⟨S,i0,?_⟩;refine J.sH af 1 0 i5 (E:=ct 1 aC) (a:=S) (b:=ints cur') i0 i0 (⟨_,_,i0,i0,i0,i0,i0,i0⟩:bL C.toCM 51 22 1 [xI eH 0 0] 24) i0 i5 (λ_=>rfl) iU i0 i5 i7 λo' ao G=>?_;refine⟨(o',g++[f],cur',L),i0,⟨by dsimp only;rw[<-z,d];simp,D,q.1,λy I=>(q.2.1 y I).2,?_⟩,by dsimp only;rw[d];simp⟩;have M:=G.ou;dsimp only;rw[qT (l₁:=g++[f])];exact M
def sP(W:cV)(a:aF):Nat->aF
 |0=>[]
 |k+1=>sP W a k++if(k:Int)∈a then[]else W.getD k []
def DL(p:Pm)(seed:Int)(W:cV)(a:aF):Nat:=Ef p seed (sP W a W.length)
theorem Zt(p:Pm)(seed:Int)(a b:aF):dc p seed (a++b)=dc p seed a++dc p seed b:=by unfold dc;split<;>simp
theorem QI(p:Pm)(seed:Int)(W:cV)(a:aF):∀k,lD (W.map (dc p seed)) a k=dc p seed (sP W a k)
 |0=>by simp[lD,sP,dc]
 |k+1=>by
  rw[lD,sP,Zt,QI p seed W a k];congr 1;by_cases h:(k:Int)∈a
  ·rw[f9 h,f9 h];simp[dc]
  ·rw[g0 h,g0 h,qe,List.getElem?_map,qe];cases W[k]? with
   |none=>simp[dc]
   |some l=>rfl
theorem aci{p:Pm}(a:bI p=eL)(seed:Int)(ids:aF):dH p seed ids=bD p.1.toNat p.2.1.toNat++dc p seed ids:=by unfold dH dc;rw[f9 a,f9 a]
def Jm(p:Pm)(seed:Int)(W:cV)(t:Nat):Option (aF):=(Cc W.length t).find? λg=>decide ((DL p seed W g:Int)≠bS p)
def kV(p:Pm)(seed:Int)(W:cV)(t:Int):aF×Bool×Int:=
 if bI p then
  if 0<=t/\t<=ii W/\W.length<=64 then
   if iV W.length t>4096 then([],eR,13)
   else match Jm p seed W t.toNat with
    |some g=>(g,eL,0)
    |none=>([],eR,0)
  else([],eR,1)
 else([],eR,1)
theorem Pp(K H:Nat):aZ (K+H) (bD K H):=λr a=>by
 obtain⟨i,_,rfl⟩:=qw.1 a;exact yS _ _ _
theorem QJ{α:Type}(f:α->Bool)(l:List α){k:Nat}(b:k<ii l)(a:(l.take k).find? f=eH):(l.take (k+1)).find? f=if f l[k]then dB l[k]else eH:=by rw[aK _ _ b,List.find?_append,a,Option.none_or,List.find?_cons];cases f l[k]<;>rfl
theorem acj{α:Type}(f:α->Bool)(l:List α){k:Nat}{x:α}(h:(l.take k).find? f=dB x):l.find? f=dB x:=by have:l=l.take k++l.drop k:=(qA k l).symm;rw[this,List.find?_append,h];rfl
theorem NO(p:Pm)(seed:Int)(w:Sl)(W:cV)(t:Int)(h:f8)(hW:dX (bE (ct 1 aC) 1 bt) h w W)(hl:ii W<=2^20)(hr:∀l∈W,ii l<=2^20)(ht:(0:Int)<=0):
  ac xR 23 #[jU p,xH xP seed,w,xH xN t] h λv h'=>∃r:Sl,v=.tuple #[r,xL (kV p seed W t).2.1,xH xN (kV p seed W t).2.2]/\Sp h h' [EA (ct 1 aC) r (kV p seed W t).1]:=by
 refine Mb p seed w t ?_;unfold Fo;have a2:=bE.len hW;have j:∀{h1:f8},aV (λb=>b<h.size) h h1->Sp h h1 [EA (ct 1 aC) ⟨eH,0,0⟩ []]:=λE=>.one E (Seq.nil _ _ _ _ _ _);refine(Sp.refl h).boxed λa h1 H1=>?_;refine⟨p,(H1.box 0 i0).aS _ i0,(dM p h1).mono ?_⟩;rintro v h2 ⟨rfl,R2⟩;have H2:=H1.comp R2;refine⟨_,i0,bm (λe=>?_) λe=>?_⟩
 ·refine⟨⟨eH,0,0⟩,?_,?_⟩<;>(unfold kV;rw[g0 ln])
  exact j H2.ai
 ·have E:bI p=eL:=e;refine(UZ (w.len:Int) t h2 i4 ht).mono ?_;intro v h3 G;unfold ID at G;rw[a2]at G;have Q:(0<=((ii W:Nat):Int)/\((ii W:Nat):Int)<=64/\0<=t/\t<=((ii W:Nat):Int))↔(0<=t/\t<=ii W/\W.length<=64):=i4
  by_cases I:0<=t/\t<=ii W/\W.length<=64
  ·rw[f9 (Q.2 I)]at G;by_cases K:iV W.length t>4096
   ·rw[f9 K]at G;obtain⟨rfl,rfl⟩:=G;refine⟨(⟨eH,0,0⟩,13),i0,cv (λ_=>?_) λe=>j0⟩;refine⟨⟨eH,0,0⟩,?_,?_⟩<;>(unfold kV;rw[f9 E,f9 I,f9 K])
    exact j H2.ai
   ·rw[g0 K]at G;obtain⟨r,rfl,R3⟩:=G;refine⟨(r,0),i0,cv (λe=>absurd i0 e) λ_=>?_⟩;dsimp only;rw[ql]at R3;have wR:kV p seed W t=match Jm p seed W t.toNat with|some g=>(g,eL,0)|none=>([],eR,0):=by unfold kV;rw[f9 E,f9 I,g0 K]
    obtain⟨L,Y⟩:∃L,L=Cc W.length t.toNat:=⟨_,rfl⟩
    rw[<-Y]at R3;have a8:ii L<=4096:=by
     have h6:iV (ii W:Int) t=((min (ch W.length t.toNat) 4097:Nat):Int):=by unfold iV;rw[f9 (Q.2 I)];rfl
     rw[h6]at K;rw[Y,Cc,qy,KJ _ _ 0 i4,Nat.sub_zero];omega
    have H3:Sp h h3 [aw a 24 [xH xN p.1,xH xN p.2.1,xH xN p.2.2],bX 22 r 1 bt (ct 1 aC) L]:=H2.comp R3;have pp:=(ce p).1 E;have ax:bS p=p.1+p.2.1:=oH E;obtain⟨n,hn⟩:∃n:Nat,bS p=n:=⟨(bS p).toNat,i4⟩
    have u:n<=64:=i4
    refine⟨p,(H3.box 0 i0).aS _ i0,(jZ p h3).mono ?_⟩;rintro v h4 ⟨rfl,R4⟩;have H4:=H3.up R4.ai;refine⟨_,i0,(ro h4).mono ?_⟩;rintro v h5 ⟨f,rfl,R5⟩;have H5:=H4.cD R5;rw[hn];refine⟨dB f,i0,(Rz f n h5 u).mono ?_⟩;rintro v h6 ⟨O,rfl,R6⟩;have H6:Sp h h6 [gX O f n [],aw f 197 cU,aw a 24 [xH xN p.1,xH xN p.2.1,xH xN p.2.2],bX 22 r 1 bt (ct 1 aC) L]:=H5.cD R6;refine⟨dB O,i0,p,(H6.box 2 i0).aS _ i0,(ui p h6).mono ?_⟩;rintro v h7 ⟨ar,rfl,R7⟩;rw[f9 E]at R7;obtain⟨A,B⟩:∃A,A=bD p.1.toNat p.2.1.toNat:=⟨_,rfl⟩
    rw[<-B]at R7;have V:aZ n A:=by have:=Pp p.1.toNat p.2.1.toNat;rw[B,show n=p.1.toNat+p.2.1.toNat by omega];exact this
    have bd:ii A<=4:=by rw[B];simp[bD];omega
    have H7:Sp h h7 [gX O f n [],aw f 197 cU,aw a 24 [xH xN p.1,xH xN p.2.1,xH xN p.2.2],bX 22 r 1 bt (ct 1 aC) L,bX 34 ar 1 bt (ct 1 aE) A]:=(H6.comp R7).RK 4 i0;have S:∀{M' A':aQ},Ep n M' A'->ii M'<=64:=λx=>by have:=x.len;have:=mO x.evenA;omega
    refine⟨ar,i0,?_⟩;refine av (λk:Nat=>(k:Int)) (λk h'=>k<=ii A/\∃M,Ep n M (A.take k)/\Sp h h' [gX O f n M,aw f 197 cU,aw a 24 [xH xN p.1,xH xN p.2.1,xH xN p.2.2],bX 22 r 1 bt (ct 1 aC) L,bX 34 ar 1 bt (ct 1 aE) A]) (λk=>ii A-k) 0 i0 ⟨i4,[],by simpa using ahb n,H7⟩ ?_;rintro k h8 ⟨hk,M,s,R⟩;have a9:=(R.XH 4 i0).1;refine aj (λe2=>?_) (λe2=>?_)
    ·have c:k<ii A:=i4
     refine bE.nN (R.Pz 4 i0 λ_=>rfl) k i0 c λx hx=>?_;refine(FU O f n M x _ R (St.gI 0 i0 λh' y=>y.1) hx (V _ (qg _)) u s.even s.lead (S s)).mono ?_;rintro v h9 ⟨⟨b,rfl⟩,Z⟩;refine⟨b,i0,⟨k+1,js,⟨i4,_,?_,Z⟩,i4⟩⟩;rw[aK _ _ c];exact aax s (V _ (qg c))
    ·rw[qi i4]at s;refine⟨p,(R.box 2 i0).aS _ i0,(ach p seed w W h8 (dX.up hW R.ai) hl hr).mono ?_⟩;rintro v h9 ⟨N,rfl,R9⟩;have Z:=R.comp R9;refine⟨N,i0,?_⟩;have a6:∀m∈W.map (dc p seed),aZ n m/\m.length<=2^20:=λm K=>by
      obtain⟨l,a0,rfl⟩:=qw.1 K;refine⟨?_,zi (NN p seed l) (hr l a0)⟩;have:=WE p seed l;rw[hn]at this;exact this
     let d:aF->Bool:=λg=>decide ((DL p seed W g:Int)≠bS p);have wI:Jm p seed W t.toNat=L.find? d:=by unfold Jm;rw[<-Y]
     have bb:=(Z.XH 3 i0).1;refine av (λk:Nat=>(k:Int)) (λk h'=>k<=ii L/\(L.take k).find? d=eH/\Sp h h' [gX O f n M,aw f 197 cU,aw a 24 [xH xN p.1,xH xN p.2.1,xH xN p.2.2],bX 22 r 1 bt (ct 1 aC) L,bX 34 ar 1 bt (ct 1 aE) A,bX 85 N 1 bt IC (W.map (dc p seed))]) (λk=>ii L-k) 0 i0 ⟨i4,i9,Z⟩ ?_;rintro k ay ⟨a7,F,o⟩;refine aj (λe3=>?_) (λe3=>?_)
     ·have c:k<ii L:=i4
      refine bE.aiE (o.Pz 3 i0 λ_=>rfl) k i0 c λad x am J hx=>?_;obtain⟨a5,hb,a4⟩:=gX.rd o 0 rfl;have ah:L[k].length<=2^30:=by
       have ab:L[k]∈Cc W.length t.toNat:=by have h0:L[k]∈L:=qg c;generalize L[k]=y at h0;rw[Y]at h0;exact h0
       obtain⟨g,hg,ao⟩:=qw.1 ab;have:=(KI hg).1;rw[<-ao,lY,this];have:=I.2.1;have:=I.2.2;omega
      refine(WF O f n M A a5 N x (W.map (dc p seed)) L[k] ay hb a4 (o.box 1 i0) (o.Pz 5 i0 λ_=>rfl) hx u s a6 i7 ah).mono ?_;rintro v bk ⟨rfl,T⟩;have a3:(decide (bW (A++lD (W.map (dc p seed)) L[k] (W.map (dc p seed)).length)=n))=!d L[k]:=by
       rw[QI,qy,B,<-aci E];show _=!decide ((DL p seed W L[k]:Int)≠bS p);rw[hn];unfold DL Ef;by_cases hh:bW (dH p seed (sP W L[k] W.length))=n
       ·simp[hh]
       ·rw[hU hh,g9 i4];rfl
      rw[a3];have X:=o.up T.ai;refine⟨_,i0,bm (λe4=>?_) λe4=>?_⟩
      ·have P:d L[k]=eL:=by simpa using e4
       have U:=QJ d L c F;rw[f9 P]at U;have z:kV p seed W t=(L[k],eL,0):=by rw[wR,wI,acj d L U]
       refine⟨x,by rw[z],?_⟩;rw[z];have ap:=X.WP 3 i0 λ_=>rfl;have H:=pr J T.ai;have a1:=ap.fI (D:=EA (ct 1 aC) x L[k]) 3 i0 λq hq=>bE.pick hq k c am H;exact a1.take 3 λi A' hi=>by cases i with|zero=>exact hi|succ i=>simp at hi
      ·have P:d L[k]=eR:=by simpa using e4
       have U:=QJ d L c F;rw[P]at U;exact⟨k+1,js,⟨i4,U,X⟩,i4⟩
     ·rw[qi i4]at F;have z:kV p seed W t=([],eR,0):=by rw[wR,wI,F]
      refine⟨⟨eH,0,0⟩,by rw[z],?_⟩;rw[z];exact j o.ai
  ·rw[g0 λhh=>I (Q.1 hh)]at G;obtain⟨rfl,rfl⟩:=G;refine⟨(⟨eH,0,0⟩,1),i0,cv (λ_=>?_) λe=>j0⟩;refine⟨⟨eH,0,0⟩,?_,?_⟩<;>(unfold kV;rw[f9 E,g0 I])
   exact j H2.ai
end Go.Qw
namespace Wl
open Go Go.Qw Go.Vc
def pz(m:aI)(ds:aW)(t:Int)(e:Wl.cb)(i:Nat):Bool:=
 (kV m.p (cF e.object i (e.tries.getD i 0)) (fT m ds e.object i (aN ds m.drives)) t).2.1||decide ((kV m.p (cF e.object i (e.tries.getD i 0)) (fT m ds e.object i (aN ds m.drives)) t).2.2≠0)
def sB(m:aI)(ds:aW)(t:Int)(e:Wl.cb):Bool:=(qE e.tries.length).any (pz m ds t e)
def lE(m:aI)(ds:aW)(k:Int):Bool:=match bC ds k with|some d=>iq m d.l|none=>eR
def np(m:aI)(ds:aW):Nat:=ii ((aN ds m.drives).filter (lE m ds))
def fC(m:aI)(offs:Int)(w:Pow)(ds:aW)(t:Int):Bool×Int:=
 if di w offs then(eR,14)else if t<0∨t>=(ii (aN ds m.drives):Int)then(eR,1)else if iV (ii (aN ds m.drives):Int) t>4096 then(eR,13)else
 if m.aG.any (sB m ds t)then(eR,0)else(decide ((np m ds:Int)>t),0)
def oM(m:aI)(offs:Int)(w:Pow)(ds:aW):Nat:=((qE 65).find? λt:Nat=>!decide (fC m offs w ds t=(eL,0))).getD 64
theorem FV{m:aI}{offs:Int}{w:Pow}{ds:aW}(h:ii (aN ds m.drives)<=64):oM m offs w ds<=64/\fC m offs w ds (oM m offs w ds)≠(eL,0)/\∀j:Nat,j<oM m offs w ds->fC m offs w ds j=(eL,0):=by
 have c:fC m offs w ds (ii (aN ds m.drives):Int)≠(eL,0):=by
  unfold fC;split
  ·simp
  ·rw[f9 (.inr (vM _))];simp
 have a:((qE 65).find? λt:Nat=>!decide (fC m offs w ds t=(eL,0))).isSome=eL:=by rw[List.find?_isSome];exact⟨_,qG.2 (show(aN ds m.drives).length<65 by omega),n7⟩
 obtain⟨t,b⟩:=Option.isSome_iff_exists.1 a;have e:oM m offs w ds=t:=by unfold oM;rw[b];rfl
 rw[e];have d:=List.find?_some b;have g:=qG.1 (List.mem_of_find?_eq_some b);refine⟨i4,n3,λj f=>?_⟩;rw[List.find?_range_eq_some]at b;have:=b.2.2 j f;simpa using this
end Wl
namespace Go.Qw
open Go Go.Vc Go.Proofs Wl
section
variable {B:aB} {h0 h:f8} {As:List HP} {a pw:fz} {offs:Int} {da:List aT} {w:Pow} {ds:aW} {m:aI}
theorem IE(H:aa B h0 h (dF a pw da offs w ds m::As)):ac xR 81 #[xJ (dB a)] h λv h'=>v=xL (di w offs)/\h'=h:=by refine QW (dB a) ?_;unfold JM;refine bv (λe=>j0) λ_=>(aef H).mono ?_;rintro _ _ ⟨rfl,rfl⟩;exact⟨_,i0,i0,i0⟩
theorem Zu(t:Int)(q:bO m=eL)(H:aa B h0 h (dF a pw da offs w ds m::As)):ac xR 82 #[xJ (dB a),xH xN t] h λv h'=>v=xL (decide ((np m ds:Int)>t))/\Sp h h' []:=by
 refine OA (dB a) t ?_;unfold Hk;have L:=ka q;have s:=gv q;refine(UP q H).mono ?_;rintro _ J ⟨y,rfl,N⟩;refine⟨y,i0,N.alloc af i0 λa2 K O=>?_⟩;refine O.storeAll af 1 i0 i0 (aX y) i0 i0 i0 i0 λh3 p=>?_;have p:Sp h h3 [cx y m,aw a2 44 (aX y)]:=p;refine(AV q (H.up p.ai)).mono ?_;rintro _ M ⟨r,rfl,n⟩;obtain⟨live,f⟩:∃live,live=aN ds m.drives:=⟨_,rfl⟩
 have P:ii live<=64:=by rw[f];exact zi (qP _ _) s
 rw[<-f]at n;have n:Sp h M [cx y m,aw a2 44 (aX y),aq 3 r 1 aC live]:=p.comp n;have I:=(n.own 2 i0).len;refine⟨r,i0,?_⟩;have o:∀j,ii ((live.take j).filter (lE m ds))<=64:=λj=>by
  have J:=qP (lE m ds) (live.take j);have K:=List.length_take_le j live;rw[qU]at J;omega
 refine av (λj:Nat=>((ii ((live.take j).filter (lE m ds)):Int),(j:Int))) (λj h'=>j<=ii live/\Sp h h' [cx y m,aw a2 44 (aX y),aq 3 r 1 aC live]) (λj=>ii live-j) 0 i9 ⟨i4,n⟩ ?_;rintro j U ⟨Q,k⟩;dsimp only;refine aj (λe=>?_) λe=>?_
 ·have i:j<ii live:=i4
  refine(k.seq 2 i0 λ_=>rfl).bB j i0 i live[j] i0 ?_;have c:=k.box 1 i0;have z:=H.up k.ai;obtain⟨_,d,A,G⟩:=jK (show live[j]∈aN ds m.drives by rw[<-f];exact qg i);obtain⟨b,E⟩:=Xs A z;refine⟨y,c.aS _ i0,(QG _ z).mono ?_⟩;rintro _ T ⟨rfl,rfl⟩;rw[E];refine⟨_,i0,⟨c.cell0 i0,c.cell i0,c.cell i0,c.cell i0,c.cell i0,c.cell i0,c.cell i0,c.cell i0,trivial⟩,(abY y m A E (k.at 0 i0) L z).mono ?_⟩;rintro _ S ⟨rfl,F⟩;have u:lE m ds live[j]=iq m d.l:=by unfold lE;rw[A]
  have R:=o (j+1);have g:ii ((live.take (j+1)).filter (lE m ds))=ii ((live.take j).filter (lE m ds))+(if iq m d.l then 1 else 0):=by rw[aK _ _ i,List.filter_append,qx,List.filter_cons,u];cases iq m d.l<;>simp
  refine⟨_,i0,trivial,bv (λx=>?_) λx=>?_⟩
  ·rw[x,f9 rfl]at g;exact⟨j+1,by rw[ak _,ak _,g];rfl,⟨i4,k.up F.ai⟩,i4⟩
  ·rw[x,g0 i5]at g;exact⟨j+1,by rw[ak _,g];rfl,⟨i4,k.up F.ai⟩,i4⟩
 ·have D:live.take j=live:=qi i4;refine⟨?_,.zip k.ai⟩;rw[D];unfold np;rw[<-f]
theorem NP(t:Int)(G:bO m=eL)(ht:-(2^62)<=t/\t<=2^62)(H:aa B h0 h (dF a pw da offs w ds m::As)):
  ac xR 26 #[xJ (dB a),xH xN t] h λv h'=>v=.tuple #[xL (fC m offs w ds t).1,xH xN (fC m offs w ds t).2]/\Sp h h' []:=by
 refine Mc (dB a) t ?_;unfold Fp;have hz:=ka G;have a1:=gv G;obtain⟨live,c⟩:∃live,live=aN ds m.drives:=⟨_,rfl⟩
 have a8:live.length<=64:=by rw[c];exact zi (qP _ _) a1
 refine(IE H).mono ?_;rintro _ h1 ⟨rfl,rfl⟩;refine⟨_,i0,bv (λe=>?_) λe1=>?_⟩
 ·have:fC m offs w ds t=(eR,14):=by unfold fC;rw[f9 e]
  rw[this];exact⟨i0,Sp.refl _⟩
 refine(AV G H).mono ?_;rintro _ h2 ⟨lv,rfl,P⟩;rw[<-c]at P;have I:=(P.own 0 i0).len;refine⟨lv,i0,?_⟩;have ep:fC m offs w ds t=(if t<0∨t>=(live.length:Int)then(eR,1)else if iV (live.length:Int) t>4096 then(eR,13)else
   if m.aG.any (sB m ds t)then(eR,0)else(decide ((np m ds:Int)>t),0)):=by
  unfold fC;rw[g0 mn,<-c]
 rw[ep];refine bg (cE (λ(b:Bool) h'=>b=decide (t<0∨t>=(live.length:Int))/\h'=h2) ?_ ?_)
 ·refine aj (λe=>⟨by rw[g9 (.inl e)],i0⟩) λe=>⟨?_,i0⟩
  rw[I];by_cases h:t>=(live.length:Int)
  ·rw[g9 h,g9 (.inr h)]
  ·rw[hU h,hU (by rintro(h'|h');exact e h';exact h h')]
 rintro b h3 ⟨rfl,rfl⟩;refine aj (λe=>by rw[f9 e];exact⟨i0,.zip P.ai⟩) λe2=>?_;rw[g0 e2];refine(DJ ((lv.len:Nat):Int) t h3 i4 ht).mono ?_;rintro _ O ⟨rfl,rfl⟩;rw[I];refine⟨_,i0,aj (λe=>by rw[f9 e];exact⟨i0,.zip P.ai⟩) λe3=>?_⟩;rw[g0 e3];have H2:=H.up P.ai;refine(UP G H2).mono ?_;rintro _ h6 ⟨y,rfl,R6⟩;refine⟨y,i0,R6.alloc af i0 λS h7 R7=>?_⟩;refine R7.storeAll af 1 i0 i0 (aX y) i0 i0 i0 i0 λh8 R8=>?_;have R8:Sp O h8 [cx y m,aw S 44 (aX y)]:=R8;have ax:dY h8 y m:=R8.at 0 i0;have bl:=bE.len ax.aG;have b0:m.aG.length<=12:=((bU m).1 G).2.2.2.1;refine⟨y.2.2.2.2.2.2.2,(R8.box 1 i0).cell i0,?_⟩;refine av (λi:Nat=>(i:Int)) (λi h'=>i<=m.aG.length/\(m.aG.take i).any (sB m ds t)=eR/\Sp O h' [cx y m,aw S 44 (aX y)]) (λi=>m.aG.length-i) 0 i0 ⟨i4,i9,R8⟩ ?_;rintro i D ⟨hi,M,R9⟩;dsimp only;have a2:dY D y m:=R9.at 0 i0;obtain⟨ys,F⟩:=bE.fix a2.aG;have b3:=F.2.1;refine aj (λe=>?_) λe=>?_
 ·have L:i<m.aG.length:=i4
  have u:=Fix.row F L;obtain⟨E,hE⟩:∃E,E=m.aG[i]:=⟨_,rfl⟩
  have U:E∈m.aG:=by rw[hE];exact qg L
  obtain⟨xe,ao⟩:∃xe,xe=ys[i]'(by omega):=⟨_,rfl⟩
  rw[<-hE,<-ao]at u;have a6:=(gP m E).1 (((bU m).1 G).2.2.2.2.1 E U);have bk:E.tries.length<=8:=by have:=ru a6.2.2.1.2;omega
  refine F.1.dQ (g:=bQ) i i0 i4 xe (by rw[ao]) ?_;refine(Sp.refl D).alloc af i0 λQ b1 a4=>?_;refine a4.storeAll af 0 i0 i0 (bQ xe) i0 i0 i0 i0 λN z=>?_;have z:Sp D N [aw Q 94 (bQ xe)]:=z;have ah:Sp O N [cx y m,aw S 44 (aX y),aw Q 94 (bQ xe)]:=R9.comp z;have ap:Rd D xe.2.2.2 1 aC E.tries:=u.2;have a0:aV (λb=>b<D.size) D N:=z.ai;refine⟨xe.2.2.2,(ah.box 2 i0).cell i0,?_⟩;have bd:=ap.len;refine av (λj:Nat=>(j:Int)) (λj h'=>j<=E.tries.length/\(∀R,R<j->pz m ds t E R=eR)/\aV (λb=>b<D.size) D h'/\Sp O h' [cx y m,aw S 44 (aX y),aw Q 94 (bQ xe)]) (λj=>E.tries.length-j) 0 i0 ⟨i4,λj hj=>i4,a0,ah⟩ ?_;rintro j n ⟨hj,V,x,f⟩;dsimp only;refine aj (λe4=>?_) λe4=>?_
  ·have r:j<E.tries.length:=i4
   refine(Seq.up ap x).bB j i0 r E.tries[j] i0 ?_;have a9:=f.box 1 i0;have q:=f.box 2 i0;have J:dY n y m:=f.at 0 i0;have am:an n (S.add 2) 0 [xH xN m.p.1,xH xN m.p.2.1,xH xN m.p.2.2]:=by rw[<-J.p];exact a9.cells 2 _ i0
   refine bg ⟨m.p,am,xe.2.1,q.cell i0,xe.2.1,q.cell i0,(rl xe.2.1 j E.tries[j] n).mono ?_⟩;rintro _ b2 ⟨rfl,rfl⟩;obtain⟨z1,z2,z3,_⟩:=am;have eo:xe.2.1=E.object:=u.1.2.1;rw[eo];have ay:=H2.up (aa.up (Sp.refl O) f.ai).ai;refine⟨_,i0,⟨by rw[<-eo];exact q.cell i0,z1,z2,z3,trivial⟩,(abZ E.object j G ay).mono ?_⟩;rintro _ ad ⟨ab,rfl,o⟩;obtain⟨W,hW⟩:∃W,W=fT m ds E.object j (aN ds m.drives):=⟨_,rfl⟩
   rw[<-hW]at o;have br:W.length<=64:=by rw[hW];unfold fT;rw[qy,<-c];exact a8
   have a5:∀l∈W,l.length<=2^20:=λl hl=>by
    rw[hW]at hl;obtain⟨k,hk,rfl⟩:=qw.1 hl;obtain⟨_,d,hd,_⟩:=jK hk;have b4:=(NL H).2 k d hd;rw[qy];unfold fQ kw;rw[List.flatMap_cons,List.flatMap_nil,qN,hd];have:=ES m E.object j d.l;show(tK m E.object j d.l).length<=_;omega
   have s:=f.up o.ai;have ar:an ad (S.add 2) 0 [xH xN m.p.1,xH xN m.p.2.1,xH xN m.p.2.2]:=by rw[<-J.p];exact(s.box 1 i0).cells 2 _ i0
   obtain⟨u1,u2,u3,_⟩:=ar;refine⟨ab,i0,⟨u1,u2,u3,trivial⟩,(NO m.p (cF E.object j E.tries[j]) ab W t ad (o.LH λ_=>rfl).toE i4 a5 (vM 0)).mono ?_⟩;rintro _ a3 ⟨rs,rfl,K⟩;have A:pz m ds t E j=((kV m.p (cF E.object j E.tries[j]) W t).2.1||decide ((kV m.p (cF E.object j E.tries[j]) W t).2.2≠0)):=by unfold pz;rw[fR 0 r,<-hW]
   obtain⟨Z,hZ⟩:∃Z,Z=kV m.p (cF E.object j E.tries[j]) W t:=⟨_,rfl⟩
   rw[<-hZ]at A⊢;have T:pz m ds t E j=eL->(Value.tuple #[xL eR,xH xN 0]=.tuple #[xL (if m.aG.any (sB m ds t)=eL then(eR,(0:Int))else(decide ((np m ds:Int)>t),0)).1,xH xN (if m.aG.any (sB m ds t)=eL then(eR,(0:Int))else(decide ((np m ds:Int)>t),0)).2]/\Sp h1 a3 []):=λY=>by
    have:m.aG.any (sB m ds t)=eL:=zV.2 ⟨E,U,zV.2 ⟨j,qG.2 r,Y⟩⟩;rw[f9 this];exact⟨i0,.zip ((P.up (aa.up (Sp.refl O) (s.up K.ai).ai).ai).ai)⟩
   refine⟨(rs,Z.2.1,Z.2.2),i0,trivial,bv (λe5=>T (by rw[A,e5];rfl)) λe5=>cv (λe6=>T (by rw[A,g9 e6,Bool.or_true])) λe6=>?_⟩;refine⟨j+1,js,⟨i4,λR X=>?_,?_,s.up K.ai⟩,i4⟩
   ·rcases zn.1 X with h|rfl
    ·exact V R h
    ·rw[A,e5,hU (by simpa using e6)];rfl
   ·exact(x.then o.ai λb Y _=>qM Y x.1).then K.ai λb Y _=>qM (qM Y x.1) o.ai.1
  ·refine⟨i+1,js,⟨i4,?_,f.ck [0,1]⟩,i4⟩;rw[aK _ _ L,List.any_append,M,Bool.false_or,List.any_cons,List.any_nil,Bool.or_false,<-hE];exact zW.2 λR r=>by rw[V R (by have:=qG.1 r;omega)];decide
 ·rw[qi i4]at M;rw[g0 (by rw[M];decide)];refine(Zu t G (H2.up (aa.up (Sp.refl O) R9.ai).ai)).mono ?_;rintro _ bq ⟨rfl,bb⟩;exact⟨_,i0,i0,.zip (P.up ((R9.up bb.ai).ai)).ai⟩
end
section
variable {B:aB} {h0 h:f8} {As:List HP} {a pw:fz} {offs:Int} {da:List aT} {w:Pow} {ds:aW} {m:aI}
theorem WG{N:Nat}(f:m.aG=[])(b:di w offs=eR)(a:ii (aN ds m.drives)<=5)(i:np m ds=N)(e:N<=ii (aN ds m.drives)):oM m offs w ds=N:=by
 obtain⟨o,l,k⟩:=FV (m:=m) (offs:=offs) (w:=w) (ds:=ds) i4;have d:∀t:Nat,t<ii (aN ds m.drives)->fC m offs w ds t=(decide (N>t),0):=λt n=>by
  have g:∀c,c<=5->∀t,t<=5->iV ((c:Nat):Int) ((t:Nat):Int)<=4096:=i5
  have:=g (aN ds m.drives).length a t i4;unfold fC;rw[g0 (by rw[b];decide),g0 i4,g0 i4,f,g0 i9,i];congr 1;rw[decide_eq_decide];omega
 rcases Nat.lt_trichotomy (oM m offs w ds) N with h|h|h
 ·exfalso;apply l;rw[d _ i4,g9 h]
 ·exact h
 ·exfalso;have:=k N h;by_cases j:N<ii (aN ds m.drives)
  ·rw[d N j,hU i4]at this;cases this
  ·unfold fC at this;rw[g0 (by rw[b];decide),f9 (.inr i4)]at this;cases this
end
end Go.Qw
namespace Wl
open Go
theorem IF(a:jl):a&&&1#32=0#32∨a&&&1#32=1#32:=by
 have h:((a&&&1#32).toNat)=a.toNat%2:=by rw[BitVec.toNat_and];exact Nat.and_one_is_mod _
 rcases Nat.mod_two_eq_zero_or_one a.toNat with e|e
 ·left;apply wN;rw[h,e];rfl
 ·right;apply wN;rw[h,e];rfl
theorem jx{a:jl}(h:a&&&1#32=0#32):jD a=a>>>1:=by unfold jD;rw[g0 (by rw[h];decide)]
theorem lZ{a:jl}(h:a&&&1#32=1#32):jD a=(a>>>1)^^^3988292384#32:=by unfold jD;rw[f9 h]
theorem Va(a b c:jl):a^^^b^^^c=a^^^c^^^b:=by rw[wK,BitVec.xor_comm b c,<-wK]
theorem Zv(a b:jl):jD (a^^^b)=jD a^^^jD b:=by
 have e:(a^^^b)&&&1#32=(a&&&1#32)^^^(b&&&1#32):=by apply BitVec.eq_of_getLsbD_eq;intro i _;rw[xx,BitVec.getLsbD_xor,BitVec.getLsbD_xor,xx,xx,Bool.and_xor_distrib_right]
 have s:(a^^^b)>>>1=(a>>>1)^^^(b>>>1):=BitVec.ushiftRight_xor_distrib a b 1;rcases IF a with ha|ha<;>rcases IF b with hb|hb
 ·rw[jx ha,jx hb,jx n9,s]
 ·rw[jx ha,lZ hb,lZ n9,s,wK]
 ·rw[lZ ha,jx hb,lZ n9,s,Va]
 ·rw[lZ ha,lZ hb,jx n9,s,<-wK,Va _ 3988292384#32,wK _ 3988292384#32 3988292384#32,yW,xr]
theorem WH{a:jl}(h:jD a=0#32):a=0#32:=by
 rcases IF a with ha|ha
 ·rw[jx ha]at h;apply wN;have c:=congrArg xE h;have b:=congrArg xE ha;rw[y8,yT]at c;have h3:(a&&&1#32).toNat=a.toNat%2:=by rw[BitVec.toNat_and];exact Nat.and_one_is_mod _
  rw[h3]at b;simp at c b⊢;omega
 ·rw[lZ ha]at h;exfalso;have c:a>>>1=3988292384#32:=by have:=congrArg (λz=>z^^^3988292384#32) h;simp only[wK,yW,xr,xt]at this;exact this
  have b:=congrArg xE c;rw[y8,yT]at b;have:=a.isLt;simp at b;omega
theorem ot:∀(n:Nat) (a b:jl),dS n (a^^^b)=dS n a^^^dS n b
 |0,_,_=>rfl
 |n+1,a,b=>by unfold dS;rw[ot n,Zv]
theorem IG:∀(n:Nat) {a:jl},dS n a=0#32->a=0#32
 |0,_,h=>h
 |n+1,_,h=>IG n (WH h)
theorem ael{a b:jl}(h:a^^^b=0#32):a=b:=by have:=congrArg (λz=>z^^^b) h;simp only[wK,yW,xr,xt]at this;exact this
theorem Kl{n:Nat}{a b:jl}(h:dS n a=dS n b):a=b:=
 ael (IG n (by rw[ot,h,yW]))
theorem sQ:∀(m n:Nat) (a:jl),dS (m+n) a=dS m (dS n a)
 |0,n,a=>by rw[Nat.zero_add];rfl
 |m+1,n,a=>by rw[show m+1+n=(m+n)+1 by omega];show jD (dS (m+n) a)=jD (dS m (dS n a));rw[sQ m n a]
theorem NQ:∀(n x:Nat),x<2^(32-n)->n<=32->dS n (wP 32 (x*2^n))=wP 32 x
 |0,x,_,_=>by rw[Nat.pow_zero,z6];rfl
 |n+1,x,h,hn=>by
  have b:x*2<2^(32-n):=by
   have:2^(32-n)=2^(32-(n+1))*2:=by rw[<-Nat.pow_succ];congr 1;omega
   omega
  show jD (dS n (wP 32 (x*2^(n+1))))=_;rw[show x*2^(n+1)=x*2*2^n by rw[Nat.pow_succ,Nat.mul_assoc,vO 2],NQ n (x*2) b i4];have a:x*2<2^32:=qM b (Nat.pow_le_pow_right i5 i4);rw[jx]
  ·apply wN;rw[y8,wU,wU,wo a,wo i4,yT];omega
  ·apply wN;rw[BitVec.toNat_and,wU,wo a];show(x*2)&&&1=0;rw[Nat.and_one_is_mod];omega
def Vb(a b c d:UInt8):jl:=wP 32 (a.toNat*2^0)^^^wP 32 (b.toNat*2^8)^^^wP 32 (c.toNat*2^16)^^^wP 32 (d.toNat*2^24)
theorem aem(s:jl)(a b c d:UInt8):mq (mq (mq (mq s a) b) c) d=dS 32 (s^^^Vb a b c d):=by
 have k:=a.toNat_lt;have g:=b.toNat_lt;have i:=c.toNat_lt;have h:=d.toNat_lt;have e:∀(n:Nat) (x:UInt8),n<=24->wP 32 x.toNat=dS n (wP 32 (x.toNat*2^n)):=λn x j=>by
  have f:=x.toNat_lt;refine(NQ n x.toNat ?_ i4).symm;exact qM (show x.toNat<2^8 from f) (Nat.pow_le_pow_right i5 i4)
 unfold mq Vb;rw[e 8 b i5,<-ot,<-sQ,e 16 c i5,<-ot,<-sQ,e 24 d i5,<-ot,<-sQ];simp only[Nat.pow_zero,z6,wK]
theorem Pq(a b c d:UInt8):(Vb a b c d).toNat=a.toNat+b.toNat*256+c.toNat*65536+d.toNat*16777216:=by
 have o:=a.toNat_lt;have l:=b.toNat_lt;have n:=c.toNat_lt;have m:=d.toNat_lt;have e:∀(k x y:Nat),x<2^k->x^^^(y*2^k)=x+y*2^k:=λk x y g=>by
  rw[vO y];have j:=Nat.two_pow_add_eq_or_of_lt g y;have h:x^^^(2^k*y)=(2^k*y)|||x:=by
   apply Nat.eq_of_testBit_eq;intro i;rw[Nat.testBit_xor,Nat.testBit_or,Nat.testBit_two_pow_mul];by_cases f:k<=i
   ·have:x.testBit i=eR:=Nat.testBit_lt_two_pow (qM g (Nat.pow_le_pow_right i5 f));simp[this]
   ·simp[f]
  rw[h,<-j];omega
 unfold Vb;rw[BitVec.toNat_xor,BitVec.toNat_xor,BitVec.toNat_xor,wU,wU,wU,wU];rw[wo i4,wo i4,wo i4,wo i4];rw[Nat.pow_zero,z6,e 8 _ _ i4,e 16 _ _ i4,e 24 _ _ i4]
theorem agw{a b c d g f e i:UInt8}(h:Vb a b c d=Vb g f e i):a=g/\b=f/\c=e/\d=i:=by have j:=congrArg xE h;rw[Pq,Pq]at j;have:=a.toNat_lt;have:=b.toNat_lt;have:=c.toNat_lt;have:=d.toNat_lt;have:=g.toNat_lt;have:=f.toNat_lt;have:=e.toNat_lt;have:=i.toNat_lt;refine⟨wY.1 ?_,wY.1 ?_,wY.1 ?_,wY.1 ?_⟩<;>omega
theorem Vd:∀{q:bc} {s t:jl},q.foldl mq s=q.foldl mq t->s=t
 |[],_,_,h=>h
 |x::q,s,t,h=>by
  have:=Kl (Vd (q:=q) h);have:=congrArg (λz=>z^^^wP 32 x.toNat) this;simp only[wK,yW,xr]at this;exact this
theorem ack{p q:bc}{a b c d g f e i:UInt8}(h:kQ (p++([a,b,c,d]++q))=kQ (p++([g,f,e,i]++q))):[a,b,c,d]=[g,f,e,i]:=by unfold kQ at h;rw[zN,zN,zN,zN]at h;have h:=Vd h;simp only[zy,wE]at h;rw[aem,aem]at h;have h:=Kl h;have h:=congrArg (λz=>List.foldl mq 4294967295#32 p^^^z) h;simp only[<-wK,yW,xt]at h;obtain⟨rfl,rfl,rfl,rfl⟩:=agw h;rfl
theorem agx(s:jl):∃a b c d,lc s=[a,b,c,d]/\Vb a b c d=s:=by
 refine⟨_,_,_,_,i0,?_⟩;apply wN;rw[Pq];have m:=s.isLt;have e:∀n:Int,((b8 n).toNat:Int)=n%256:=λn=>by have:=pG n;omega
 have f:∀k:Nat,qX (s.toNat:Int) (2^(8*k))=((s.toNat/2^(8*k):Nat):Int):=λk=>by
  rw[Int.fdiv_eq_ediv_of_nonneg _ (by exact_mod_cast z7 _)];norm_cast
 have g:∀k:Nat,(b8 (qX (s.toNat:Int) (2^(8*k)))).toNat=s.toNat/2^(8*k)%256:=λk=>by
  have:=e (qX (s.toNat:Int) (2^(8*k)));rw[f k]at this;rw[f k];omega
 have h:=g 0;have j:=g 1;have l:=g 2;have i:=g 3;simp only[Nat.mul_zero,z6,Nat.pow_zero,Nat.div_one,Nat.reduceMul,Nat.reducePow]at h j l i;simp only[Nat.mul_zero,z6,Nat.reduceMul];rw[h,j,l,i];omega
theorem agy(x:bc):kQ (x++lc (md x))=dS 32 4294967295#32:=by obtain⟨a,b,c,d,f,e⟩:=agx (md x);rw[f];unfold kQ;rw[zN];simp only[zy,wE];rw[aem,e];unfold md kQ;congr 1;rw[BitVec.xor_comm 4294967295#32,<-wK,yW,xt]
theorem QK{c:bc}{k:Int}{x:bc}(h:fh c=dB (k,x)):ii c=64/\c=c.take 59++(lc (md (c.take 59))++[165]):=by
 unfold fh at h;split at h
 ·rename_i e;obtain⟨b,a⟩:=e;refine⟨b,?_⟩;unfold ey at a;split at a
  ·rename_i d;have g:=Aa (kind:=((c.getD 3 0).toNat:Int)) d.2.2;have f:c.take 59=dI ((c.getD 3 0).toNat:Int) ((c.drop 4).take 55):=by
    conv=>lhs;rw[<-a]
    rw[qp,z8 i4,qi i4]
   rw[f];rw[<-qp];exact a.symm
  ·rw[<-a]at b;simp at b
 ·cases h
theorem acl{l:bc}{p:Nat}(h:p+4<=ii l)(a:Int):∃u v,ii u=4/\v.length=4/\l=l.take p++(u++l.drop (p+4))/\fk l p a 4=l.take p++(v++l.drop (p+4)):=by
 have b:∀k,k<=4->(fk l p a k).take p=l.take p/\(fk l p a k).drop (p+4)=l.drop (p+4):=by
  intro k
  induction k with
  |zero=>exactλ_=>⟨i0,i0⟩
  |succ k ih=>
   intro j;obtain⟨g,e⟩:=ih i4;unfold fk;rw[List.take_set_of_le i4,List.drop_set_of_lt i4];exact⟨g,e⟩
 have c:∀m:bc,ii m=ii l->m=m.take p++((m.drop p).take 4++m.drop (p+4)):=λm n=>by
  rw[<-List.drop_drop,qA,qA]
 obtain⟨f,i⟩:=b 4 (qn _);have d:=Cb l p a 4;refine⟨(l.drop p).take 4,((fk l p a 4).drop p).take 4,i7,by simp[d];omega,c l i0,?_⟩;rw[<-f,<-i];exact c _ d
theorem Zw{c:bc}{k:Int}{x:bc}(h:fh c=dB (k,x)){a b:Int}(I:0<=a/\a<=60)(d:Ca c a b≠c):fh (Ca c a b)=eH:=by
 obtain⟨E,o⟩:=QK h;cases hb:fh (Ca c a b)with
 |none=>rfl
 |some y=>
  exfalso;obtain⟨m,e⟩:=QK (k:=y.1) (x:=y.2) hb;obtain⟨f,B⟩:∃f,f=Ca c a b:=⟨_,rfl⟩
  rw[<-B]at m e d;by_cases g:f.take 59=c.take 59
  ·apply d;rw[o,e,g,<-o]
  ·obtain⟨p,rfl⟩:∃p:Nat,a=p:=⟨a.toNat,i4⟩
   obtain⟨u,v,D,s,r,i⟩:=acl (l:=c) (p:=p) i4 b;have i:f=c.take p++(v++c.drop (p+4)):=by rw[B];unfold Ca;rw[ql];exact i
   have H:p<=59:=by refine Decidable.byContradiction λG=>g ?_;rw[i,z8 i7,List.take_take,wX i4]
   have t:∀z:bc,z=z.take 59++(lc (md (z.take 59))++[165])->ii z=64->kQ (z.take 63)=dS 32 4294967295#32:=λz n F=>by
    have:z.take 63=z.take 59++lc (md (z.take 59)):=by
     conv=>lhs;rw[n]
     rw[<-qp,z8 (by simp[DZ];omega),qi (by simp[DZ];omega)]
    rw[this,agy]
   have w:∀z:bc,ii z=4->(c.take p++(z++c.drop (p+4))).take 63=c.take p++(z++(c.drop (p+4)).take (59-p)):=λz n=>by
    have j:ii (c.take p)=p:=i7
    generalize c.take p=P at j⊢;rw[List.take_append,qi i4,List.take_append,qi i4,j,n];congr 3;omega
   have A:=t c o E;have q:=t f e m;rw[i,w v s]at q;rw[r,w u D]at A
   match u,v,D,s with
   |[u0,u1,u2,u3],[v0,v1,v2,v3],_,_=>
    have:=ack (A.trans q.symm);apply d;rw[i,<-this,<-r]
end Wl
namespace Go.Qw
open Go Go.Vc Go.Proofs Wl
theorem aen{m:aI}{C:Int->bc}{c:bc}(h:fh c=eH):fU m C c:=by
 have b:dL c=eH:=by unfold dL;rw[h]
 have e:tQ c=eH:=by unfold tQ;rw[h]
 exact⟨λr a=>(by rw[b]at a;cases a),λr a _=>(by rw[b]at a;cases a),λg d=>(by rw[e]at d;cases d)⟩
theorem fl.aig{m:aI}{C:Int->bc}{ds:aW}(S:fl m C ds){k:Int}{g d:bw}(b:bC ds k=dB g)(f:∀c∈d.l,fU m C c):fl m C (gh ds k d):=
 ⟨S.may,by rw[Lk];exact S.len,λj e a=>by
  rw[sq S.len b]at a;split at a
  ·injection a with a;subst a;exact f
  ·exact S.cells j e a,S.ents⟩
theorem acm{ds:aW}{k:Int}{e d:bw}(a:ii ds=64)(c:bC ds k=dB e)(f:d.lost=e.lost)(l:aF):aN (gh ds k d) l=aN ds l:=by
 unfold aN;refine vX λx _=>?_;unfold isLive;rw[sq a c];by_cases b:x=k
 ·subst b;rw[f9 i0,c];simp only[f]
 ·rw[g0 b]
theorem Zx{d:bw}{j a b:Int}:(d.mH j a b).lost=d.lost/\(d.mH j a b).l.length=ii d.l:=by
 unfold bw.mH;split
 ·exact⟨i0,i9⟩
 ·exact⟨i0,i0⟩
theorem WI{m:aI}{C:Int->bc}{d:bw}(f:∀c∈d.l,fU m C c){j:Nat}(g:j<ii d.l)(n:fh d.l[j]≠eH){a b:Int}(i:0<=a/\a<=60):∀c∈(d.mH j a b).l,fU m C c:=λc h=>by
 unfold bw.mH at h;split at h
 ·have h:c∈d.l.set ((j:Int)).toNat (Ca (d.l.getD ((j:Int)).toNat []) a b):=h;rw[ql,fR [] g]at h;rcases wb h with h|rfl
  ·exact f c h
  ·by_cases e:Ca d.l[j] a b=d.l[j]
   ·rw[e];exact f _ (qg g)
   ·cases ht:fh d.l[j]with
    |none=>exact absurd ht n
    |some y=>exact aen (Zw (k:=y.1) (x:=y.2) ht i e)
 ·exact f c h
structure Wn (p:Pm) (m:aI) (C:Int->bc) (ds:aW):Prop where
 fD:fl m C ds
 live:aN ds m.drives≠[]
 dr:∀k∈m.drives,k<9
 pe:m.p=p
variable {p:Pm} {m:aI} {C:Int->bc} {ds:aW}
theorem Ve{ds a:aW}{f:Int->bw->bw}(h:∀k,bC a k=(bC ds k).map (f k))(b:∀k d,(f k d).lost=d.lost)(l:aF):aN a l=aN ds l:=by
 unfold aN;refine vX λx _=>?_;unfold isLive;rw[h];cases bC ds x with
 |none=>rfl
 |some d=>simp only[Option.map_some,b]
theorem Wn.mH(W:Wn p m C ds){k:Int}{d:bw}(c:bC ds k=dB d){j:Nat}(g:j<ii d.l)(f:fh d.l[j]≠eH){a b:Int}(e:0<=a/\a<=60):Wn p m C (gh ds k (d.mH j a b)):=
 ⟨W.fD.aig c (WI (W.fD.cells k d c) g f e),by rw[acm W.fD.len c Zx.1];exact W.live,W.dr,W.pe⟩
theorem Zy(t:aF)(b:bc)(n:aI)(k:Int)(d:bw):(oy m ds t b n k d).lost=d.lost:=by
 unfold oy;split
 ·rw[(nj _ _).1,(tV _ _ _).1]
 ·rfl
theorem Wn.put(W:Wn p m C ds)(name:ByteArray)(b:bc):∃e c d a,gE m 0 Pow.new ds name b=(e,c,Pow.new,a)/\Wn p c d a:=by
 rcases Xr (offs:=0) (w:=Pow.new) (name:=name) (b:=b) AR W.fD with⟨⟨e,_,h⟩,_⟩|⟨_,t,a,_,h,S,hat⟩
 ·exact⟨e,m,C,ds,h,W⟩
 ·exact⟨0,_,_,a,h,S,by rw[Ve hat (Zy _ _ _)];exact W.live,W.dr,W.pe⟩
theorem aeo(n:aI)(k:Int)(d:bw):(if k∈aN ds n.drives then ee (bo n) (dU m d (bo n).length)else d).lost=d.lost:=by
 split
 ·rw[(nj _ _).1,(tV _ _ _).1]
 ·rfl
theorem Wn.DG(W:Wn p m C ds){n:aI}(j:bO n=eL)(i:n.seq=m.seq+1)(e:n.p=m.p)(g:m.next<=n.next)(b:∀x∈n.aG,x∈m.aG)(c:∀k∈n.drives,k<9):
  cM m 0 Pow.new ds n=(7,m,Pow.new,ds)∨∃a,cM m 0 Pow.new ds n=(0,n,Pow.new,a)/\Wn p n C a:=by
 rcases NG (offs:=0) (w:=Pow.new) AR W.fD i5 j i e g b with⟨_,h⟩|⟨⟨hl,_⟩,a,h,S,hat⟩
 ·exact .inl h
 ·exact .inr ⟨a,h,S,by rw[Ve (f:=λk d=>if k∈aN ds n.drives then ee (bo n) (dU m d (bo n).length)else d) hat (aeo n)];exact hl,c,e.trans W.pe⟩
theorem Wn.del(W:Wn p m C ds)(name:ByteArray):∃e b a,dV m 0 Pow.new ds name=(e,b,Pow.new,a)/\Wn p b C a:=by
 unfold dV;rw[g0 i5];split
 ·exact⟨5,m,ds,i0,W⟩
 ·split
  ·exact⟨7,m,ds,i0,W⟩
  ·rename_i d;rcases W.DG (n:=um m (m.aG.findIdx (dP name))) (UV W.fD.may i4 _) rfl rfl (vM _) (λx c=>vZ c) W.dr with h|⟨a,h,W'⟩
   ·exact⟨7,m,ds,h,W⟩
   ·exact⟨0,_,a,h,W'⟩
theorem Wn.rU(W:Wn p m C ds)(slot:Int)(o:1<ii (aN ds m.drives)):Wn p m C (kz m 0 Pow.new ds slot).2:=by
 unfold kz;rw[g0 i5];split
 ·exact W
 ·rename_i u;cases hd:bC ds slot with
  |none=>exact W
  |some d=>
   dsimp only;refine⟨W.fD.aig hd λc q=>(by cases q),?_,W.dr,W.pe⟩;intro h;have g:=ni (ds:=ds) (nt W.fD.may);have f:∀k∈aN ds m.drives,k=slot:=λk r=>Decidable.byContradiction λi=>by
    obtain⟨a,e,n,t⟩:=jK r;have:k∈aN (gh ds slot d.rU) m.drives:=Ll.2 ⟨a,e,by rw[sq W.fD.len hd,g0 i];exact n,t⟩;rw[h]at this;cases this
   match hL:aN ds m.drives,o with
   |a::b::l,_=>
    rw[hL]at f g;have j:=f a i9;have s:=f b i9;rw[j,s]at g;simp at g
theorem Zz{l:aF}(h:l.Pairwise (·<·)){s:Int}(i:s∉l):(gK (l++[s])).Pairwise (·<·):=by have g:(l++[s]).Nodup:=List.nodup_append.2 ⟨h.imp λh e=>i4,i9,λa j b c e=>i (by rw[<-qC.1 c,<-e];exact j)⟩;have d:(gK (l++[s])).Perm (l++[s]):=w5 _ _;have f:(gK (l++[s])).Pairwise (λa b=>a≠b):=d.nodup_iff.2 g;exact(Wl.Ac _).imp₂ (λa b=>i4) f
theorem Wn.add(W:Wn p m C ds){slot:Int}(F:0<=slot/\slot<9)(cells:Int):∃e w b,lC m 0 Pow.new ds slot cells=(e,w,Pow.new,b)/\Wn p w C b:=by
 unfold lC;rw[g0 i5];split
 ·exact⟨1,m,ds,i0,W⟩
 split
 ·exact⟨4,m,ds,i0,W⟩
 rename_i j;split
 ·exact⟨7,m,ds,i0,W⟩
 rename_i G;have v:=W.fD.len;have g:∀o k,bC (ds.set slot.toNat o) k=if k=slot then o else bC ds k:=λo k=>by
  unfold bC;by_cases f:0<=k/\k<64
  ·rw[f9 f,qY];by_cases e:k=slot
   ·subst e;rw[f9 i0,f9 i0,f9 i4];rfl
   ·rw[g0 i4,g0 e,f9 f]
  ·rw[g0 f,g0 i4,g0 f]
 have i:∀o,aN (ds.set slot.toNat o) m.drives=aN ds m.drives:=λo=>by
  unfold aN;refine vX λx s=>?_;have q:x≠slot:=λe=>j (by rw[<-e];exact s);unfold isLive;rw[g,g0 q]
 obtain⟨a,y,B,r,t,l,u⟩:=(bU m).1 W.fD.may;have A:fl m C (ds.set slot.toNat (dB (bw.new cells.toNat))):=⟨W.fD.may,by simp[v],λk d a=>by
  rw[g]at a;split at a
  ·injection a with a;subst a;intro c z;cases z
  ·exact W.fD.cells k d a,W.fD.ents⟩
 have D:bO (Jk m (gK (m.drives++[slot])))=eL:=by
  refine(bU _).2 ⟨?_,Zz y j,λk f=>?_,r,t,l,u⟩
  ·rw[dE]at a⊢;exact⟨by show 1<=m.seq+1/\m.seq+1<=2147483647;omega,a.2⟩
  ·rcases qz.1 ((Bt _ _).1 f)with h|h
   ·exact B k h
   ·rw[qC.1 h];omega
 have E:Wn p m C (ds.set slot.toNat (dB (bw.new cells.toNat))):=⟨A,by rw[i];exact W.live,W.dr,W.pe⟩
 rcases E.DG (n:=Jk m (gK (m.drives++[slot]))) D rfl rfl (vM _) (λx s=>s) (λk f=>by
  rcases qz.1 ((Bt _ _).1 f)with h|h
  ·exact W.dr k h
  ·rw[qC.1 h];omega)with h|⟨b,h,W'⟩
 ·rw[h];dsimp only;rw[f9 i0,yG];exact⟨7,m,_,i0,⟨W.fD.may,by simp[v],λk d a=>by
   rw[g]at a;split at a
   ·cases a
   ·exact W.fD.cells k d a,W.fD.ents⟩,by rw[i];exact W.live,W.dr,W.pe⟩
 ·rw[h];dsimp only;rw[g0 i5];exact⟨0,_,b,i0,W'⟩
end Go.Qw
namespace Go.Qw
open Go Go.Vc Go.Proofs Wl
theorem Pr{a:Nat}:∀{l:cP},(∀x∈l,ii x=a)->ii l.flatten=ii l*a
 |[],_=>i9
 |x::l,h=>by
  rw[List.flatten_cons,qx,h x List.mem_cons_self,Pr λy b=>h y (List.mem_cons_of_mem _ b),List.length_cons,Nat.succ_mul];omega
theorem ZA(p:Pm)(l:Sl)(c:cP)(n:Int)(h:f8)(K:fF h l 1 aE c)(hn:n<=2^20)(Y:ii c<=2^10):
  ac xR 94 #[jU p,l,xH xN n] h λv h'=>∃(r:Sl) (b:Bool),v=.tuple #[r,xL b]/\Sp h h' [EA (ct 1 aE) r (nG p c n)]:=by
 refine OB p l n ?_;unfold Hl;have m:=K.len;refine(Sp.refl h).boxed λG Q z=>?_;have z:Sp h Q [aw G 24 [xH xN p.1,xH xN p.2.1,xH xN p.2.2]]:=z;have f:∀{h':f8},Sp h h' [aw G 24 [xH xN p.1,xH xN p.2.1,xH xN p.2.2]]->nG p c n=[]->∃(r:Sl) (b:Bool),(.tuple #[xI eH 0 0,xL eR]:Value)=.tuple #[r,xL b]/\Sp h h' [EA (ct 1 aE) r (nG p c n)]:=λH' he=>by
  rw[he];exact⟨⟨eH,0,0⟩,eR,i0,(((H'.nil 5 1 aE).ck [1]).Bq 0 i0 λ_=>rfl)⟩
 refine bg ⟨p,(z.box 0 i0).aS _ i0,(dM p Q).mono ?_⟩;rintro _ S ⟨rfl,U⟩;have D:=z.up U.ai;refine⟨_,i0,bm (λe=>f D (by unfold nG;rw[g0 (by rintro⟨h,_⟩;rw[e]at h;cases h)])) λX=>aj (λe=>f D (by unfold nG;rw[g0 (by rintro⟨_,h,_⟩;omega)])) λe2=>?_⟩;have A:bI p=eL:=by simpa using X
 refine⟨p,(D.box 0 i0).aS _ i0,(uS p n S).mono ?_⟩;rintro _ h3 ⟨rfl,R3⟩;have M:=D.up R3.ai;refine⟨_,i0,cv (λe=>f M (by unfold nG;rw[g0 (by rintro⟨_,_,h,_⟩;rw[m]at e;exact e h)])) λL=>?_⟩;have H:(ii c:Int)=countP p n:=by rw[m]at L;exact L
 obtain⟨s1,s2,s3⟩:=ly A;refine av (λt:Sl×Nat=>(t.1,(t.2:Int))) (λt h'=>t.2<=ii c/\(∀x∈c.take t.2,ii x=dG p)/\Sp h h' [aw G 24 [xH xN p.1,xH xN p.2.1,xH xN p.2.2],aq 5 t.1 1 aE (c.take t.2).flatten]) (λt=>ii c-t.2) (⟨eH,0,0⟩,0) i0 ⟨i9,i9,M.nil 5 1 aE⟩ ?_;rintro⟨o,i⟩ T ⟨R,a,u⟩;dsimp only at R a u⊢;refine aj (λe=>?_) λe=>?_
 ·have g:i<ii c:=by have V:(i:Int)<(l.len:Int):=e;omega
  refine(K.up u.ai).get i i0 g λr P=>⟨p,(u.box 0 i0).aS _ i0,(Ic p T A).mono ?_⟩
  rintro _ h5 ⟨rfl,O⟩;have B:=u.up O.ai;have y:=P.len;refine⟨_,i0,cv (λE=>?_) λE=>?_⟩
  ·refine f (B.ck [0]) ?_;unfold nG;rw[g0];rintro⟨_,_,_,h⟩;have:=hY (qL.1 h _ (qg g));exact E (by rw[y,this])
  ·have I:c[i].length=dG p:=by rw[y]at E;exact xm.1 E
   have w:=Pr a;rw[List.length_take_of_le R]at w;have hb:i*dG p<=2^10*2^10:=wq i4 i4;refine B.append af 1 i0 gj ⟨_,_,i0,i0⟩ i0 i5 (λ_=>rfl) (Seq.up P O.ai) gH i4 λo' h6 W=>?_;refine⟨(o',i+1),jj,⟨i6,?_,?_⟩,i6⟩
   ·dsimp only;intro x j;rw[aK _ _ g]at j;rcases qz.1 j with j|j
    ·exact a x j
    ·rw[qC.1 j];exact I
   ·dsimp only;rw[aK _ _ g,List.flatten_append];simpa using W
 ·rw[qi (by have V:¬(i:Int)<(l.len:Int):=e;omega)]at a u;have w:=Pr a;have s:=u.own 1 i0;have J:=s.len;obtain⟨k,Z⟩:∃k:Nat,n=k:=⟨n.toNat,i4⟩
  subst Z;have d:=Ki A k;have F:(countP p (k:Int)).toNat=ii c:=i4
  rw[F,<-w,<-J]at d;have ej:nG p c (k:Int)=c.flatten.take k:=by unfold nG;rw[f9 ⟨A,i4,H,qL.2 λx j=>g9 (a x j)⟩,ql]
  refine Yj af gj k i0 i0 (zi d s.cap) ?_;refine⟨⟨o.ptr,k,k⟩,eL,i0,?_⟩;rw[ej];have B:=(u.ck [1]).Bq 0 i0 λ_=>rfl;refine B.fI 0 i0 λq hq=>?_;have N:=Seq.take hq k i4;exact⟨N.1,N.2⟩
section
variable {B:aB} {h0 h:f8} {As:List HP} {a pw:fz} {offs:Int} {da:List aT} {w:Pow} {ds:aW} {m:aI}
theorem WJ(x:cg)(y:bO m=eL)(H:aa B h0 h (bj bu a pw (aX x) offs da w ds::cx x m::As)):
  ac xR 92 #[xJ (dB a)] h λv h'=>v=xL (oL m ds)/\Sp h h' []:=by
 refine Db (dB a) ?_;unfold rK;have A:=ka y;have q:=gv y;refine(Sp.refl h).boxed λl M e=>?_;have e:Sp h M [aw l 27 [xJ (dB a)]]:=e;have p:=H.up e.ai;refine⟨dB a,(e.box 0 i0).cell0 i0,(eF x m (p.at 1 i0) A p).mono ?_⟩;rintro _ J ⟨D,rfl,o⟩;have f:=e.comp o;have K:ii (aN ds m.drives)<=64:=zi (qP _ _) q;refine⟨D,i0,(Qm 154 #[] #[xJ (dB l)] (Iw m ds) D (aN ds m.drives) J k9 (o.seq 0 i0 λ_=>rfl) i4 ?_).mono ?_⟩
 ·intro k N h3 j;have i:=p.up (o.up j.ai).ai;have g:cA h3 l 27 [xJ (dB a)]:=(f.up j.ai).box 0 i0;obtain⟨ok,z⟩:=aa.cC i;obtain⟨r,d,t,_⟩:=jK N;have E:=kE y k r;refine Bc k l ?_;unfold pd;obtain⟨n,rfl⟩:∃n:Nat,k=n:=⟨k.toNat,i4⟩
  have I:n<ii da:=p6
  have L:cellOf h3 ((a.add 10).add ((n:Int).toNat*1))=dB (.pointer da[n]):=by rw[ql,z6];refine z.AF 10 n ?_;rw[tE ok.l8,qd I];rfl
  have u:ig da (n:Int)=da[n]:=by unfold ig;rw[f9 i4,ql,qd I];rfl
  obtain⟨b,s,P,c,_⟩:=Iz t i;refine⟨dB a,g.cell0 i0,a,i0,⟨i4,i4⟩,da[n],L,dB a,g.cell0 i0,a,i0,x,z.aS _ i0,?_⟩;rw[<-u,c];refine(IA x m t c (i.at 1 i0) A i).mono ?_;rintro _ O ⟨rfl,G⟩;have F:=(g.ai G.ai g.lt).cell0 i0;refine⟨_,i0,⟨F,F,trivial⟩,?_,G⟩;unfold Iw;rw[t]
 ·rintro _ h3 ⟨rfl,j⟩;exact⟨_,i0,i0,.zip (f.up j.ai).ai⟩
theorem agz{name:ByteArray}{l:List Wl.cb}{i:Int}(h:Yt (dP name) l i):(i<0/\l.find? (dP name)=eH)∨∃(n:Nat) (b:n<ii l),i=n/\l.find? (dP name)=dB l[n]:=by
 rcases h with⟨rfl,h⟩|⟨n,b,rfl,h1,h2⟩
 ·exact .inl ⟨i5,List.find?_eq_none.2 λe a=>zW.1 h e a⟩
 ·refine .inr ⟨n,b,i0,List.find?_eq_some_iff_append.2 ⟨h1,l.take n,l.drop (n+1),?_,λe a=>?_⟩⟩
  ·rw[<-qV b,qA]
  ·have:=zW.1 h2 e a;simpa using this
theorem aep(x:cg)(name:ByteArray)(Q:bO m=eL)(I:∀k d,bC ds k=dB d->d.l.length<=512)(H:aa B h0 h (bj bu a pw (aX x) offs da w ds::cx x m::As)):
  ac xR 32 #[xJ (dB a),xK name] h λv h'=>∃r:Sl,v=.tuple #[r,xH xN (kL m offs w ds name).2]/\Sp h h' [EA (ct 1 aE) r (kL m offs w ds name).1]:=by
 refine FX (dB a) name ?_;unfold ut;have hz:=ka Q;have am:=gv Q;have ax:(aN ds m.drives).length<=64:=zi (qP _ _) am;have f:∀{h':f8} (e:Int),Sp h h' []->kL m offs w ds name=([],e)->∃r:Sl,(.tuple #[xI eH 0 0,xH xN e]:Value)=.tuple #[r,xH xN (kL m offs w ds name).2]/\Sp h h' [EA (ct 1 aE) r (kL m offs w ds name).1]:=λe R he=>by
  rw[he];exact⟨⟨eH,0,0⟩,i0,(R.nil 5 1 aE).Bq 0 i0 λ_=>rfl⟩
 refine(pu H).mono ?_;rintro _ M ⟨rfl,rfl⟩;refine⟨_,i0,bv (λe=>f 14 (Sp.refl _) (by unfold kL;rw[f9 e])) λe1=>?_⟩;refine(find_spec x m name (H.at 1 i0) hz H).mono ?_;rintro _ h2 ⟨⟨i,rfl,hi⟩,R2⟩;have H2:=H.up R2.ai;refine⟨i,i0,?_⟩;rcases agz hi with⟨hneg,hf⟩|⟨n,hn,rfl,hf⟩
 ·exact aj (λ_=>f 5 R2 (by unfold kL;rw[g0 mn,hf])) λe=>absurd hneg e
 refine aj (λe=>absurd e (Int.not_lt.2 (zY n))) λ_=>?_;obtain⟨E,hE⟩:∃E,E=m.aG[n]:=⟨_,rfl⟩
 have ah:E∈m.aG:=by rw[hE];exact qg hn
 have ep:kL m offs w ds name=CJ m ds E:=by unfold kL;rw[g0 mn,hf,hE]
 rw[ep]at f⊢;refine(WJ x Q H2).mono ?_;rintro _ h3 ⟨rfl,R3⟩;have H3:=H2.up R3.ai;have L:Sp M h3 []:=R2.up R3.ai;refine⟨_,i0,bm (λe=>f 11 L (by unfold CJ;rw[f9 e])) λe3=>?_⟩;have e3:oL m ds=eL:=by simpa using e3
 have S:=(gP m E).1 (((bU m).1 Q).2.2.2.2.1 E ah);have a4:E.tries.length<=8:=by have:=ru S.2.2.1.2;omega
 have ad:=((dE m).1 ((bU m).1 Q).1).2.2.1;have ao:=(aa.cC H3).2;have a0:dY M x m:=H.at 1 i0;obtain⟨ys,F⟩:=bE.fix a0.aG;have a9:=F.2.1;have s:=Fix.row F hn;obtain⟨xe,W⟩:∃xe,xe=ys[n]'(by omega):=⟨_,rfl⟩
 rw[<-hE,<-W]at s;refine⟨a,i0,x.2.2.2.2.2.2.2,ao.cell i0,(Seq.up F.1 L.ai).dQ (g:=bQ) n i0 i4 xe (by rw[W]) ?_⟩;refine(Sp.refl h3).alloc af i0 λa8 h4 Q4=>?_;refine Q4.storeAll af 0 i0 i0 (bQ xe) i0 i0 i0 i0 λh5 Q5=>?_;have Q5:Sp h3 h5 [aw a8 94 (bQ xe)]:=Q5;have R5:Sp M h5 [aw a8 94 (bQ xe)]:=L.comp Q5;have X:Rd M xe.2.2.2 1 aC E.tries:=s.2;have a3:=X.len;have eo:xe.2.1=E.object:=s.1.2.1;have el:xe.2.2.1=E.length:=s.1.2.2;have R5:=R5.xT 34 5 1 aE;refine⟨xe.2.2.2,(Q5.box 0 i0).cell i0,?_⟩;refine av (λt:Sl×Nat=>(t.1,(t.2:Int))) (λt h'=>t.2<=E.tries.length/\(∀j,j<t.2->(jL m ds E.object E.tries j).2=0)/\Sp M h' [dN t.1 ((qE t.2).map λj=>(jL m ds E.object E.tries j).1),aw a8 94 (bQ xe)]) (λt=>E.tries.length-t.2) (⟨eH,0,0⟩,0) i0 ⟨i9,λj u=>absurd u (Nat.not_lt_zero _),R5⟩ ?_;rintro⟨o,k⟩ h6 ⟨hk,J,y⟩;dsimp only at hk J y⊢;have Z:=H.up y.ai;have P:=(aa.cC Z).2;have O:dY h6 x m:=Z.at 1 i0;have cp:∀{h':f8},cA h' a 84 (cH (aX x) pw offs da)->an h' (a.add 2) 0 [xH xN m.p.1,xH xN m.p.2.1,xH xN m.p.2.2]:=λ{h'} hb=>by
  rw[<-O.p];exact⟨j8,j8,j8,trivial⟩
 refine aj (λe=>?_) λe=>?_
 ·have z:k<E.tries.length:=by have e':(k:Int)<(xe.2.2.2.len:Int):=e;omega
  refine(Seq.up X y.ai).bB k i0 z E.tries[k] i0 ?_;refine bg ⟨a,i0,x,P.aS _ i0,xe.2.1,(y.box 1 i0).cell i0,(eF x m O hz Z).mono ?_⟩;rintro _ h7 ⟨lv,rfl,R7⟩;have H7:=Z.up R7.ai;have q:=(aa.cC H7).2;have V:=y.up R7.ai;refine⟨lv,i0,⟨(V.box 1 i0).cell i0,q.cell0 i0,q.cell i0,q.cell i0,q.cell i0,q.cell i0,q.cell i0,q.cell i0,q.cell i0,trivial⟩,?_⟩;rw[eo];refine(Ij x m lv (aN ds m.drives) E.object k (H7.at 1 rfl) hz (R7.seq 0 rfl λ_=>rfl) i4 (λj u=>by obtain⟨_,d,hd,_⟩:=jK u;exact⟨d,hd⟩) H7).mono ?_;rintro _ h8 ⟨r,ss,rfl,R8⟩;have H8:=H7.up R8.ai;have N:=(aa.cC H8).2;have K:=V.up R8.ai;refine⟨r,i0,trivial,bg ⟨a,i0,m.p,cp N,xe.2.1,(K.box 1 i0).cell i0,(rl xe.2.1 k E.tries[k] h8).mono ?_⟩⟩;rintro _ h9 ⟨rfl,rfl⟩;obtain⟨c1,c2,c3,_⟩:=cp N;have D:Fix jJ 2 piv h9 (λb=>b<h9.size) r ss (fQ m ds (aN ds m.drives) E.object k):=R8.at 0 i0;have ab:dX ND h9 r (fQ m ds (aN ds m.drives) E.object k):=⟨ss,D.1,D.2.1,D.2.2⟩
  have bb:(fQ m ds (aN ds m.drives) E.object k).length<=64*512:=by unfold fQ;refine zi (Ph (c:=512) λj u=>?_) (Nat.mul_le_mul_right _ ax);obtain⟨_,d,hd,_⟩:=jK u;unfold kw;rw[hd];have M:=ES m E.object k d.l;have h2:=I j d hd;show(tK m E.object k d.l).length<=512;omega
  rw[eo];refine⟨_,i0,⟨c1,c2,c3,trivial⟩,(Zh m.p (cF E.object k E.tries[k]) r _ h9 ab i4).mono ?_⟩;rintro _ a6 ⟨a2,rfl,A⟩;have eb:nk m.p (cF E.object k E.tries[k]) (fQ m ds (aN ds m.drives) E.object k)=jL m ds E.object E.tries k:=by unfold jL;rw[fR 0 z]
  rw[eb]at A⊢;have T:=K.up A.ai;refine⟨(a2,(jL m ds E.object E.tries k).2),i0,trivial,cv (λe4=>f 11 (.zip T.ai) ?_) λe4=>?_⟩
  ·unfold CJ;rw[g0 (by rw[e3];decide),g0];intro U;exact e4 (hY (qL.1 U k (qG.2 z)))
  ·have ay:=(K.comp A).bs 3 [0,2,1];refine aa.DW af ay fj i7 λo' a7 a1=>?_;refine⟨(o',k+1),jj,⟨i6,λj u=>?_,?_⟩,i6⟩
   ·rcases zn.1 u with u|rfl
    ·exact J j u
    ·simpa using e4
   ·dsimp only;rw[List.range_succ,qT];exact a1
 ·have ap:k=E.tries.length:=by have e':¬(k:Int)<(xe.2.2.2.len:Int):=e;omega
  subst ap;refine⟨a,i0,m.p,cp P,xe.2.2.1,(y.box 1 i0).cell i0,?_⟩;rw[el];have G:E.length<=2^20:=by obtain⟨⟨k1,k2⟩,_,z1,z2⟩:=(ce m.p).1 ad;have:m.p.1*m.p.2.2<=16*24:=yp k2 z2 i4 i4;have:=S.2.2.1.2;omega
  refine(ZA m.p o _ E.length h6 (y.LH λ_=>rfl) G i7).mono ?_;rintro _ a5 ⟨Y,b,rfl,ar⟩;have eg:CJ m ds E=(nG m.p ((qE E.tries.length).map λk=>(jL m ds E.object E.tries k).1) E.length,0):=by unfold CJ;rw[g0 (by rw[e3];decide),f9 (qL.2 λj u=>g9 (J j (qG.1 u)))]
  rw[eg];exact⟨(Y,b),i0,trivial,Y,i0,((y.comp ar).ck [2])⟩
end
end Go.Qw
