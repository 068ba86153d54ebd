/- Lemmas for the proof of the law; no condition. -/
import Derived.Test.YtplpfpidgljdhaaGreatDoorKC
set_option maxHeartbeats 2000000
set_option linter.unusedVariables false
set_option linter.unusedSimpArgs false
open Go.Proofs.Tryz renaming prog -> xP
open Go.Value renaming agg -> xK, bool -> xJ, int -> xF, pointer -> xH, slice -> xG, string -> xI
open Go.IntKind renaming bits -> qH, i64 -> xL, u32 -> xN, u8 -> xM, wrap -> qe
open List renaming dropLast_concat_getLast -> yL, filterMap_append -> vq, map_set -> vR, range -> qx, range' -> zQ, replicate -> qi, zipWith -> zf
open Int renaming tdiv -> vm
open Prod renaming fst -> qt, snd -> zh
open Go.Instr renaming slice -> xk, sliceAt -> w4, sliceBounds -> wk, storeAt -> qG
open BitVec renaming ofInt -> qO
set_option maxRecDepth 100000
open Option renaming some -> dB, none -> eH
open Bool renaming true -> eX, false -> fz
open Go renaming Addr -> f8
open Go.Qw renaming Heap -> g0
open List renaming length -> i0
namespace Go.Qw
open Go.Proofs
variable {B:aw} {h0 h:g0} {As:List HP} {a b:f8} {mc:aT} {offs:Int} {da:List cj} {w:Pow} {ds:aE} {d:aZ}
section
variable {pw:f8}
theorem Kv{p:aw}(s:Sl)(l:aB)(x:Int)(h:g0)(g:Seq h p s 1 ak l)(n:i0 l<=2^40):an xP 80 #[s,xF xL x] h λv h'=>v=xJ (decide (x∈l))/\h'=h:=by
 refine ts Tryz.func80 ?_;refine(mW s x (R:=λv h'=>(∃i:Int,v=xF xL i/\(decide (i>=0)=decide (x∈l)))/\h'=h) ?_).mono ?_
 ·skip
  have k:=g.len;refine aq (λi:Nat=>(i:Int)) (λi h'=>i<=i0 l/\x∉l.take i/\h'=h) (λi=>i0 l-i) 0 i4 ⟨i5,jj,i4⟩ ?_;rintro i j ⟨f,b,rfl⟩;refine ag (λd=>?_) (λd=>?_)
  ·have a:i<i0 l:=by have m:(i:Int)<(s.len:Int):=d;omega
   refine g.bt i i4 a l[i] i4 ?_;refine cH (λe=>⟨⟨i,i4,?_⟩,i4⟩) (λe=>?_)
   ·rw[hY (show(i:Int)>=0 by omega),hY (by rw[e];exact qf a)]
   ·refine⟨i+1,j1,⟨i5,λc=>?_,i4⟩,i5⟩;rw[aD _ _ a]at c;rcases qz.1 c with c|c
    ·exact b c
    ·exact e (qu.1 c)
  ·have m:¬(i:Int)<(s.len:Int):=d;rw[qg i5]at b;exact⟨⟨-1,i4,o9⟩,i4⟩
 ·rintro _ j ⟨⟨i,rfl,f⟩,rfl⟩;exact⟨i,i4,by rw[f],i4⟩
theorem Yu(H:aa B h0 h (aY ba a pw mc offs da w ds::As)):an xP 78 #[xH (dB a)] h λv h'=>v=xJ (fH w offs)/\h'=h:=by refine ts Tryz.func78 ?_;refine bo (λe=>j3) λ_=>(rh H).mono ?_;rintro _ _ ⟨rfl,rfl⟩;exact⟨_,i4,i4,i4⟩
def Kw(slot cells:Int):Bool:=decide ((0<=slot/\slot<64)/\1<=cells/\cells<=512)
theorem Rq(slot cells:Int)(h:g0):an xP 79 #[xF xL slot,xF xL cells] h λv h'=>v=xJ (Kw slot cells)/\h'=h:=by
 refine ts Tryz.func79 ?_;unfold Kw;refine ag (λb=>ag (λc=>ag (λa=>⟨?_,i4⟩) λa=>⟨?_,i4⟩) λc=>⟨?_,i4⟩) λb=>⟨?_,i4⟩
 ·congr 1;rw[decide_eq_decide];omega
 all_goals (rw[hZ i5])
theorem Yv(n:Nat)(j:n<64)(x:bm)(H:aa B h0 h (jX pw b d::aY ba a pw (aA x) offs da w ds::As)):
  an xP 81 #[xH (dB a),xF xL n,xH (dB b)] h λv h'=>v=.tuple #[]/\aa B h0 h' (aY ba a pw (aA x) offs (da.set n (dB b)) w (ds.set n (dB d))::As):=by
 refine ts Tryz.func81 ?_;refine bo (λ_=>?_) λe=>j3
 refine ag (λ_=>ag (λ_=>?_) λe=>absurd (show(n:Int)<64 by omega) e) λe=>absurd (show(n:Int)>=0 by omega) e;refine⟨a,i4,⟨i5,i5⟩,?_⟩;rw[qj,wN];have f:aa B h0 h (aY ba a pw (aA x) offs da w ds::jX pw b d::As):=H.aO 2 [1,0];obtain⟨ok,i⟩:=Qw.aa.oz f;have g:(a.add 10).add n=a.add (10+n):=by unfold Addr.add;simp[w5]
 rw[g];refine i.storeAt aj 0 i4 i4 i4 i4 i4 (by simp[ok.la];omega) λh' c=>?_;rw[zp,Ln ok.l8]at c;exact⟨i4,aa.abp ok j c⟩
end
variable {k:Kit} {n:Nat}
section
variable {pw:f8}
theorem Vp(h8:i0 mc=8):(bQ mc pw offs da).set (10+n) (xH eH)=bQ mc pw offs (da.set n eH):=by unfold bQ;rw[qV _ _ i5,h8,show 10+n-8=n+1+1 by omega,zw,zw,vR]
theorem aa.abq(ok:fG mc da ds)(q:n<64)(H:aa B h0 h (ac a k.tS (bQ mc pw offs (da.set n eH))::bV k.tP pw w::(dq k pw da ds++As))):aa B h0 h (aY k a pw mc offs (da.set n eH) w (ds.set n eH)::As):=by
 have g:=ok.la;have f:=ok.ls;have l:fG mc (da.set n eH) (ds.set n eH):=⟨ok.l8,n9,p0,λi=>by
  by_cases c:n=i
  ·subst c;rw[qd,qd,zk i5,zk i5];rfl
  ·have:=ok.same i;rw[qd,qd]at this⊢;rw[zF c,zF c];exact this⟩
 have o:=Cl (k:=k) (pw:=pw) ok;have d:dq k pw (da.set n eH) (ds.set n eH)=(dq k pw da ds).set n emp:=by
  apply List.ext_getElem?;intro j;simp only[dq,List.getElem?_set,List.getElem?_zipWith,List.length_zipWith];by_cases e:n=j
  ·subst e;rw[g9 i4,g9 i5,g9 i4,g9 i5,g9 i4,g9 i5];rfl
  ·simp[e]
 refine aa.oJ l ?_;rw[d];obtain⟨L,m⟩:∃L,L=dq k pw da ds:=⟨_,rfl⟩
 rw[<-m]at H o⊢;have b:n<i0 L:=i5
 have H:=H.eJ (n+2) (A:=L[n]) (D:=emp) (by rw[qp,qp,List.getElem?_append_left b,qc b]) λ_ _=>trivial;have p:(ac a k.tS (bQ mc pw offs (da.set n eH))::bV k.tP pw w::(L++As)).set (n+2) emp=ac a k.tS (bQ mc pw offs (da.set n eH))::bV k.tP pw w::(L.set n emp++As):=by rw[zw,zw,List.set_append_left _ _ b]
 rw[p]at H;exact H
end
def Bn(m:av)(l:aB):av:={m with seq:=m.seq+1,drives:=l}
def kT(m:av)(offs:Int)(w:Pow)(ds:aE)(slot cells:Int):Int×av×Pow×aE:=
 if fH w offs then(14,m,w,ds)else if Kw slot cells=fz then(1,m,w,ds)else if slot∈m.drives then(4,m,w,ds)else if m.seq>=2147483647 then(7,m,w,ds)else
 let r:=cB m offs w (ds.set slot.toNat (dB (aZ.new cells.toNat))) (Bn m (iH (m.drives++[slot])))
 (r.1,r.2.1,r.2.2.1,if r.1=7 then r.2.2.2.set slot.toNat eH else r.2.2.2)
section
variable {pw:f8}
theorem Px(n:Nat)(f:n<64)(x:bm)(H:aa B h0 h (aY ba a pw (aA x) offs da w ds::As)):
  an xP 81 #[xH (dB a),xF xL n,xH eH] h λv h'=>v=.tuple #[]/\aa B h0 h' (aY ba a pw (aA x) offs (da.set n eH) w (ds.set n eH)::As):=by
 refine ts Tryz.func81 ?_;refine bo (λ_=>?_) λe=>j3
 refine ag (λ_=>ag (λ_=>?_) λe=>absurd (show(n:Int)<64 by omega) e) λe=>absurd (show(n:Int)>=0 by omega) e;refine⟨a,i4,⟨i5,i5⟩,?_⟩;rw[qj,wN];obtain⟨ok,d⟩:=Qw.aa.oz H;have c:(a.add 10).add n=a.add (10+n):=by unfold Addr.add;simp[w5]
 rw[c];refine d.storeAt aj 0 i4 i4 i4 i4 i4 (by simp[ok.la];omega) λh' b=>?_;rw[zp,Vp ok.l8]at b;exact⟨i4,aa.abq ok f b⟩
theorem Jk(x:bm)(m:av)(l:dh h x m)(o:cF m)(H:aa B h0 h (aY ba a pw (aA x) offs da w ds::As)):
  an xP 11 #[xH (dB a)] h λv h'=>∃(y:bm) (L:List (dN×Qw.cu)) (pool:List (Sl×aB)),v=dz y/\(y.1=m.seq/\y.2.1=m.next/\(y.2.2.1,y.2.2.2.1,y.2.2.2.2.1)=m.p/\y.2.2.2.2.2.1=m.extra)/\L.map zh=m.objs/\(∀p∈L,Ch pool p)/\
   Sp h h' [cw 1 ak pool,af 3 y.2.2.2.2.2.2.1 1 ak m.drives,af 88 y.2.2.2.2.2.2.2 4 bc (L.map qt)]:=by
 refine ts Tryz.func11 ?_;obtain⟨ok,f⟩:=aa.cK H;refine(Sp.refl h).alloc aj i4 λr k c=>?_;have b:=f.ae c.ae f.lt;refine bo (λe=>j3) λ_=>⟨a,i4,x,b.aF _ i4,(nz x m k (l.up c.ae) o).mono ?_⟩;rintro _ s ⟨y,L,pool,rfl,g,n,j,q⟩;have i:=c.comp q;refine⟨y,i4,?_⟩;refine i.store aj 0 i4 i4 0 (aA y) i4 i4 i4 kt λh3 d=>?_;exact⟨y,(d.box 0 i4).aF _ i4,y,L,pool,i4,g,n,j,d.bA [1,2,3]⟩
theorem Yw(slot cells:Int)(x:bm)(m:av)(O:bf m=eX)(H:aa B h0 h (aY ba a pw (aA x) offs da w ds::bh x m::As)):
  an xP 27 #[xH (dB a),xF xL slot,xF xL cells] h λv h'=>v=xF xL (kT m offs w ds slot cells).1/\
   ∃y Z,aa B h0 h' (aY ba a pw (aA y) offs Z (kT m offs w ds slot cells).2.2.1 (kT m offs w ds slot cells).2.2.2::bh y (kT m offs w ds slot cells).2.1::As):=by
 refine ts Tryz.func27 ?_ (.two .n (.two .n (.two .n (.two .n (.two .n (.two .n (.two .n (.two .n (.two .n (.two (.join [] [(50,55)] .n) .n))))))))));have J:=iC O;have ad:=gy O;obtain⟨g1,g2,g3,g4⟩:=(dn m).1 ((bM m).1 O).1;refine(Yu H).mono ?_;rintro _ h1 ⟨rfl,rfl⟩;refine⟨_,i4,bo (λe=>?_) λK=>?_⟩
 ·have i:kT m offs w ds slot cells=(14,m,w,ds):=by unfold kT;rw[g9 e]
  rw[i];exact⟨i4,x,da,H⟩
 refine(Jk x m (H.at 1 i4) J H).mono ?_;rintro _ h2 ⟨y,L,pool,rfl,z,P,hL,R2⟩;have H2:=(H.comp R2).front;refine⟨y,i4,H2.alloc aj i4 λa3 h3 S=>?_⟩;have S:=S.be;refine S.storeAll aj 0 i4 i4 (aA y) i4 i4 i4 i4 λh4 j=>?_;have j:aa B h0 h4 (ac a3 39 (aA y)::cw 1 ak pool::af 3 y.2.2.2.2.2.2.1 1 ak m.drives::af 88 y.2.2.2.2.2.2.2 4 bc (L.map qt)::aY ba a pw (aA x) offs da w ds::bh x m::As):=j;refine(Rq slot cells h4).mono ?_;rintro _ h5 ⟨rfl,rfl⟩;refine⟨_,i4,aR (λu=>?_) λu=>?_⟩
 ·have i:kT m offs w ds slot cells=(1,m,w,ds):=by unfold kT;rw[hU sL,g9 u]
  rw[i];exact⟨i4,x,da,j.aO 6 [4,5]⟩
 refine⟨y.2.2.2.2.2.2.1,(j.box 0 i4).cell i4,(Kv _ m.drives slot h5 (j.seq 2 i4 λ_=>rfl) i5).mono ?_⟩;rintro _ h6 ⟨rfl,rfl⟩;refine⟨_,i4,bo (λN=>?_) λN=>?_⟩
 ·have i:kT m offs w ds slot cells=(4,m,w,ds):=by unfold kT;rw[hU sL,hU (by rw[u];decide),g9 (ii N)]
  rw[i];exact⟨i4,x,da,j.aO 6 [4,5]⟩
 have q:slot∉m.drives:=of_decide_eq_false N;refine⟨y.1,(j.box 0 i4).cell0 i4,ag (λI=>?_) λI=>?_⟩
 ·rw[z.1]at I;have i:kT m offs w ds slot cells=(7,m,w,ds):=by unfold kT;rw[hU sL,hU (by rw[u];decide),hU q,g9 I]
  rw[i];exact⟨i4,x,da,j.aO 6 [4,5]⟩
 rw[z.1]at I;have E:=ii u;obtain⟨n,hn⟩:∃n:Nat,slot=n:=⟨slot.toNat,i5⟩
 have p:n<64:=i5
 have H5:aa B h0 h6 (aY ba a pw (aA x) offs da w ds::ac a3 39 (aA y)::cw 1 ak pool::af 3 y.2.2.2.2.2.2.1 1 ak m.drives::af 88 y.2.2.2.2.2.2.2 4 bc (L.map qt)::bh x m::As):=j.aO 6 [4,0,1,2,3,5];refine(CZ H5).mono ?_;rintro _ h7 ⟨rfl,rfl⟩;refine⟨_,i4,(Ip cells pw h7).mono ?_⟩;rintro _ h8 ⟨Q1,_⟩;obtain⟨b,rfl,R8⟩:=Q1 ⟨E.2.1,E.2.2⟩;have H8:=H5.cb R8;subst hn;refine⟨_,i4,(Yv n p x H8).mono ?_⟩;rintro _ h9 ⟨rfl,A⟩;obtain⟨ds1,l⟩:∃ds1,ds1=ds.set n (dB (aZ.new cells.toNat)):=⟨_,rfl⟩
 rw[<-l]at A;have A:aa B h0 h9 (ac a3 39 (aA y)::af 3 y.2.2.2.2.2.2.1 1 ak m.drives::cw 1 ak pool::af 88 y.2.2.2.2.2.2.2 4 bc (L.map qt)::aY ba a pw (aA x) offs (da.set n (dB b)) w ds1::bh x m::As):=A.aO 6 [1,3,2,4,0,5];refine⟨(),i4,y.1,(A.box 0 i4).cell0 i4,?_⟩
 try dsimp only
 rw[z.1,ai (m.seq+1)];refine A.jr aj 0 i4 i4 [xF xL (m.seq+1)] i4 i4 i4 kt λW k=>?_;have k:aa B h0 W (ac a3 39 (xF xL (m.seq+1)::(aA y).drop 1)::af 3 y.2.2.2.2.2.2.1 1 ak m.drives::cw 1 ak pool::af 88 y.2.2.2.2.2.2.2 4 bc (L.map qt)::aY ba a pw (aA x) offs (da.set n (dB b)) w ds1::bh x m::As):=k;refine⟨_,(k.box 0 i4).cell i4,?_⟩;refine k.push aj 1 i4 fN i4 i6 (λ_=>rfl) eS (n:Int) i4 i6 i5 λo ah ab=>?_;refine ab.store aj 0 i4 i4 6 [o] i4 i4 i4 kt λG d=>?_;obtain⟨c,g⟩:∃c:bm,c=(m.seq+1,y.2.1,y.2.2.1,y.2.2.2.1,y.2.2.2.2.1,y.2.2.2.2.2.1,o,y.2.2.2.2.2.2.2):=⟨_,rfl⟩
 have ed:c.2.2.2.2.2.2.1=o:=by rw[g]
 have eo:c.2.2.2.2.2.2.2=y.2.2.2.2.2.2.2:=by rw[g]
 have d:aa B h0 G (ac a3 39 (aA c)::af 3 c.2.2.2.2.2.2.1 1 ak (m.drives++[(n:Int)])::cw 1 ak pool::af 88 c.2.2.2.2.2.2.2 4 bc (L.map qt)::aY ba a pw (aA x) offs (da.set n (dB b)) w ds1::bh x m::As):=by rw[ed,eo,g];exact d
 refine⟨_,(d.box 0 i4).cell i4,(Ed c.2.2.2.2.2.2.1 (m.drives++[(n:Int)]) G (d.own 1 i4) i9).mono ?_⟩;rintro _ D ⟨rfl,R,T⟩;have f:=d.nr 1 i4 T R;obtain⟨dr,s⟩:∃dr,dr=iH (m.drives++[(n:Int)]):=⟨_,rfl⟩
 rw[<-s]at f;have f:aa B h0 D (ac a3 39 (aA c)::af 3 c.2.2.2.2.2.2.1 1 ak dr::cw 1 ak pool::af 88 c.2.2.2.2.2.2.2 4 bc (L.map qt)::aY ba a pw (aA x) offs (da.set n (dB b)) w ds1::bh x m::As):=f;refine⟨(),i4,c,(f.box 0 i4).aF _ i4,?_⟩;obtain⟨M,F⟩:∃M,M=Bn m dr:=⟨_,rfl⟩
 have Q:aa B h0 D (bh c M::aY ba a pw (aA x) offs (da.set n (dB b)) w ds1::bh x m::As):=aa.Ci (m:=M) (L:=L) (pool:=pool) (by rw[F,g];exact⟨i4,z.2.1,z.2.2.1,z.2.2.2⟩) (by rw[F];exact P) hL (by rw[F];exact f.aO 6 [2,1,3,4,5]);have U:cF M:=by rw[F];exact⟨by show dr.length<=_;rw[s,Dy];simp;omega,J.ob,J.nm⟩
 refine(Gj x m c M (As:=bh c M::As) (St.eG 0 i4 λ_ hq=>hq) J U i5 (Q.aO 3 [1,2,0])).mono ?_;rintro _ al ⟨rfl,Y,t⟩;have i:kT m offs w ds n cells=((cB m offs w ds1 M).1,(cB m offs w ds1 M).2.1,(cB m offs w ds1 M).2.2.1,if(cB m offs w ds1 M).1=7 then(cB m offs w ds1 M).2.2.2.set n eH else(cB m offs w ds1 M).2.2.2):=by unfold kT;rw[hU sL,hU (by rw[u];decide),hU q,hU I,F,s,l];rfl
 rw[i];obtain⟨r,hr⟩:∃r,r=cB m offs w ds1 M:=⟨_,rfl⟩
 rw[<-hr]at t⊢;refine⟨_,i4,aW (cH (λV=>?_) λV=>?_)⟩
 ·refine(Px n p Y (t.aO 3 [0,1])).mono ?_;rintro _ am ⟨rfl,X⟩;exact⟨(),i4,i4,Y,_,by rw[g9 V];exact X⟩
 ·exact⟨i4,Y,_,by rw[hU V];exact t.aO 3 [0,1]⟩
end
section
variable {pw:f8}
theorem ER{k:Int}{d:aZ}(e:aV ds k=dB d)(H:aa B h0 h (aY ba a pw mc offs da w ds::As)):∃(b:f8) (s g:Sl),iG da k=dB b/\bY h b 102 (gr pw d s g)/\eT h s 1 az d.l/\gA d:=by
 obtain⟨ok,_⟩:=aa.cK H;rcases oA ok k with⟨h1,_⟩|⟨n,d',b,rfl,hn,h1,h2,h3,h4⟩
 ·rw[h1]at e;cases e
 ·rw[h2]at e;injection e with e
  subst e;obtain⟨m,c,j⟩:=Qw.aa.kC H h1;rw[h3]at c;injection c with c
  injection c with c
  subst c;obtain⟨f,s,g,i⟩:=aa.rE j;exact⟨b,s,g,h4,i.box 0 i4,(i.aO 2 [1,0]).rP λ_=>rfl,f⟩
theorem Py{k:Int}(H:aa B h0 h (aY ba a pw mc offs da w ds::As)):an xP 13 #[xH (dB a),xF xL k] h λv h'=>v=.pointer (iG da k)/\h'=h:=by obtain⟨ok,b⟩:=aa.cK H;exact my k ok b
theorem Pz{k:Int}{d:aZ}{b:f8}(x:bm)(m:av)(f:aV ds k=dB d)(g:iG da k=dB b)(i:dh h x m)(j:cF m)(H:aa B h0 h (aY ba a pw mc offs da w ds::As)):
  an xP 133 #[xH (dB b),dz x] h λv h'=>v=xJ (gI m d.l)/\Sp h h' []:=by
 obtain⟨q,s,n,c,o,e,p⟩:=ER f H;rw[g]at c;injection c with c
 subst c;exact UN b pw d s n x m h o e p i j
end
def bD(a pw:f8)(b:List cj)(offs:Int)(w:Pow)(ds:aE)(m:av):HP:=HP.ex λx:bm=>(aY ba a pw (aA x) offs b w ds).sep (bh x m)
variable {m:av}
section
variable {pw:f8}
theorem fO(H:aa B h0 h (bD a pw da offs w ds m::As)):∃x,aa B h0 h (aY ba a pw (aA x) offs da w ds::bh x m::As):=by obtain⟨x,H⟩:=H.oW;exact⟨x,H.mg.gV⟩
theorem lZ{x:bm}(H:aa B h0 h (aY ba a pw (aA x) offs da w ds::bh x m::As)):aa B h0 h (bD a pw da offs w ds m::As):=
 aa.ub (F:=λx:bm=>(aY ba a pw (aA x) offs da w ds).sep (bh x m)) x H.gV.jd
theorem ka(H:aa B h0 h (bD a pw da offs w ds m::As)):i0 ds=64/\∀k d,aV ds k=dB d->i0 d.l<=d.room/\d.room<=512/\gA d:=by obtain⟨x,H⟩:=fO H;obtain⟨ok,_⟩:=aa.cK H;refine⟨ok.ls,λk d e=>?_⟩;obtain⟨b,s,f,_,_,_,c⟩:=ER e H;exact⟨c.len,c.room,c⟩
theorem Vq(p:Pm)(extra:Int)(s:Sl)(l:aB)(i:St B h0 As λh=>Rd h s 1 ak l)(e:i0 l<=64)(j:sF p extra l=0)(c:w=Pow.new)(H:aa B h0 h (bV 104 pw w::As)):
  an xP 22 #[jW p,xF xL extra,xH (dB pw),s] h λv h'=>∃(a:f8) (da:List cj) (D:aE),v=.tuple #[xH (dB a),xF xL 0]/\D.length=64/\
   (∀s,aV D s=if s∈bj l l.length then dB ⟨(l.getD s.toNat 0).toNat,aM (cx p extra l),0,[],fz,fz⟩else eH)/\aa B h0 h' (bD a pw da 0 Pow.new D (cx p extra l)::As):=by
 subst c;obtain⟨D,f,k,g⟩:=XT (p:=p) (extra:=extra) (l:=l) e j;refine(QO p extra s l i i5 H).mono ?_;rintro _ h' ⟨_,b⟩;rw[f]at b;obtain⟨a,y,da,rfl,d⟩:=b rfl;exact⟨a,da,D,i4,k,g,lZ d⟩
theorem aef(name:ByteArray)(s:Sl)(b:aL)(i:St B h0 As λh=>Rd h s 1 az b)(d:s.len<=s.cap)(k:name.size<=2^40)(c:bf m=eX)(e:i0 b<=2^20)(H:aa B h0 h (bD a pw da offs w ds m::As)):
  an xP 25 #[xH (dB a),xI name,s] h λv h'=>v=xF xL (gH m offs w ds name b).1/\
   aa B h0 h' (bD a pw da offs (gH m offs w ds name b).2.2.1 (gH m offs w ds name b).2.2.2 (gH m offs w ds name b).2.1::As):=by
 obtain⟨x,H⟩:=fO H;obtain⟨l,n,f,g⟩:=(dn m).1 ((bM m).1 c).1;refine(aaQ x m name s b i d k (iC c) f g (iQ c) (gy c) i5 i5 e H).mono ?_;rintro _ h' ⟨rfl,y,j⟩;exact⟨i4,lZ j⟩
theorem aeg(slot cells:Int)(c:bf m=eX)(H:aa B h0 h (bD a pw da offs w ds m::As)):
  an xP 27 #[xH (dB a),xF xL slot,xF xL cells] h λv h'=>v=xF xL (kT m offs w ds slot cells).1/\
   ∃b,aa B h0 h' (bD a pw b offs (kT m offs w ds slot cells).2.2.1 (kT m offs w ds slot cells).2.2.2 (kT m offs w ds slot cells).2.1::As):=by
 obtain⟨x,H⟩:=fO H;refine(Yw slot cells x m c H).mono ?_;rintro _ h' ⟨rfl,y,b,d⟩;exact⟨i4,b,lZ d⟩
theorem Hq(b:bf m=eX)(H:aa B h0 h (bD a pw da offs w ds m::As)):
  an xP 12 #[xH (dB a)] h λv h'=>∃r:Sl,v=r/\Sp h h' [af 3 r 1 ak (aU ds m.drives)]:=by
 obtain⟨x,H⟩:=fO H;exact gb x m (H.at 1 i4) (iC b) H
theorem CE(b:bf m=eX)(H:aa B h0 h (bD a pw da offs w ds m::As)):
  an xP 11 #[xH (dB a)] h λv h'=>∃y:bm,v=dz y/\Sp h h' [bh y m]:=by
 obtain⟨x,H⟩:=fO H;exact Kn x m (H.at 1 i4) (iC b) H
theorem LL(k:Int)(H:aa B h0 h (bD a pw da offs w ds m::As)):an xP 13 #[xH (dB a),xF xL k] h λv h'=>v=.pointer (iG da k)/\h'=h:=by obtain⟨x,H⟩:=fO H;exact Py H
theorem Ta{k:Int}{d:aZ}(e:aV ds k=dB d)(H:aa B h0 h (bD a pw da offs w ds m::As)):∃b,iG da k=dB b:=by obtain⟨x,H⟩:=fO H;obtain⟨b,_,_,c,_⟩:=ER e H;exact⟨b,c⟩
theorem PA{k:Int}{d:aZ}{b:f8}(g:aV ds k=dB d)(i:iG da k=dB b)(H:aa B h0 h (bD a pw da offs w ds m::As)):∃s e:Sl,bY h b 102 (gr pw d s e)/\eT h s 1 az d.l/\gA d:=by
 obtain⟨x,H⟩:=fO H;obtain⟨o,s,e,c,j,f,n⟩:=ER g H;rw[i]at c;injection c with c
 subst c;exact⟨s,e,j,f,n⟩
theorem ES(o b:Int)(e:bf m=eX)(H:aa B h0 h (bD a pw da offs w ds m::As)):
  an xP 33 #[xH (dB a),xF xL o,xF xL b] h λv h'=>∃r:Sl,v=r/\Sp h h' [dH 22 r 3 1 ak (dF m ds o b (aU ds m.drives))]:=by
 have c:=(ka H).2;obtain⟨x,H⟩:=fO H;exact UL x m o b (H.at 1 i4) (iC e) (gy e) (λk d f=>by have:=c k d f;omega) H
theorem abr(H:aa B h0 h (bD a pw da offs w ds m::As)):an xP 38 #[xH (dB a)] h λv h'=>v=xJ (fH w offs)/\h'=h:=by obtain⟨x,H⟩:=fO H;exact rh H
theorem Yx(H:aa B h0 h (bD a pw da offs w ds m::As)):an xP 7 #[xH (dB a)] h λv h'=>v=xH (dB pw)/\h'=h:=by obtain⟨x,H⟩:=fO H;exact CZ H
end
def Hr(m:av)(i:Nat):av:={m with seq:=m.seq+1,objs:=m.objs.take i++m.objs.drop (i+1)}
def gh(m:av)(offs:Int)(w:Pow)(ds:aE)(name:ByteArray):Int×av×Pow×aE:=
 if fH w offs then(14,m,w,ds)else if m.objs.any (gm name)=fz then(5,m,w,ds)else if m.seq>=2147483647 then(7,m,w,ds)else
 cB m offs w ds (Hr m (m.objs.findIdx (gm name)))
theorem PB{C:Ctx}{t e k:Nat}{z:aT}{b:Nat}{h:g0}{s:Sl}(a:C.Ok)(c:bG C.toAQ t e k z b){x y u:Int}(i j n:Nat)(B:x=i)(L:y=j)(d:u=n)(p:i<=j)(q:j<=n)(h3:n<=s.cap){K:Sl->g0->Prop}(H:∀v,K v h):
  bz C.P (w4 t (xG s.ptr s.len s.cap) (dB (xF xL x)) (dB (xF xL y)) (dB (xF xL u))) (.one (.sc .slc)) h K:=by
 subst B;subst L;subst d;have A:aH C.P (wk eX s.len s.cap (dB (xF xL (i:Int))) (dB (xF xL (j:Int))) (dB (xF xL (n:Int)))) (i,j,n):=λw=>by
  have I:¬((n:Int)<0):=i5
  have x2:¬((s.cap:Int)<(n:Int)):=i5
  have x3:(n:Int)<=(s.cap:Int):=i5
  have M:(0:Int)<=(n:Int):=i5
  have o:(0:Int)<=(j:Int):=i5
  have f:(0:Int)<=(i:Int):=i5
  have g:(j:Int)<=(n:Int):=i5
  have r:(i:Int)<=(j:Int):=i5
  have D:¬((j:Int)<0):=i5
  have F:¬((i:Int)<0):=i5
  have l:¬((n:Int)<(j:Int)):=i5
  have G:¬((j:Int)<(i:Int)):=i5
  have E:¬(n<j):=i5
  have J:¬(j<i):=i5
  have m:¬(s.cap<n):=i5
  simp[wk,Instr.sliceBound,asIntOf,I,x2,x3,M,o,f,g,r,D,F,l,G,E,J,m,p,q,h3]
 unfold bz w4;refine au.bind (au.always (aG (c.under a)) ?_);show au C.P (xk t (xG s.ptr s.len s.cap) (dB (xF xL (i:Int))) (dB (xF xL (j:Int))) (dB (xF xL (n:Int)))) h _;unfold xk;refine au.bind (au.always (aG (c.under a)) ?_);refine au.bind (au.always A ?_);refine au.bind (au.always (c.size a) ?_);exact au.pure' ⟨⟨_,_,_⟩,i4,H _⟩
variable {s:Sl}
section
variable {pw:f8}
theorem Rs(d:List dN)(i:Nat)(j:i<i0 d)(o:i0 d<=2^30)(H:aa B h0 h (af 88 s 4 bc d::As)):
  an xP 76 #[s,xF xL i,xF xL (i+1)] h λv h'=>∃r:Sl,v=r/\aa B h0 h' (af 88 r 4 bc (d.take i++d.drop (i+1))::As):=by
 refine ts Tryz.func76 ?_;have f:=H.own 0 i4;have p:=f.len;have k:=f.cap;refine PB aj Kg i (i+1) s.len i4 i4 i4 i5 i5 k λ_=>?_;refine cH (λe=>absurd e i5) λ_=>⟨⟨i5,i5⟩,⟨i5,i5⟩,?_⟩
 have l:((i:Int)+1).toNat=i+1:=i5
 rw[l,qj];refine H.Kc aj 0 i4 Kg ⟨_,_,i4,i4⟩ (λ_=>rfl) FE i j λm b=>⟨trivial,⟨i5,i7,i7⟩,?_⟩
 have b:aa B h0 m (af 88 s 4 bc ((d.take i++d.drop (i+1))++d.drop (i0 d-1))::As):=b;have a:i0 (d.take i++d.drop (i+1))=i0 d-1:=i9
 try dsimp only
 rw[qj,qj];refine b.oF aj 0 i4 Kg (λ_=>rfl) i4 (by intro v g;simp at g;rcases g with rfl|rfl|rfl<;>rfl) (i0 d-1) i9 λq c=>?_;have n:((d.take i++d.drop (i+1))++d.drop (i0 d-1)).take (i0 d-1)=d.take i++d.drop (i+1):=by rw[<-a,List.take_left]
 rw[n]at c;exact⟨⟨s.ptr,i0 d-1,s.cap⟩,i4,c⟩
theorem PC(name:ByteArray)(x:bm)(m:av)(I:bf m=eX)(H:aa B h0 h (aY ba a pw (aA x) offs da w ds::bh x m::As)):
  an xP 26 #[xH (dB a),xI name] h λv h'=>v=xF xL (gh m offs w ds name).1/\
   ∃y,aa B h0 h' (aY ba a pw (aA y) offs da (gh m offs w ds name).2.2.1 (gh m offs w ds name).2.2.2::bh y (gh m offs w ds name).2.1::As):=by
 refine ts Tryz.func26 ?_;have q:=iC I;have S:=gy I;obtain⟨g1,g2,g3,g4⟩:=(dn m).1 ((bM m).1 I).1;have ad:=((bM m).1 I).2.2.2.1;refine(sa H).mono ?_;rintro _ h1 ⟨rfl,rfl⟩;refine⟨_,i4,bo (λe=>?_) λO=>?_⟩
 ·have g:gh m offs w ds name=(14,m,w,ds):=by unfold gh;rw[g9 e]
  rw[g];exact⟨i4,x,H⟩
 refine(find_spec x m name (H.at 1 i4) q H).mono ?_;rintro _ T ⟨⟨i,rfl,W⟩,R2⟩;have s:=H.up R2.ae;refine⟨i,i4,?_⟩;rcases W with⟨rfl,hno⟩|⟨n,hn,rfl,d,hbef⟩
 ·refine ag (λ_=>?_) λe=>absurd i6 e;have g:gh m offs w ds name=(5,m,w,ds):=by unfold gh;rw[hU (by rw[O];decide),g9 hno]
  rw[g];exact⟨i4,x,s⟩
 have f:m.objs.any (gm name)=eX:=List.any_eq_true.2 ⟨_,qf hn,d⟩;have z:m.objs.findIdx (gm name)=n:=by rw[List.findIdx_eq hn];refine⟨d,λj hj=>?_⟩;have:=wo.1 hbef (m.objs[j]'(by omega)) (List.mem_take_iff_getElem.2 ⟨j,i5,i4⟩);simpa using this
 have u:=(aa.cK s).2;have D:dh T x m:=s.at 1 i4;refine ag (λe=>absurd e (Int.not_lt.2 (z8 n))) λ_=>⟨a,i4,x.1,u.cell0 i4,?_⟩
 rw[D.seq];refine ag (λP=>?_) λP=>?_
 ·have g:gh m offs w ds name=(7,m,w,ds):=by unfold gh;rw[hU (by rw[O];decide),hU (by rw[f];decide),g9 P]
  rw[g];exact⟨i4,x,s⟩
 refine⟨a,i4,x,u.aF _ i4,(nz x m T D q).mono ?_⟩;rintro _ h3 ⟨y,L,pool,rfl,E,A,X,R3⟩;have U:=(s.comp R3).front;refine⟨y,i4,U.alloc aj i4 λa3 h4 Q=>?_⟩;have Q:=Q.be;refine Q.storeAll aj 0 i4 i4 (aA y) i4 i4 i4 i4 λV G=>?_;have G:aa B h0 V (ac a3 39 (aA y)::cw 1 ak pool::af 3 y.2.2.2.2.2.2.1 1 ak m.drives::af 88 y.2.2.2.2.2.2.2 4 bc (L.map qt)::aY ba a pw (aA x) offs da w ds::bh x m::As):=G;refine⟨y.1,(G.box 0 i4).cell0 i4,?_⟩
 try dsimp only
 rw[E.1,ai (m.seq+1)];refine G.jr aj 0 i4 i4 [xF xL (m.seq+1)] i4 i4 i4 kt λZ r=>?_;have r:aa B h0 Z (ac a3 39 (xF xL (m.seq+1)::(aA y).drop 1)::cw 1 ak pool::af 3 y.2.2.2.2.2.2.1 1 ak m.drives::af 88 y.2.2.2.2.2.2.2 4 bc (L.map qt)::aY ba a pw (aA x) offs da w ds::bh x m::As):=r;refine⟨_,(r.box 0 i4).cell i4,?_⟩;have ab:i0 L=i0 m.objs:=by rw[<-A,qq]
 have r:=r.aO 6 [3,0,1,2,4,5];rw[ai ((n:Int)+1)];refine(Rs (L.map qt) n m9 m9 r).mono ?_;rintro _ h7 ⟨o,rfl,J⟩;have J:aa B h0 h7 (ac a3 39 (xF xL (m.seq+1)::(aA y).drop 1)::cw 1 ak pool::af 3 y.2.2.2.2.2.2.1 1 ak m.drives::af 88 o 4 bc ((L.map qt).take n++(L.map qt).drop (n+1))::aY ba a pw (aA x) offs da w ds::bh x m::As):=J.aO 6 [1,2,3,0,4,5];refine⟨o,i4,J.store aj 0 i4 i4 7 [o] i4 i4 i4 kt λh8 F=>?_⟩;obtain⟨b,c⟩:∃b:bm,b=(m.seq+1,y.2.1,y.2.2.1,y.2.2.2.1,y.2.2.2.2.1,y.2.2.2.2.2.1,y.2.2.2.2.2.2.1,o):=⟨_,rfl⟩
 have ed:b.2.2.2.2.2.2.1=y.2.2.2.2.2.2.1:=by rw[c]
 have eo:b.2.2.2.2.2.2.2=o:=by rw[c]
 obtain⟨L2,l⟩:∃L2,L2=L.take n++L.drop (n+1):=⟨_,rfl⟩
 have K:L2.map qt=(L.map qt).take n++(L.map qt).drop (n+1):=by rw[l,qL,List.map_take,List.map_drop]
 have F:aa B h0 h8 (ac a3 39 (aA b)::cw 1 ak pool::af 3 b.2.2.2.2.2.2.1 1 ak m.drives::af 88 b.2.2.2.2.2.2.2 4 bc (L2.map qt)::aY ba a pw (aA x) offs da w ds::bh x m::As):=by rw[ed,eo,K,c];exact F
 refine⟨b,(F.box 0 i4).aF _ i4,?_⟩;obtain⟨M,t⟩:∃M,M=Hr m n:=⟨_,rfl⟩
 have H9:aa B h0 h8 (bh b M::aY ba a pw (aA x) offs da w ds::bh x m::As):=aa.Ci (m:=M) (L:=L2) (pool:=pool) (by rw[t,c];exact⟨i4,E.2.1,E.2.2.1,E.2.2.2⟩)
  (by rw[t,l,qL,List.map_take,List.map_drop,A];rfl) (λp d=>X p (by
   rw[l]at d;rcases qz.1 d with d|d
   ·exact zr d
   ·exact List.mem_of_mem_drop d)) (by rw[t];exact F.aO 6 [1,2,3,4,5])
 have N:cF M:=by
  rw[t];have sub:∀e,e∈m.objs.take n++m.objs.drop (n+1)->e∈m.objs:=λe k=>by
   rcases qz.1 k with k|k
   ·exact zr k
   ·exact List.mem_of_mem_drop k
  refine⟨q.dr,?_,?_⟩
  ·have:=q.ob;show(m.objs.take n++m.objs.drop (n+1)).length<=_;simp;omega
  ·exactλe k=>q.nm e (sub e k)
 refine(Gj x m b M (As:=bh b M::As) (St.eG 0 i4 λ_ hq=>hq) q N i5 (H9.aO 3 [1,2,0])).mono ?_;rintro _ Y ⟨rfl,y3,R⟩;have g:gh m offs w ds name=cB m offs w ds M:=by unfold gh;rw[hU (by rw[O];decide),hU (by rw[f];decide),hU P,z,t]
 rw[g];exact⟨_,i4,i4,y3,R.aO 3 [0,1]⟩
theorem Vr(name:ByteArray)(b:bf m=eX)(H:aa B h0 h (bD a pw da offs w ds m::As)):
  an xP 26 #[xH (dB a),xI name] h λv h'=>v=xF xL (gh m offs w ds name).1/\
   aa B h0 h' (bD a pw da offs (gh m offs w ds name).2.2.1 (gh m offs w ds name).2.2.2 (gh m offs w ds name).2.1::As):=by
 obtain⟨x,H⟩:=fO H;refine(PC name x m b H).mono ?_;rintro _ h' ⟨rfl,y,c⟩;exact⟨i4,lZ c⟩
end
theorem Df{p q:aw}(a b:Sl)(c j:aB)(h:g0)(r:Seq h p a 1 ak c)(s:Seq h q b 1 ak j)(x:i0 c<=2^40:=by omega):
  an xP 18 #[a,b] h λv h'=>v=xJ (decide (c=j))/\h'=h:=by
 refine ts Tryz.func18 ?_ (.two .n (.two .n (.two (.two .n (.inn (.loop [(13,aQ)] [(4,6),(13,26)] .n))) .n)));have m:=r.len;have o:=s.len;refine bx (λd=>⟨?_,i4⟩) (λg=>?_)
 ·rw[hZ λe=>d (by rw[m,o,e])]
 ·refine aq (λk:Nat=>(k:Int)) (λk h'=>h'=h/\k<=i0 c/\c.take k=j.take k) (λk=>i0 c-k) 0 i4 ⟨i4,i5,jj⟩ ?_;rintro k h' ⟨rfl,w,l⟩;refine ag (λu=>?_) (λt=>?_)
  ·have i:k<i0 c:=i5
   have f:k<i0 j:=i5
   refine r.bt k i4 i _ i4 ?_;refine s.bt k i4 f _ i4 ?_;refine bx (λd=>⟨?_,i4⟩) (λg=>?_)
   ·rw[hZ];intro e;subst e;exact d i4
   ·rw[ai _];exact⟨k+1,jj,⟨i4,i5,by rw[aD _ _ i,aD _ _ f,l,g]⟩,i5⟩
  ·have:k=i0 c:=i5
   subst this;rw[qg i5,qg i5]at l;exact⟨by rw[hY l],i4⟩
theorem Kx(x y:bm)(m:av)(h:g0)(o:dh h x m)(k:dh h y m)(Q:cF m):an xP 17 #[dz x,dz y] h λv h'=>v=xJ eX/\Sp h h' []:=by
 refine ts Tryz.func17 ?_ (.two .n (.two (.join [] [(4,5),(8,51)] .n) (.two (.two .n (.inn (.loop [(54,aQ)] [(4,8),(54,95)] (.two .n (.two .n (.two (.inn (.two .n (.two (.join [(6,(.sc .adr)),(7,(.sc .adr))] [(6,8),(57,67)] .n) .n))) .n)))))) .n))) [(6,(.y [0,1,2,3,4,5,6,7,8,9] (.l [10,11,12,13]) (.l [11,10,12,13])))] (args:=[x,y]);refine(Sp.refl h).boxed λB h1 H1=>?_;refine H1.boxed λa2 h2 q=>?_;have q:Sp h h2 [ac B 39 (aA x),ac a2 39 (aA y)]:=q;have s:=q.box 0 i4;have z:=q.box 1 i4;have Z:x.2.2.1=m.p.1:=congrArg (·.1) o.p;have S:x.2.2.2.1=m.p.2.1:=congrArg (·.2.1) o.p;have P:x.2.2.2.2.1=m.p.2.2:=congrArg (·.2.2) o.p;have O:y.2.2.1=m.p.1:=congrArg (·.1) k.p;have X:y.2.2.2.1=m.p.2.1:=congrArg (·.2.1) k.p;have V:y.2.2.2.2.1=m.p.2.2:=congrArg (·.2.2) k.p;have ap:=Q.dr;have ax:=Q.ob;have ad:=bC.len o.objs;have am:=bC.len k.objs;refine aW ⟨m.seq,by rw[<-o.seq];exact s.cell0 i4,m.seq,by rw[<-k.seq];exact z.cell0 i4,bx (λe=>absurd i4 e) λ_=>?_⟩;refine⟨m.next,by rw[<-o.next];exact s.cell i4,m.next,by rw[<-k.next];exact z.cell i4,bx (λe=>absurd i4 e) λ_=>?_⟩;refine⟨m.p,by rw[<-Z,<-S,<-P];exact s.Aa 2 i4 i4 i4,m.p,by rw[<-O,<-X,<-V];exact z.Aa 2 i4 i4 i4,_,Xq _ _ m.p m.p,aR (λe=>absurd e jj) λ_=>?_⟩;refine⟨m.extra,by rw[<-o.extra];exact s.cell i4,m.extra,by rw[<-k.extra];exact z.cell i4,bx (λe=>absurd i4 e) λ_=>?_⟩;refine⟨x.2.2.2.2.2.2.1,s.cell i4,y.2.2.2.2.2.2.1,z.cell i4,(Df _ _ m.drives m.drives h2 (o.up q.ae).drives (k.up q.ae).drives).mono ?_⟩;rintro _ h3 ⟨rfl,rfl⟩;refine⟨_,i4,aR (λe=>absurd e jj) λ_=>⟨x.2.2.2.2.2.2.2,s.cell i4,y.2.2.2.2.2.2.2,z.cell i4,bx (λe=>absurd i5 e) λ_=>?_⟩⟩;refine⟨x.2.2.2.2.2.2.2,s.cell i4,?_⟩;obtain⟨us,F⟩:=bC.fix o.objs;obtain⟨vs,G⟩:=bC.fix k.objs;have ab:=F.2.1;have ah:=G.2.1;refine aq (λi:Nat=>(i:Int)) (λi h'=>i<=m.objs.length/\Sp h h' [ac B 39 (aA x),ac a2 39 (aA y)]) (λi=>m.objs.length-i) 0 i4 ⟨i5,q⟩ ?_;rintro i h5 ⟨hi,w⟩;refine ag (λe=>?_) (λe=>?_)
 ·have r:i<m.objs.length:=by have e':(i:Int)<(x.2.2.2.2.2.2.2.len:Int):=e;omega
  obtain⟨E,hE⟩:∃E,E=m.objs[i]:=⟨_,rfl⟩
  have A:=Q.nm _ (qf r);rw[<-hE]at A;obtain⟨u,hu⟩:∃u,u=us[i]'(by omega):=⟨_,rfl⟩
  obtain⟨v,hv⟩:∃v,v=vs[i]'(by omega):=⟨_,rfl⟩
  obtain⟨d,ha,zz,a,T⟩:=F.1.cU (g:=bc) (i:=(i:Int)) i rfl i5 u (by rw[hu]) (K:=λt=>t=u) rfl;obtain⟨f,hb,ao,b,I⟩:=G.1.cU (g:=bc) (i:=(i:Int)) i rfl i5 v (by rw[hv]) (K:=λt=>t=v) rfl;rw[T]at a;rw[I]at b;obtain⟨⟨u1,u2,u3⟩,u4⟩:=Fix.row F r;obtain⟨⟨v1,v2,v3⟩,v4⟩:=Fix.row G r;rw[<-hE,<-hu]at u1 u2 u3 u4;rw[<-hE,<-hv]at v1 v2 v3 v4;refine bL (λst h'=>∃Bs,Sp h h' (ac B 39 (aA x)::ac a2 39 (aA y)::ac st.1 88 (bc u)::ac st.2 88 (bc v)::Bs)) ?_ ?_
  ·have keep:∀{h':g0} {Bs:List HP},Sp h h' (ac B 39 (aA x)::ac a2 39 (aA y)::Bs)->
     bR.ok [(f.add ((i:Int).toNat*4),(xI v.1)),((f.add ((i:Int).toNat*4)).add 1,(xF xL v.2.1)),((f.add ((i:Int).toNat*4)).add 2,(xF xL v.2.2.1)),((f.add ((i:Int).toNat*4)).add 3,(xG v.2.2.2.ptr v.2.2.2.len v.2.2.2.cap)),(a2.add 7,(xG y.2.2.2.2.2.2.2.ptr y.2.2.2.2.2.2.2.len y.2.2.2.2.2.2.2.cap)),(d.add ((i:Int).toNat*4),(xI u.1)),((d.add ((i:Int).toNat*4)).add 1,(xF xL u.2.1)),((d.add ((i:Int).toNat*4)).add 2,(xF xL u.2.2.1)),((d.add ((i:Int).toNat*4)).add 3,(xG u.2.2.2.ptr u.2.2.2.len u.2.2.2.cap)),(B.add 7,(xG x.2.2.2.2.2.2.2.ptr x.2.2.2.2.2.2.2.len x.2.2.2.2.2.2.2.cap))] h':=λ{h' Bs} H'=>by
    have c:=H'.ae;exact⟨c.cell (dC b.1) b.1,c.cell (dC b.2.1) b.2.1,c.cell (dC b.2.2.1) b.2.2.1,c.cell (dC b.2.2.2.1) b.2.2.2.1,(H'.box 1 i4).cell i4,c.cell (dC a.1) a.1,c.cell (dC a.2.1) a.2.1,c.cell (dC a.2.2.1) a.2.2.1,c.cell (dC a.2.2.2.1) a.2.2.2.1,(H'.box 0 i4).cell i4,trivial⟩
   have L:=keep w;have c:=w.ae;refine⟨x.2.2.2.2.2.2.2,(w.box 0 i4).cell i4,d,ha,u,⟨c.cell (dC a.1) a.1,c.cell (dC a.2.1) a.2.1,c.cell (dC a.2.2.1) a.2.2.1,c.cell (dC a.2.2.2.1) a.2.2.2.1,trivial⟩,y.2.2.2.2.2.2.2,(w.box 1 i4).cell i4,f,hb,v,⟨c.cell (dC b.1) b.1,c.cell (dC b.2.1) b.2.1,c.cell (dC b.2.2.1) b.2.2.1,c.cell (dC b.2.2.2.1) b.2.2.2.1,trivial⟩,?_,?_⟩
   ·refine w.alloc aj i4 λY h6 J=>⟨keep J,J.alloc aj i4 λW h7 D=>⟨keep D,?_⟩⟩
    refine D.storeAll aj 2 i4 i4 (bc u) i4 i4 i4 i4 λh8 H=>?_;obtain⟨R,k2,U,k4,L,_⟩:=keep H;refine⟨⟨R,k2,U,k4,L,trivial⟩,H.storeAll aj 3 i4 i4 (bc v) i4 i4 i4 i4 λh9 j=>⟨trivial,[],j⟩⟩
   ·refine w.alloc aj i4 λY h6 J=>⟨keep J,J.alloc aj i4 λW h7 D=>⟨keep D,?_⟩⟩
    refine D.storeAll aj 3 i4 i4 (bc u) i4 i4 i4 i4 λh8 H=>?_;obtain⟨R,k2,U,k4,L,_⟩:=keep H;refine⟨⟨R,k2,U,k4,L,trivial⟩,H.storeAll aj 2 i4 i4 (bc v) i4 i4 i4 i4 λh9 j=>⟨trivial,[],j.aO 4 [0,1,3,2]⟩⟩
  ·rintro⟨s1,s2⟩ h9 ⟨Bs,j⟩;dsimp only at j⊢;have N:=j.box 2 i4;have M:=j.box 3 i4;have al:=A.2;refine⟨E.name,by rw[<-u1];exact N.cell0 i4,E.name,by rw[<-v1];exact M.cell0 i4,aR (λe=>absurd e jj) λ_=>?_⟩;refine⟨E.object,by rw[<-u2];exact N.cell i4,E.object,by rw[<-v2];exact M.cell i4,bx (λe=>absurd i4 e) λ_=>?_⟩;refine⟨E.length,by rw[<-u3];exact N.cell i4,E.length,by rw[<-v3];exact M.cell i4,bx (λe=>absurd i4 e) λ_=>?_⟩;refine⟨u.2.2.2,N.cell i4,v.2.2.2,M.cell i4,(Df _ _ E.tries E.tries h9 (Seq.up u4 j.ae) (Seq.up v4 j.ae)).mono ?_⟩;rintro _ ar ⟨rfl,rfl⟩;refine⟨_,i4,aR (λe=>absurd e jj) λ_=>⟨i+1,j1,⟨i5,j.aO 2 [0,1]|>.pQ (As:=[_,_])⟩,i5⟩⟩
 ·exact⟨i4,.zip w.ae⟩
variable {B':aw} {h0' h':g0} {As':List HP} {pw2:f8}
section
variable {pw:f8}
end
variable {a2:f8} {da2:List cj}
section
variable {pw:f8}
end
variable {x:bm}
section
variable {pw:f8}
end
def rp(l:aB)(k:Nat):Int:=l.getD k 0
def jq(l:aB):Pm:=Bj (rp l 0) (rp l 1) (rp l 2)
def uP(l:aB):Nat:=(2+rp l 4%4).toNat
def ET(l:aB):aB:=(qx (uP l)).map λi=>8+rp l (5+i)%50
def Vs(l:aB):Int:=rp l 3%7
theorem aeh(l:aB):2<=uP l/\uP l<=5:=by unfold uP;omega
theorem abs(l:aB):i0 (ET l)=uP l:=by simp[ET]
section
variable {pw:f8}
theorem rq(s:Sl)(l:aB)(k:Nat)(h:g0)(a:Rd h s 1 ak l):an xP 56 #[s,xF xL k] h λv h'=>v=xF xL (rp l k)/\h'=h:=by
 refine ts Tryz.func56 ?_;unfold rp;have c:=a.len;refine ag (λe=>?_) (λe=>⟨?_,i4⟩)
 ·have b:k<i0 l:=i5
  refine a.bt k i4 b (l.getD k 0) (by rw[getD_lt b];rfl) ⟨i4,i4⟩
 ·rw[qd,List.getElem?_eq_none i5];rfl
theorem Rv(s:Sl)(l:aB)(h:g0)(w:Rd h s 1 ak l):an xP 21 #[s] h λv h'=>∃r:Sl,v=.tuple #[jW (jq l),xF xL (Vs l),r]/\Sp h h' [af 3 r 1 ak (ET l)]:=by
 refine te s ?_;refine(Sp.refl h).alloc aj i4 λp B u=>?_;have b:=w.up u.ae;refine(rq s l 0 B b).mono ?_;rintro _ _ ⟨rfl,rfl⟩;refine⟨_,i4,(rq s l 1 _ b).mono ?_⟩;rintro _ _ ⟨rfl,rfl⟩;refine⟨_,i4,(rq s l 2 _ b).mono ?_⟩;rintro _ I ⟨rfl,rfl⟩;refine⟨_,i4,(US _ _ _ I).mono ?_⟩;rintro _ N ⟨rfl,F⟩;have H:=u.up F.ae;refine⟨jq l,i4,?_⟩;refine H.alloc aj i4 λf P M=>?_;refine M.storeAll aj 1 i4 i4 [xF xL (jq l).1,xF xL (jq l).2.1,xF xL (jq l).2.2] i4 i4 i4 i4 λG j=>?_;have j:Sp h G [af 3 ⟨eH,0,0⟩ 1 ak ((ET l).take 0),ac f 36 [xF xL (jq l).1,xF xL (jq l).2.1,xF xL (jq l).2.2],ac p 36 [xF xL 0,xF xL 0,xF xL 0]]:=(j.nil 3 1 ak).bA [2,1,0];have Q:=aeh l;have x:=abs l;refine aq (λt:Sl×Nat=>(t.1,(t.2:Int))) (λt h'=>t.2<=uP l/\Sp h h' [af 3 t.1 1 ak ((ET l).take t.2),ac f 36 [xF xL (jq l).1,xF xL (jq l).2.1,xF xL (jq l).2.2],ac p 36 [xF xL 0,xF xL 0,xF xL 0]]) (λt=>uP l-t.2) (⟨eH,0,0⟩,0) i4 ⟨jj,j⟩ ?_;rintro⟨o,i⟩ h8 ⟨O,c⟩;dsimp only at*;have a:=w.up c.ae;refine(rq s l 4 h8 a).mono ?_;rintro _ _ ⟨rfl,rfl⟩;refine⟨_,i4,(cO _ 4 _).mono ?_⟩;rintro _ h8 ⟨rfl,rfl⟩;refine⟨_,i4,?_⟩;have g:=c.box 1 i4
 try dsimp only
 rw[ai (2+rp l 4%4)];have m:2+rp l 4%4=(uP l:Int):=by unfold uP;omega
 rw[m];refine ag (λe=>?_) (λe=>?_)
 ·have y:i<uP l:=i5
  rw[ai ((5:Int)+i)];have L:(5:Int)+i=((5+i:Nat):Int):=i5
  rw[L];refine(rq s l (5+i) h8 a).mono ?_;rintro _ _ ⟨rfl,rfl⟩;refine⟨_,i4,(cO _ 50 _).mono ?_⟩;rintro _ K ⟨rfl,rfl⟩;refine⟨_,i4,?_⟩
  try dsimp only
  rw[ai (8+rp l (5+i)%50)];refine c.push aj 0 i4 fN i4 i6 (λ_=>rfl) eS (8+rp l (5+i)%50) i4 i6 i9 λz E k=>?_;refine⟨(z,i+1),j0,⟨i7,?_⟩,i7⟩
  try dsimp only
  rw[aD _ _ (show i<i0 (ET l) by omega)];have A:(ET l)[i]'(by omega)=8+rp l (5+i)%50:=by simp[ET]
  rw[A];exact k
 ·have n:i=uP l:=i5
  subst n;rw[qg i5]at c;have q:bR.ok [(f,(xF xL (jq l).1)),(f.add 1,(xF xL (jq l).2.1)),(f.add 2,(xF xL (jq l).2.2))] h8:=⟨g.cell0 i4,g.cell i4,g.cell i4,trivial⟩
  refine⟨jq l,g.aF _ i4,(rq s l 3 h8 a).mono ?_⟩;rintro _ _ ⟨rfl,rfl⟩;refine⟨_,i4,q,(cO _ 7 _).mono ?_⟩;rintro _ D ⟨rfl,rfl⟩;refine⟨_,i4,q,?_⟩;refine c.storeAll aj 2 i4 i4 [xF xL (jq l).1,xF xL (jq l).2.1,xF xL (jq l).2.2] i4 i4 i4 i4 λJ d=>⟨trivial,?_⟩
  exact⟨jq l,(d.box 2 i4).aF _ i4,o,i4,d.bA [0]⟩
end
structure Mv where
 kind:Int
 name:ByteArray
 data:aL
 slot:Int
 n:Int
 m:Int
 mask:Int
 keeps:aB
 torns:aB
def si:List ByteArray:=[⟨#[97]⟩,⟨#[98]⟩,⟨#[99,97,116,45,55]⟩,⟨#[100]⟩,⟨#[101,49,50,51,52,53,54,55,56,57,48,49]⟩]
def nk(p:Int×Int×Int)(b:Mv):Prop:=
 (b.kind=1/\b.name∈si/\(i0 b.data:Int)<=3*(p.1*p.2.2)+1)∨((b.kind=2∨b.kind=3∨b.kind=5)/\b.name∈si)∨b.kind=4∨
 (b.kind=6/\(0<=b.slot/\b.slot<9)/\6<=b.n/\b.n<66)∨(b.kind=7/\0<=b.slot/\b.slot<8)∨(b.kind=8/\(0<=b.slot/\b.slot<8)/\6<=b.n/\b.n<66)∨(b.kind=9/\0<=b.slot/\b.slot<8)∨
 (b.kind=10/\(-1<=b.n/\b.n<=7)/\-1<=b.m/\b.m<=68)∨(b.kind=11/\(0<=b.slot/\b.slot<7)/\(0<=b.n/\b.n<40)/\(0<=b.m/\b.m<61)/\0<=b.mask/\b.mask<4294967296)
def PD(b:Mv):Prop:=b=⟨b.kind,if b.kind=1∨b.kind=2∨b.kind=3∨b.kind=5 then b.name else⟨#[]⟩,if b.kind=1 then b.data else[],if b.kind=6∨b.kind=7∨b.kind=8∨b.kind=9∨b.kind=11 then b.slot else 0,
 if b.kind=6∨b.kind=8∨b.kind=10∨b.kind=11 then b.n else 0,if b.kind=10∨b.kind=11 then b.m else 0,if b.kind=11 then b.mask else 0,[],[]⟩
abbrev AL(s:ByteArray):aT:=[xI s]
abbrev PE:=Int×ByteArray×Sl×Int×Int×Int×Int×Sl×Sl
abbrev nW(x:PE):aT:=[xF xL x.1,xI x.2.1,x.2.2.1,xF xL x.2.2.2.1,xF xL x.2.2.2.2.1,xF xL x.2.2.2.2.2.1,xF xN x.2.2.2.2.2.2.1,x.2.2.2.2.2.2.2.1,x.2.2.2.2.2.2.2.2]
abbrev mvV(x:PE):Value:=xK #[xF xL x.1,xI x.2.1,x.2.2.1,xF xL x.2.2.2.1,xF xL x.2.2.2.2.1,xF xL x.2.2.2.2.2.1,xF xN x.2.2.2.2.2.2.1,x.2.2.2.2.2.2.2.1,x.2.2.2.2.2.2.2.2]
def ma:iK PE Mv:=⟨λh q a b=>(a.1=b.kind/\a.2.1=b.name/\a.2.2.2.1=b.slot/\a.2.2.2.2.1=b.n/\a.2.2.2.2.2.1=b.m/\a.2.2.2.2.2.2.1=b.mask/\a.2.2.1.len<=a.2.2.1.cap)/\Seq h q a.2.2.1 1 az b.data/\Seq h q a.2.2.2.2.2.2.2.1 1 ak b.keeps/\Seq h q a.2.2.2.2.2.2.2.2 1 ak b.torns,
 λa d=>⟨a.1,a.2.1.ae d,a.2.2.1.ae d,a.2.2.2.ae d⟩,λa c=>⟨a.1,a.2.1.mono c,a.2.2.1.mono c,a.2.2.2.mono c⟩⟩
theorem aei:∀x,∀c∈AL x,c.oneCell'=eX:=by intro x c a;simp[AL]at a;subst a;rfl
theorem agk:∀x,∀c∈nW x,c.oneCell'=eX:=by intro x c a;simp[nW]at a;rcases a with rfl|rfl|rfl|rfl|rfl|rfl|rfl|rfl|rfl<;>rfl
abbrev agl:bG C.toAQ 65 9 1 [xI ⟨#[]⟩] 16:=⟨_,_,i4,i4,i4,i4,i4,i4⟩
abbrev zMv:aT:=[xF xL 0,xI ⟨#[]⟩,xG eH 0 0,xF xL 0,xF xL 0,xF xL 0,xF xN 0,xG eH 0 0,xG eH 0 0]
abbrev eMv:bG C.toAQ 56 61 9 zMv 128:=⟨_,_,i4,i4,i4,i4,i4,i4⟩
theorem tm(n:Int)(h:g0):an xP 108 #[xF xL n] h λv h'=>∃s∈si,v=xI s/\Sp h h' []:=by refine ts Tryz.func108 ?_;refine(Sp.refl h).lit aj AL agl i4 si i4 i6 j4 λd b a=>?_;refine(cO n 5 b).mono ?_;rintro _ e ⟨rfl,rfl⟩;have c:=ym n (show(5:Int)≠0 by decide);have g:=wD n (show(0:Int)<5 by decide);have f:i0 si=5:=rfl;refine⟨_,i4,(a.seq 0 i4 λ_=>rfl).bt (n%5).toNat i5 i5 (si[(n%5).toNat]'(by omega)) i4 ⟨_,qf _,i4,.zip a.ae⟩⟩
theorem Vt(p:Pm)(k a b:Int)(h:g0)(U:bJ p=eX):an xP 64 #[jW p,xF xL k,xF xL a,xF xL b] h λv h'=>∃(x:PE) (m:Mv),v=mvV x/\nk p m/\PD m/\Sp h h' [EA ma x m]:=by
 refine uU p k a b ?_;obtain⟨⟨S,Y⟩,_,K,P⟩:=(bT p).1 U;have Z:1<=p.1*p.2.2/\p.1*p.2.2<=16*24:=⟨w7 S K i5 i5,w7 Y P i5 i5⟩
 refine(Sp.refl h).boxed λG h1 H1=>H1.alloc aj i4 λa2 J e=>?_;have e:Sp h J [ac G 36 [xF xL p.1,xF xL p.2.1,xF xL p.2.2],ac a2 61 zMv]:=e;have fin:∀(d slot n m c:Int) (name:ByteArray) {h':g0},Sp h h' [ac G 36 [xF xL p.1,xF xL p.2.1,xF xL p.2.2],ac a2 61 zMv]->nk p ⟨d,name,[],slot,n,m,c,[],[]⟩->PD ⟨d,name,[],slot,n,m,c,[],[]⟩->
   au xP (qG 61 (xH (dB a2)) (xK #[xF xL d,xI name,xG eH 0 0,xF xL slot,xF xL n,xF xL m,xF xN c,xG eH 0 0,xG eH 0 0])) h' λ_ g=>
    ∃r:PE,bn g a2 0 (nW r)/\∃(x:PE) (m:Mv),mvV r=mvV x/\nk p m/\PD m/\Sp h g [EA ma x m]:=by
  intro d slot n m c name h' X E V;refine X.storeAll aj 1 i4 i4 (nW (d,name,⟨eH,0,0⟩,slot,n,m,c,⟨eH,0,0⟩,⟨eH,0,0⟩)) i4 i4 i4 i4 λg t=>?_;refine⟨(d,name,⟨eH,0,0⟩,slot,n,m,c,⟨eH,0,0⟩,⟨eH,0,0⟩),(t.box 1 i4).aF _ i4,_,_,i4,E,V,?_⟩;have L:Sp h g []:=.zip t.ae;exact L.comp (.one (aP.refl _ _) ⟨⟨i4,i4,i4,i4,i4,i4,ql _⟩,Seq.nil _ _ _ _ _ _,Seq.nil _ _ _ _ _ _,Seq.nil _ _ _ _ _ _⟩)
 refine(cO k 26 J).mono ?_;rintro _ h3 ⟨rfl,rfl⟩;have k0:=ym k (show(26:Int)≠0 by decide);have k1:=wD k (show(0:Int)<26 by decide);have W:∀(x n:Int),0<n->0<=x%n/\x%n<n:=λx n hn=>⟨ym x i5,wD x hn⟩
 refine⟨_,i4,ag (λ_=>?_) λ_=>?_⟩
 ·refine⟨i6,p.1,(e.box 0 i4).cell0 i4,p.2.2,(e.box 0 i4).cell i4,(tm a h3).mono ?_⟩;rintro _ f ⟨s,o,rfl,j⟩;have w:=e.up j.ae;have R:qe xL ((qe xL ((qe xL ((3:Int)*p.1))*p.2.2))+(2:Int))=3*(p.1*p.2.2)+2:=by rw[ai (3*p.1),Int.mul_assoc,ai (3*(p.1*p.2.2)),ai _]
  refine⟨s,i4,⟨(w.box 0 i4).cell i4,(w.box 0 i4).cell0 i4,trivial⟩,?_⟩;rw[R];refine(cO _ (3*(p.1*p.2.2)+2) f i5 i5).mono ?_;rintro _ i ⟨rfl,rfl⟩;obtain⟨q,A⟩:∃q,q=qe xL (vm a 5)%(3*(p.1*p.2.2)+2):=⟨_,rfl⟩
  have B:=W (qe xL (vm a 5)) (3*(p.1*p.2.2)+2) i5;rw[<-A]at B⊢;obtain⟨N,T⟩:∃N:Nat,q=N:=⟨q.toNat,i5⟩
  subst T;refine⟨_,i4,⟨(w.box 0 i4).cell i4,(w.box 0 i4).cell0 i4,trivial⟩,(UJ N b i i5).mono ?_⟩;rintro _ Q ⟨r,l,rfl,hl,I⟩;have F:=w.comp I;have u:=(I.own 0 i4).cap;refine⟨r,i4,⟨(F.box 0 i4).cell i4,(F.box 0 i4).cell0 i4,trivial⟩,?_⟩;refine F.storeAll aj 1 i4 i4 (nW (1,s,r,0,0,0,0,⟨eH,0,0⟩,⟨eH,0,0⟩)) i4 i4 i4 i4 λh7 H=>?_;refine⟨trivial,(1,s,r,0,0,0,0,⟨eH,0,0⟩,⟨eH,0,0⟩),(H.box 1 i4).aF _ i4,_,(⟨1,s,l,0,0,0,0,[],[]⟩:Mv),i4,.inl ⟨i4,o,i7⟩,i4,?_⟩;have O:=H.bA [2];exact O.eJ 0 i4 λq A=>⟨⟨i4,i4,i4,i4,i4,i4,u⟩,A.1.seq (λ_=>rfl) A.2,Seq.nil _ _ _ _ _ _,Seq.nil _ _ _ _ _ _⟩
 refine ag (λ_=>(tm a h3).mono ?_) λ_=>ag (λ_=>(tm a h3).mono ?_) λ_=>cH (λ_=>?_) λ_=>cH (λ_=>(tm a h3).mono ?_) λ_=>cH (λ_=>?_) λ_=>cH (λ_=>?_) λ_=>cH (λ_=>?_) λ_=>cH (λ_=>?_) λ_=>ag (λ_=>?_) λ_=>cH (λ_=>?_) λ_=>?_
 ·rintro _ f ⟨s,o,rfl,j⟩;exact⟨s,i4,fin 2 0 0 0 0 s (e.up j.ae) (.inr (.inl ⟨.inl i4,o⟩)) i4⟩
 ·rintro _ f ⟨s,o,rfl,j⟩;exact⟨s,i4,fin 3 0 0 0 0 s (e.up j.ae) (.inr (.inl ⟨.inr (.inl i4),o⟩)) i4⟩
 ·exact fin 4 0 0 0 0 _ e (.inr (.inr (.inl i4))) i4
 ·rintro _ f ⟨s,o,rfl,j⟩;exact⟨s,i4,fin 5 0 0 0 0 s (e.up j.ae) (.inr (.inl ⟨.inr (.inr i4),o⟩)) i4⟩
 ·refine(cO a 9 h3).mono ?_;rintro _ f ⟨rfl,rfl⟩;refine⟨_,i4,(cO b 60 f).mono ?_⟩;rintro _ i ⟨rfl,rfl⟩;have y:=W a 9 i6;have D:=W b 60 i6;refine⟨_,i4,?_⟩
  try dsimp only
  rw[ai (6+b%60)];exact fin 6 _ _ 0 0 _ e (.inr (.inr (.inr (.inl ⟨i4,y,i7,i7⟩)))) i4
 ·refine(cO a 8 h3).mono ?_;rintro _ _ ⟨rfl,rfl⟩;exact⟨_,i4,fin 7 _ 0 0 0 _ e (.inr (.inr (.inr (.inr (.inl ⟨i4,W a 8 i6⟩))))) i4⟩
 ·refine(cO a 8 h3).mono ?_;rintro _ f ⟨rfl,rfl⟩;refine⟨_,i4,(cO b 60 f).mono ?_⟩;rintro _ i ⟨rfl,rfl⟩;have y:=W a 8 i6;have D:=W b 60 i6;refine⟨_,i4,?_⟩
  try dsimp only
  rw[ai (6+b%60)];exact fin 8 _ _ 0 0 _ e (.inr (.inr (.inr (.inr (.inr (.inl ⟨i4,y,i7,i7⟩)))))) i4
 ·refine(cO a 8 h3).mono ?_;rintro _ _ ⟨rfl,rfl⟩;exact⟨_,i4,fin 9 _ 0 0 0 _ e (.inr (.inr (.inr (.inr (.inr (.inr (.inl ⟨i4,W a 8 i6⟩))))))) i4⟩
 ·refine(cO a 3 h3).mono ?_;rintro _ f ⟨rfl,rfl⟩;refine⟨_,i4,(cO b 20 f).mono ?_⟩;rintro _ i ⟨rfl,rfl⟩;have y:=W a 3 i6;have D:=W b 20 i6;exact⟨_,i4,fin 10 0 _ _ 0 _ e (.inr (.inr (.inr (.inr (.inr (.inr (.inr (.inl ⟨i4,i7,i7,i7⟩)))))))) i4⟩
 ·refine(cO a 9 h3).mono ?_;rintro _ f ⟨rfl,rfl⟩;refine⟨_,i4,(cO b 70 f).mono ?_⟩;rintro _ i ⟨rfl,rfl⟩;have y:=W a 9 i6;have D:=W b 70 i6;refine⟨_,i4,?_⟩
  try dsimp only
  rw[ai (a%9-1),ai (b%70-1)];exact fin 10 0 _ _ 0 _ e (.inr (.inr (.inr (.inr (.inr (.inr (.inr (.inl ⟨i4,i7,i7,i7⟩)))))))) i4
 ·refine(cO a 7 h3).mono ?_;rintro _ f ⟨rfl,rfl⟩;refine⟨_,i4,i6,(cO _ 40 f).mono ?_⟩;rintro _ i ⟨rfl,rfl⟩;refine⟨_,i4,(cO b 61 i).mono ?_⟩;rintro _ Q ⟨rfl,rfl⟩;have M:∀z:Int,0<=qe xN z/\qe xN z<4294967296:=λz=>by rw[KQ];have:=(qO 32 z).isLt;omega
  exact⟨_,i4,fin 11 _ _ _ _ _ e (.inr (.inr (.inr (.inr (.inr (.inr (.inr (.inr ⟨i4,W a 7 i6,W _ 40 i6,W b 61 i6,M _⟩)))))))) i4⟩
theorem Yy(p:Pm)(k a b:Int)(h:g0)(c:bJ p=eX):an xP 64 #[jW p,xF xL k,xF xL a,xF xL b] h λv h'=>∃(x:PE) (m:Mv),v=mvV x/\nk p m/\Sp h h' [EA ma x m]:=
 (Vt p k a b h c).mono λ_ _ ⟨x,m,e,o,_,H⟩=>⟨x,m,e,o,H⟩
theorem Vu(p:Pm)(s:Sl)(l:aB)(most:Nat)(h:g0)(N:bJ p=eX)(g:Rd h s 1 ak l)(X:most<=100):
  an xP 24 #[jW p,s,xF xL most,xJ fz] h λv h'=>∃(r:Sl) (L:List Mv),v=r/\(∀m∈L,nk p m)/\L.length<=most/\Sp h h' [bp 61 r 9 nW ma L]:=by
 refine ur p s most fz ?_;have R:=g.len;refine(Sp.refl h).boxed λq J u=>?_;have u:Sp h J [ac q 36 [xF xL p.1,xF xL p.2.1,xF xL p.2.2]]:=u;have fin:∀{h':g0} (r:Sl) (L:List Mv),(∀m∈L,nk p m)->i0 L<=most->Sp h h' [ac q 36 [xF xL p.1,xF xL p.2.1,xF xL p.2.2],bp 61 r 9 nW ma L]->∃(j:Sl) (L:List Mv),(Value.slice r.ptr r.len r.cap)=xG j.ptr j.len j.cap/\(∀m∈L,nk p m)/\L.length<=most/\Sp h h' [bp 61 j 9 nW ma L]:=λr L n H P=>⟨r,L,i4,n,H,P.bA [1]⟩
 refine aW ?_;refine aq (λt:Sl×List Mv=>(t.1,((3*i0 t.2:Nat):Int))) (λt h'=>(∀m∈t.2,nk p m)/\t.2.length<=most/\Sp h h' [ac q 36 [xF xL p.1,xF xL p.2.1,xF xL p.2.2],bp 61 t.1 9 nW ma t.2]) (λt=>most-i0 t.2) (⟨eH,0,0⟩,[]) i4 ⟨jj,jj,u.ua 61 9 nW ma⟩ ?_;rintro⟨o,L⟩ K ⟨b,z,c⟩;dsimp only at b z c⊢;obtain⟨k,G⟩:∃k,k=i0 L:=⟨_,rfl⟩
 rw[<-G]at z⊢;obtain⟨T,U⟩:=c.Nn 1 rfl;refine aW ?_;rw[ai (((3*k:Nat):Int)+2)];refine ag (λV=>?_) λ_=>fin o L b i5 c;refine ag (λW=>?_) λ_=>fin o L b i5 c;have Q:3*k+2<i0 l:=i5
 have M:k<most:=i5
 refine aW (aW (bo (λe=>j3) λ_=>bo (λe=>j3) λ_=>?_));have d:=g.up c.ae;obtain⟨B,F,n,_,_⟩:=g.elem (3*k) l[3*k] (qc i5);have a:∀{h':g0},Rd h' s 1 ak l->cellOf h' ((⟨B,F,eH⟩:f8).add (((3*k:Nat):Int).toNat*1))=dB (xF xL l[3*k]):=λ{h'} hr=>by
  obtain⟨Y,A,f,_,u3⟩:=hr.elem (3*k) l[3*k] (qc i5);rw[n]at f;injection f with f
  injection f with f u2
  subst f;subst u2;rw[qj,add_eq];have E:=u3.1;rw[add_eq,Nat.add_zero]at E;exact E
 refine⟨p,(c.box 0 i4).aF _ i4,⟨B,F,eH⟩,⟨n,i5,i5⟩,l[3*k],a d,i6,?_⟩;rw[ai (((3*k:Nat):Int)+1)];refine d.bt (3*k+1) i5 i5 l[3*k+1] i4 ?_;refine d.bt (3*k+2) i5 i5 l[3*k+2] i4 ?_;refine(Yy p _ _ _ K N).mono ?_;rintro _ h3 ⟨x,m,rfl,w,I⟩;have i:=c.comp I;refine⟨x,i4,⟨a (g.up i.ae),trivial⟩,?_⟩;refine i.nt aj nW eMv i4 [x] i4 (show 1*9<=2^20 by decide) j4 ⟨a (g.up i.ae),trivial⟩ ?_;refine i.nX aj 1 2 i6 i4 i4 eMv i4 i6 (λ_=>rfl) agk j4 i6 i5 λA S D=>?_;refine⟨⟨a (g.up D.ae),trivial⟩,(A,L++[m]),?_,⟨λO y=>?_,l5,D.bA [0,1]⟩,l5⟩
 ·try dsimp only
  rw[ai (((3*k:Nat):Int)+3),qw,<-G];rfl
 ·rcases qz.1 y with h|h
  ·exact b O h
  ·rw[qu.1 h];exact w
theorem nk.put{p:Pm}{b:Mv}(h:nk p b)(a:b.kind=1):b.name∈si/\(i0 b.data:Int)<=3*(p.1*p.2.2)+1:=by
 unfold nk at h;rw[a]at h;rcases h with h|h|h|h|h|h|h|h|h
 ·exact h.2
 ·exact absurd h.1 i6
 ·exact absurd h i6
 all_goals exact absurd h.1 i6
theorem abt:∀s∈si,s.size<=12:=j5
theorem aej{p:Pm}{extra:Int}{l:aB}(j:bJ p=eX)(k:0<=extra/\extra<=16)(e:1<=i0 l/\l.length<=24)(h:∀x∈l,1<=x/\x<=512):
  sF p extra l=0/\bj l l.length=(qx l.length).map λi:Nat=>(i:Int):=by
 have d:∀i (a:i<i0 l),1<=l.getD i 0/\l.getD i 0<=512:=λi a=>by rw[gF 0 a];exact h _ (qf a)
 have h0:bj l l.length=(qx l.length).map λi:Nat=>(i:Int):=by unfold bj;refine List.filter_eq_self.2 λy b=>?_;obtain⟨i,a,rfl⟩:=qo.1 b;have a:=qA.1 a;have:=d i a;rw[qj];exact hY i5
 refine⟨?_,h0⟩;have f:(fx l).2=eX:=by have c:l.all (fy · 0 512)=eX:=qJ.2 λy b=>(mw _ _ _).2 ⟨by have:=h y b;omega,(h y b).2⟩;unfold fx;rw[g9 c,h0];simp;omega
 have g:fy extra 0 16=eX:=(mw _ _ _).2 k;have h3:((bj l l.length).any λi=>decide (l.getD i.toNat 0<(i0 (aM (cx p extra l)):Int)))=fz:=by refine wo.2 λy b=>?_;rw[h0]at b;obtain⟨i,a,rfl⟩:=qo.1 b;have a:=qA.1 a;have m:=Db p extra l e.2;have:=d i a;rw[qj,decide_eq_true_eq];omega
 unfold sF;rw[f,j,g,h3];rfl
theorem Yz{p:Pm}{extra:Int}{l:aB}{D:aE}{m:av}(j:m=cx p extra l)(w:sF p extra l=0)(v:i0 l<=64)(n:i0 D=64)
  (o:∀s,aV D s=if s∈bj l l.length then dB ⟨(l.getD s.toNat 0).toNat,aM m,0,[],fz,fz⟩else eH) (C:Int->aL):gB m C D/\Full m C D/\Low m D:=by
 have b:bf m=eX:=by rw[j];exact Hg v w
 have i:m.drives=bj l l.length:=by rw[j];rfl
 have q:m.objs=[]:=by rw[j];rfl
 have f:∀k d,aV D k=dB d->∀c∈d.l,c∈aM m:=λk d a c f=>by
  rw[o]at a;split at a
  ·injection a with a;subst a;exact f
  ·cases a
 refine⟨⟨b,n,λk d a c h=>FJ C b (f k d a c h),λe g=>by rw[q]at g;cases g⟩,⟨λk u=>?_,λe g=>by rw[q]at g;cases g⟩,λk d a c h r t=>?_⟩
 ·rw[i]at u;refine⟨_,by rw[o,g9 u],i4,?_⟩;unfold gI;rw[b,Bool.true_and];exact qJ.2 λc f=>hY f
 ·rw[nS (f k d a c h)]at t;cases t
theorem Tb{m:av}{i:Nat}{e:Qw.cu}(h:e∈(Hr m i).objs):e∈m.objs:=by
 have h:e∈m.objs.take i++m.objs.drop (i+1):=h;rcases qz.1 h with h|h
 ·exact zr h
 ·exact List.mem_of_mem_drop h
theorem agn(m:av)(i:Nat):(Hr m i).objs=m.objs.eraseIdx i:=by show m.objs.take i++m.objs.drop (i+1)=_;rw[List.eraseIdx_eq_take_drop_succ]
theorem abu{m:av}(j:bf m=eX)(n:m.seq<=2147483646)(i:Nat):bf (Hr m i)=eX:=by
 obtain⟨h,k,h3,d,g,c,b⟩:=(bM m).1 j;obtain⟨l,a2,a3,a4⟩:=(dn m).1 h;have a:(Hr m i).objs.Sublist m.objs:=by rw[agn];exact List.eraseIdx_sublist ..
 refine(bM _).2 ⟨(dn _).2 ⟨⟨?_,?_⟩,a2,a3,a4⟩,k,h3,qT a.length_le d,λe f=>?_,c.sublist a,b.sublist a⟩
 ·show 1<=m.seq+1;omega
 ·show m.seq+1<=_;omega
 ·exact(fB _ _).2 ((fB _ _).1 (g e (Tb f)))
structure Inv (m:av) (C:Int->aL) (ds:aE) (N:Nat):Prop where
 sto:gB m C ds
 full:Full m C ds
 low:Low m ds
 nm:∀e∈m.objs,e.name∈si
 dr:m.drives≠[]
 seq:m.seq<=1+N
 nx:m.next<=N
structure ahI (p:Pm) (extra:Int) (c:Nat) (x:Int) (m:av) (D:aE):Prop where
 m_eq:m=cx p extra (qi c x)
 len:i0 D=64
 may:bf m=eX
 dr:m.drives=(qx c).map λi:Nat=>(i:Int)
 at_:∀s,aV D s=if s∈m.drives then dB ⟨x.toNat,aM m,0,[],fz,fz⟩else eH
variable {v:f8}
section
variable {pw:f8}
end
section
variable {pw:f8}
end
section
variable {pw:f8}
end
def ints(l:List Nat):aB:=l.map λx:Nat=>(x:Int)
theorem kU(l:List Nat):i0 (ints l)=i0 l:=by simp[ints]
theorem Hs{l:List Nat}{k:Nat}(h:k<i0 l):(ints l)[k]'(by rw[kU];exact h)=(l[k]:Int):=by simp[ints]
theorem Tc{n:Nat}:∀{j i:Nat},i<=j->2*j<=n->ch n i<=ch n j
 |0,i,h,_=>by
   have:i=0:=i5
   subst this;exact ql _
 |j+1,i,h,hj=>by
  by_cases a:i=j+1
  ·subst a;exact ql _
  ·exact qT (Tc i5 i5) (agK i5)
theorem Bo(n t:Int)(h:g0):an xP 92 #[xF xL n,xF xL t] h λv h'=>v=xJ (decide (0<=n/\n<=64/\0<=t/\t<=n))/\h'=h:=by
 refine ts Tryz.func92 ?_;refine ag (λa=>ag (λb=>ag (λh3=>⟨?_,i4⟩) λh3=>⟨?_,i4⟩) λb=>⟨?_,i4⟩) (λa=>⟨?_,i4⟩)
 ·congr 1;exact decide_eq_decide.2 i5
 ·rw[hZ i5]
 ·rw[hZ i5]
 ·rw[hZ i5]
theorem Bp(n t:Int)(h:g0)(E:-(2^62)<=n/\n<=2^62)(B:-(2^62)<=t/\t<=2^62):an xP 39 #[xF xL n,xF xL t] h λv h'=>v=xF xL (lA n t)/\h'=h:=by
 refine ts Tryz.func39 ?_ (.two .n (.two .n (.two .n (.two (.two .n (.inn (.loop [(5,aQ),(16,aQ)] [(4,7),(16,30)] .n))) .n))));refine(Bo n t h).mono ?_;rintro v s ⟨rfl,rfl⟩;refine⟨_,i4,aR (λe=>?_) λe=>?_⟩
 ·have e:=of_decide_eq_false e;unfold lA;rw[hU e];exact⟨i4,i4⟩
 ·have e:=ii e;obtain⟨N,rfl⟩:∃N:Nat,n=N:=⟨n.toNat,i5⟩
  obtain⟨T,rfl⟩:∃T:Nat,t=T:=⟨t.toNat,i5⟩
  have r:lA N T=((min (ch N T) 4097:Nat):Int):=by unfold lA;rw[g9 e];rfl
  rw[r];obtain⟨m,y⟩:∃m,m=min T (N-T):=⟨_,rfl⟩
  have f:ch N m=ch N T:=by
   rw[y];rcases Nat.le_total T (N-T)with b|b
   ·rw[wE b]
   ·rw[Nat.min_eq_right b,<-Od N T i5]
  have a:(if qe xL ((N:Int)-T)<(T:Int)then qe xL ((N:Int)-T)else(T:Int))=(m:Int):=by rw[ai _];split<;>omega
  rw[a];refine aq (λi:Nat=>(((ch N i:Nat):Int),(i:Int))) (λi h'=>h'=s/\i<=m/\ch N i<=4096) (λi=>m-i) 0 (by rw[ny];rfl) ⟨i4,i5,by rw[ny];omega⟩ ?_;rintro i b ⟨rfl,A,d⟩
  try dsimp only
  refine ag (λx=>?_) (λx=>?_)
  ·have l:i<m:=i5
   have D:N<=64:=i5
   have c:=SE (n:=N) (k:=i) i5;have g:ch N i*(N-i)<=4096*64:=Nat.mul_le_mul d i5;have w:qe xL ((N:Int)-i)=((N-i:Nat):Int):=j6
   have u:qe xL (((ch N i:Nat):Int)*((N-i:Nat):Int))=((ch N i*(N-i):Nat):Int):=by rw[<-Int.natCast_mul,ai _]
   have z:qe xL ((i:Int)+1)=((i+1:Nat):Int):=j1
   have q:vm ((ch N i*(N-i):Nat):Int) ((i+1:Nat):Int)=((ch N (i+1):Nat):Int):=by rw[<-c,<-Int.ofNat_tdiv,Nat.mul_div_cancel _ i5]
   have p:ch N (i+1)<=4096*64:=by have:ch N (i+1)*1<=ch N (i+1)*(i+1):=Nat.mul_le_mul_left _ i5;omega
   rw[w,u,z,q,ai _];refine⟨i5,ag (λo=>?_) λo=>?_⟩
   ·have:=Tc (n:=N) (j:=m) (i:=i+1) i5 i5;refine⟨?_,i4⟩;rw[show min (ch N T) 4097=4097 by omega];rfl
   ·exact⟨i+1,i4,⟨i4,i5,i5⟩,i5⟩
  ·have:i=m:=i5
   subst this;refine⟨?_,i4⟩;rw[show min (ch N T) 4097=ch N i by omega]
theorem index_spec(s:Sl)(l:aB)(x:Int)(h:g0)(g:Rd h s 1 ak l)(n:i0 l<=2^30):an xP 128 #[s,xF xL x] h λv h'=>(∃i:Int,v=xF xL i/\(0<=i↔x∈l)/\(0<=i->l[i.toNat]?=dB x/\∀j,j<i.toNat->l[j]?≠dB x)/\i<i0 l/\-1<=i)/\h'=h:=by
 refine mW s x ?_;have k:=g.len;refine aq (λi:Nat=>(i:Int)) (λi h'=>h'=h/\i<=i0 l/\∀j,j<i->l[j]?≠dB x) (λi=>i0 l-i) 0 i4 ⟨i4,i5,λj c=>i5⟩ ?_;rintro i o ⟨rfl,m,b⟩;refine ag (λe=>?_) (λe=>?_)
 ·have a:i<i0 l:=i5
  refine g.bt i i4 a _ i4 ?_;refine cH (λf=>?_) (λf=>?_)
  ·refine⟨⟨i,i4,⟨λ_=>f▸qf a,λ_=>i5⟩,λ_=>⟨by rw[qj,qc a,f],λj c=>b j i5⟩,i5,i5⟩,i4⟩
  ·refine⟨i+1,j1,⟨i4,i5,λj c=>?_⟩,i5⟩;rcases zd.1 c with c|rfl
   ·exact b j c
   ·rw[qc a];intro d;exact f (Option.some.inj d).symm
 ·refine⟨⟨-1,i4,⟨λd=>i5,λd=>?_⟩,λd=>i5,i5,i5⟩,i4⟩;obtain⟨j,c,rfl⟩:=qB d;exact absurd (qc c) (b j i5)
theorem sH(s:Sl)(l:aB)(x:Int)(h:g0)(c:Rd h s 1 ak l)(b:i0 l<=2^30):an xP 80 #[s,xF xL x] h λv h'=>v=xJ (decide (x∈l))/\h'=h:=by refine ts Tryz.func80 ?_;refine(index_spec s l x h c b).mono ?_;rintro v d ⟨⟨i,rfl,a,_⟩,rfl⟩;refine⟨i,i4,?_,i4⟩;congr 1;exact decide_eq_decide.2 a
theorem YA(n:Nat)(s:Sl)(l:List Nat){B:aw}{u h:g0}{As:List HP}(H:aa B u h As)(i:Nat)(m:As[i]?=dB (af 3 s 1 ak (ints l)))(Q:n<=64)(L:i0 l<=n)(I:∀x∈l,x<n):
  an xP 272 #[s,xF xL n] h λv h'=>match kf n l with
   |some l'=>v=xJ eX/\aa B u h' (As.set i (af 3 s 1 ak (ints l')))
   |none=>v=xJ fz/\h'=h:=by
 refine ts Tryz.func272 ?_ (.two .n (.two (.two .n (.inn (.loop [(5,aQ)] [(4,7),(10,48)] (.two .n (.two (.inn (.two .n (.two (.two .n (.two (.two .n (.inn (.loop [(6,aQ)] [(6,7),(33,48)] .n))) .n)) .n))) .n))))) .n));have f:=(H.own i m).len;rw[kU]at f;refine aq (λk:Nat=>(k:Int)-1) (λk h'=>h'=h/\k<=i0 l/\kf n (l.drop k)=eH) (λk=>k) l.length (by rw[f,ai _]) ⟨i4,ql _,by rw[yu];rfl⟩ ?_;rintro k O ⟨rfl,S,c⟩;refine ag (λe=>?_) (λe=>?_)
 ·obtain⟨k,rfl⟩:∃j,k=j+1:=⟨k-1,i5⟩
  have b:k<i0 l:=i5
  have A:=H.seq i m λ_=>rfl;have d:(((k+1:Nat):Int)-1)=(k:Int):=i5
  have M:=I _ (qf b);have o:kf n (l.drop k)=if l[k]+(i0 l-k-1)+1<n then dB (zQ (l[k]+1) (i0 l-k-1+1))else eH:=by rw[qK b];unfold kf;rw[c];simp[Nat.sub_sub]
  refine A.bt k d (by rw[kU];exact b) _ i4 ?_;rw[Hs b,d,ai ((n:Int)-((s.len:Nat):Int)),ai _];refine ag (λJ=>?_) (λJ=>?_)
  ·refine A.bt k i4 (by rw[kU];exact b) _ i4 ?_;rw[Hs b,ai _];rw[g9 i5]at o;have K:=Oc k l _ i5 o;rw[K]
   try dsimp only
   refine H.set aj i m (λ_=>rfl) i4 k i4 (by rw[kU];exact b) ((l[k]:Int)+1) i4 i4 i4 λP D=>?_;let a:Nat->List Nat:=λj=>l.take k++zQ (l[k]+1) (j+1)++l.drop (k+1+j);have g:(ints l).set k ((l[k]:Int)+1)=ints (a 0):=by
    have:a 0=l.set k (l[k]+1):=by simp only[a];rw[List.set_eq_take_append_cons_drop,g9 b];simp[List.range'_succ]
    rw[this];simp[ints,vR]
   rw[g]at D;refine aq (λj:Nat=>((k+1+j:Nat):Int)) (λj h'=>k+1+j<=i0 l/\aa B u h' (As.set i (af 3 s 1 ak (ints (a j))))) (λj=>i0 l-j) 0 j1 ⟨i5,D⟩ ?_;rintro j h3 ⟨N,p⟩;have E:i0 (a j)=i0 l:=by simp[a];omega
   have q:i<i0 As:=(qk.1 m).1;have z:(As.set i (af 3 s 1 ak (ints (a j))))[i]?=dB (af 3 s 1 ak (ints (a j))):=zk q;refine ag (λG=>?_) (λG=>?_)
   ·have r:k+1+j<i0 l:=i5
    have w:(a j)[k+j]'(by omega)=l[k]+1+j:=by simp only[a,qn];rw[List.getElem_append_right i9,List.getElem_append_left i9];simp[List.getElem_range'];omega
    refine(p.seq i z λ_=>rfl).bt (k+j) j6 (by rw[kU];omega) _ i4 ?_;rw[Hs i5,w,ai _];refine p.set aj i z (λ_=>rfl) i4 (k+1+j) i4 (by rw[kU];omega) (((l[k]+1+j:Nat):Int)+1) i4 i4 i4 λR t=>?_;refine⟨j+1,j6,⟨i5,?_⟩,i5⟩;rw[List.set_set]at t;have:(ints (a j)).set (k+1+j) (((l[k]+1+j:Nat):Int)+1)=ints (a (j+1)):=by
     have F:(a j).set (k+1+j) (l[k]+1+j+1)=a (j+1):=by
      simp only[a];rw[qV _ _ i9];have:k+1+j-i0 (List.take k l++zQ (l[k]+1) (j+1))=0:=i9
      rw[this,qK r,zp,List.range'_concat (n:=j+1)];simp[w5]
     rw[<-F];simp[ints,vR]
    rw[this]at t;exact t
   ·have y:k+1+j=i0 l:=i5
    refine⟨i4,?_⟩;have:l.take k++zQ (l[k]+1) (i0 l-k-1+1)=a j:=by simp only[a];rw[y,yu,qE,show l.length-k-1+1=j+1 by omega]
    rw[this];exact p
  ·rw[hU i5]at o;exact⟨k,by rw[ai _],⟨i4,i5,o⟩,i5⟩
 ·have:k=0:=i5
  subst this;rw[List.drop_zero]at c;rw[c];exact⟨i4,i4⟩
theorem abv(a b:Sl)(c d:Row)(h:g0)(j:Rd h a 1 az c)(l:Rd h b 1 az d)(u:i0 c=i0 d)(B:i0 c<=2^30):an xP 338 #[a,b] h λv h'=>∃r:Sl,v=.tuple #[r,xJ eX]/\Sp h h' [af 5 r 1 az (zf (·^^^·) c d)]:=by
 refine ts Tryz.func338 ?_ (.two .n (.two .n (.two .n (.two (.two .n (.inn (.loop [(18,aQ)] [(7,8),(18,34)] .n))) .n))));have x:=j.len;have y:=l.len;refine bx (λe=>i5) λ_=>?_;refine(Sp.refl h).make aj az gz i6 0 i4 i4 c.length c.length i5 i5 (ql _) i5 λs h3 q w m=>?_;refine aq (λk:Nat=>(k:Int)) (λk h'=>k<=i0 c/\Sp h h' [af 5 s 1 az (zf (·^^^·) (c.take k) (d.take k)++qi (i0 c-k) 0)]) (λk=>i0 c-k) 0 i4 ⟨i5,m0⟩ ?_;rintro k z ⟨A,f⟩;refine ag (λe=>?_) (λe=>?_)
 ·have g:k<i0 c:=i5
  refine(Seq.up j f.ae).bt k i4 g _ i4 ?_;refine(Seq.up l f.ae).bt k i4 i5 _ i4 ?_;rw[nU];refine f.set aj 0 i4 (λ_=>rfl) i4 k i4 i9 (c[k]^^^d[k]) i4 i4 i4 λt o=>⟨trivial,?_⟩
  refine⟨k+1,j1,⟨i5,?_⟩,i5⟩;have i:i0 (zf (·^^^·) (c.take k) (d.take k))=k:=i9
  have p:(zf (·^^^·) (c.take k) (d.take k)++qi (i0 c-k) (0:UInt8)).set k (c[k]^^^d[k])=zf (·^^^·) (c.take (k+1)) (d.take (k+1))++qi (i0 c-(k+1)) 0:=by rw[qV _ _ i5,i,qW,show c.length-k=i0 c-(k+1)+1 by omega,yl,zp,aD _ _ g,aD _ _ (show k<i0 d by omega),List.zipWith_append i9,qn];rfl
  rw[<-p];exact o
 ·have:k=i0 c:=i5
  subst this;refine⟨s,i4,?_⟩;rw[qg (ql _),qg i5,qW,y9,qE]at f;exact f
theorem aek(c:UInt8)(a b:Row):zf (·^^^·) (scaleB c a) b=cV c a b:=by unfold scaleB cV;rw[List.zipWith_map_left];congr 1;funext x y;exact UInt8.xor_comm _ _
theorem YB(f:f8)(c:UInt8)(a b:Sl)(d e:Row)(h:g0)(l:fI h f)(n:Rd h a 1 az d)(p:Rd h b 1 az e)(m:i0 d=i0 e)(k:i0 d<=2^30):
  an xP 321 #[xH (dB f),xF xM c.toNat,a,b] h λv h'=>∃r:Sl,v=.tuple #[r,xJ eX]/\Sp h h' [af 5 r 1 az (cV c d e)]:=by
 refine ts Tryz.func321 ?_;refine(IB f c a d h l n k).mono ?_;rintro v o ⟨r,rfl,g⟩;refine⟨r,i4,(abv r b _ e o (g.seq 0 i4 λ_=>rfl) (Seq.up p g.ae) (by rw[oD];exact m) (by rw[oD];exact k)).mono ?_⟩;rintro v s ⟨w,rfl,q⟩;refine⟨(w,eX),i4,w,i4,?_⟩;rw[<-aek];exact(g.comp q).take 1 λi A j=>by cases i with|zero=>exact j|succ i=>simp at j
def gC(f:f8)(n:Nat)(a:Sl):aT:=[xH (dB f),xF xL n,a]
def iz(b f:f8)(n:Nat)(M:aJ):HP:=.ex λa:Sl=>(ac b 353 (gC f n a)).sep (bp 58 a 1 bg (cm 1 az) M)
theorem YC(u f:f8)(n:Nat)(b r:Sl)(M:aJ)(l:Row)(h:g0)(p:bY h u 353 (gC f n b))(B:fI h f)(E:dQ (bC (cm 1 az) 1 bg) h b M)(I:Rd h r 1 az l)
  (K:i0 l=n) (X:n<=64) (g:aS n M) (z:∀x∈M,fl x<n) (R:i0 M<=2^30):
  an xP 275 #[xH (dB u),r] h λv h'=>∃w:Sl,v=.tuple #[w,xJ eX]/\Sp h h' [af 5 w 1 az (eK M l)]:=by
 refine ts Tryz.func275 ?_ (.two .n (.two (.join [] [(4,6),(10,21)] .n) (.two .n (.two (.two .n (.inn (.loop [(6,cL),(28,aQ)] [(6,7),(8,10),(28,51)] .n))) .n))));have N:=I.len;have T:=bC.len E;refine aW ?_;refine bo (λe=>j3) λ_=>?_;refine⟨u,i4,n,p.cell i4,bx (λe=>i5) λ_=>?_⟩;refine(fw r l h I i5).mono ?_;rintro v U ⟨w,rfl,G⟩;refine⟨w,i4,u,i4,b,(p.ae G.ae p.lt).cell i4,?_⟩;refine aq (λt:Sl×Nat=>(t.1,(t.2:Int))) (λt h'=>t.2<=i0 M/\Sp h h' [af 5 t.1 1 az (eK (M.take t.2) l)]) (λt=>i0 M-t.2) (w,0) i4 ⟨jj,by simpa[eK]using G⟩ ?_;rintro⟨o,k⟩ L ⟨W,a⟩;dsimp only at*;refine ag (λe=>?_) (λe=>?_)
 ·have c:k<i0 M:=i5
  have P:M[k].length=n:=g _ (qf _);have J:=z _ (qf c);have q:aS n (M.take k):=λx y=>g x (zr y);have m:=GQ q K;have Q:=(a.own 0 i4).len;refine bC.mB (dQ.up E a.ae) k i4 c λx y=>?_;refine(EO x _ L y).mono ?_;rintro v h3 ⟨rfl,rfl⟩;refine⟨_,i4,?_⟩
  try dsimp only
  rw[g9 i5];refine(a.seq 0 i4 λ_=>rfl).bt (fl M[k]) i4 i5 _ i4 ?_;have s:(eK (M.take k) l)[fl M[k]]'(by omega)=aK (eK (M.take k) l) (fl M[k]):=(JY i5).symm;have d:eK (M.take (k+1)) l=cV (aK (eK (M.take k) l) (fl M[k])) M[k] (eK (M.take k) l):=by unfold eK;rw[aD _ _ c,z6];rfl
  rw[s];refine bx (λH=>?_) (λH=>?_)
  ·refine⟨u,i4,dB f,(p.ae a.ae p.lt).cell0 i4,?_⟩;refine(YB f (aK (eK (M.take k) l) (fl M[k])) x o M[k] _ h3 (B.ae a.ae B.lt) y (a.seq 0 i4 λ_=>rfl) i5 i5).mono ?_;rintro v V ⟨F,rfl,S⟩;refine⟨(F,eX),i4,⟨(F,k+1),j0,⟨i7,?_⟩,i7⟩⟩
   try dsimp only
   rw[d];exact(a.comp S).take 1 λi A D=>by cases i with|zero=>exact D|succ i=>simp at D
  ·refine⟨(o,k+1),j0,⟨i7,?_⟩,i7⟩;have O:aK (eK (M.take k) l) (fl M[k])=0:=AD.1 H;have:eK (M.take (k+1)) l=eK (M.take k) l:=by rw[d,O];refine eZ (n:=n) (by rw[bZ];exact m) m λj _=>?_;rw[cP i5,Gf.zero_mul,UInt8.xor_zero]
   try dsimp only
   rw[this];exact a
 ·refine⟨o,i4,?_⟩;rw[qg i5]at a;exact a
theorem Mq(f:f8)(n:Nat)(h:g0)(j:n<=64):an xP 207 #[xH (dB f),xF xL n] h λv h'=>∃c:f8,v=xH (dB c)/\Sp h h' [iz c f n []]:=by refine ts Tryz.func207 ?_ (.two .n (.two (.join [] [(4,11)] .n) (.two (.join [(0,Oi)] [(0,1),(11,14)] .n) .n)));refine aW ?_;refine ag (λe=>i5) λ_=>ag (λe=>i5) λ_=>?_;refine aW ?_;refine bo (λe=>j3) λ_=>?_;refine(Sp.refl h).boxed λa i d=>?_;refine⟨a,i4,?_⟩;have g:=(d.ua 58 1 bg (cm 1 az)).join 0 1 i6 i4 i4;exact(g.close' (F:=λb:Sl=>(ac a 353 (gC f n b)).sep (bp 58 b 1 bg (cm 1 az) [])) 0 ⟨eH,0,0⟩ i4).del 1
theorem iz.open{B:aw}{b h:g0}{As:List HP}{c f:f8}{n:Nat}{M:aJ}(H:aa B b h (iz c f n M::As)):
  ∃a:Sl,aa B b h (bp 58 a 1 bg (cm 1 az) M::ac c 353 (gC f n a)::As):=by
 obtain⟨a,d⟩:=H.oW;exact⟨a,d.mg⟩
theorem iz.close{B:aw}{c h:g0}{As:List HP}{b f:f8}{n:Nat}{M:aJ}{a:Sl}(H:aa B c h (bp 58 a 1 bg (cm 1 az) M::ac b 353 (gC f n a)::As)):
  aa B c h (iz b f n M::As):=H.jd.ub (F:=λa:Sl=>(ac b 353 (gC f n a)).sep (bp 58 a 1 bg (cm 1 az) M)) a
theorem Bq(b f:f8)(n:Nat)(M:aJ){B:aw}{d h:g0}{As:List HP}(H:aa B d h (iz b f n M::As)):an xP 278 #[xH (dB b)] h λv h'=>v=xF xL M.length/\h'=h:=by refine ts Tryz.func278 ?_;obtain⟨a,c⟩:=iz.open H;refine bo (λe=>j3) λ_=>?_;exact⟨b,i4,a,(c.box 1 i4).cell i4,by rw[(c.Nn 0 i4).1],i4⟩
theorem Dg(g f:f8)(n:Nat)(M:aJ)(r:Sl)(l:Row){B:aw}{o h:g0}{As:List HP}(H:aa B o h (iz g f n M::As))(E:St B o As λh=>fI h f)(V:Rd h r 1 az l)
  (G:i0 l=n) (K:n<=64) (j:aS n M) (z:∀x∈M,fl x<n) (W:i0 M<=64):
  an xP 209 #[xH (dB g),r] h λv h'=>(∃b,v=xJ b)/\aa B o h' (iz g f n (NW M l)::As):=by
 refine ts Tryz.func209 ?_ (.two .n (.two .n (.two (.join [] [(4,5),(13,20)] .n) .n)));obtain⟨k,t⟩:=iz.open H;have m:=GQ j G;refine(YC g f n k r M l h (t.box 1 i4) (E [_,_] h t) (t.KN 0 i4 λ_=>rfl) V G K j z i5).mono ?_;rintro v R ⟨w,rfl,I⟩;have F:=t.cb I;have L:=I.seq 0 i4 λ_=>rfl;refine⟨(w,eX),i4,aW ?_⟩;refine aR (λe=>j3) λ_=>?_;refine(EO w _ R L).mono ?_;rintro v Z ⟨rfl,rfl⟩;refine⟨_,i4,?_⟩
 try dsimp only
 by_cases a:fl (eK M l)<i0 (eK M l)
 ·rw[g9 a];refine tW (hZ (Int.not_lt.2 (z8 _))) ?_;have u:=F.vy 0 i4 λ_=>rfl;have c:=u.box 2 i4;refine⟨g,i4,dB f,c.cell0 i4,g,i4,k,c.cell i4,?_⟩;have p:aS n (M++[eK M l]):=mR j m;refine u.nt aj bg fv i4 [w] i4 (show 1*1<=2^20 by decide) i4 ⟨c.cell i4,c.cell0 i4,trivial⟩ ?_;refine u.nX aj 1 0 i6 i4 i4 fv i4 i6 (λ_=>rfl) jQ i4 i6 i5 λA s S=>?_;have d:aa B o s (bp 58 A 1 bg (cm 1 az) (M++[eK M l])::ac g 353 (gC f n k)::As):=S.nY;have D:=d.box 1 i4;refine⟨⟨D.cell0 i4,trivial⟩,?_⟩;refine(Gc f A _ n s (E [_,_] s d) (bC.toeT (d.KN 0 i4 λ_=>rfl)) p K i9).mono ?_;rintro v N ⟨q,rs,rfl,Y,y,X,T⟩;have i:=(ig p (eU (M++[eK M l]))).2;have P:Sp s N [bp 58 ⟨q.ptr,ce (M++[eK M l]),q.cap⟩ 1 bg (cm 1 az) (mV (M++[eK M l]))]:=by have:=aa.adn (As:=[]) T (by rw[i];exact y) (λ_=>rfl) (ce (M++[eK M l])) (by rw[i];omega);exact this
  have U:=d.cb P;refine⟨q,i4,trivial,g,i4,?_⟩;refine U.storeAt aj 2 i4 i4 (off:=2) (v:=xG q.ptr q.len q.cap) i4 i4 i4 (by simp[gC]) λQ J=>⟨trivial,⟨_,i4⟩,?_⟩
  have O:aa B o Q (bp 58 ⟨q.ptr,ce (M++[eK M l]),q.cap⟩ 1 bg (cm 1 az) (mV (M++[eK M l]))::bp 58 A 1 bg (cm 1 az) (M++[eK M l])::ac g 353 (gC f n ⟨q.ptr,ce (M++[eK M l]),q.cap⟩)::As):=by rw[show q.len=ce (M++[eK M l])from Y]at J;exact J
  rw[NW,g9 a];exact iz.close O.oV
 ·rw[hU a];refine Dp (hY i6) ⟨⟨_,i4⟩,?_⟩;rw[NW,hU a];exact iz.close F.nY
theorem Mr(i f:f8)(n:Nat)(M:aJ)(a:Sl)(h:g0)(w:bY h i 353 (gC f n a))(d:dQ (bC (cm 1 az) 1 bg) h a M)(A:i0 M<=64)(j:aS n M)(B:n<=64):
  an xP 322 #[xH (dB i)] h λv h'=>∃r:Sl,v=r/\Sp h h' [bp 58 r 1 bg (cm 1 az) M]:=by
 refine ts Tryz.func322 ?_ (.two .n (.two .n (.two .n (.two (.two .n (.inn (.loop [(3,cL),(13,aQ)] [(3,4),(5,6),(13,23)] .n))) .n))));refine bo (λe=>j3) λ_=>?_;have l:=bC.len d;refine⟨i,i4,a,w.cell i4,?_⟩;refine aq (λt:Sl×Nat=>(t.1,(t.2:Int))) (λt h'=>t.2<=i0 M/\Sp h h' [bp 58 t.1 1 bg (cm 1 az) (M.take t.2)]) (λt=>i0 M-t.2) (⟨eH,0,0⟩,0) i4 ⟨jj,(Sp.refl h).ua 58 1 bg (cm 1 az)⟩ ?_;rintro⟨s,k⟩ q ⟨E,g⟩;dsimp only at*;refine ag (λe=>?_) (λe=>?_)
 ·have b:k<i0 M:=i5
  have z:=j _ (qf b);refine bC.mB (dQ.up d g.ae) k i4 b λx y=>?_;refine(fw x M[k] q y i5).mono ?_;rintro v h3 ⟨c,rfl,p⟩;have m:=(g.cb p).vy 0 i4 λ_=>rfl;refine⟨c,i4,?_⟩;refine m.nX aj 1 0 i6 i4 i4 fv i4 i6 (λ_=>rfl) jQ i4 i6 i9 λo D u=>?_;refine⟨(o,k+1),j0,⟨i7,?_⟩,i7⟩
  try dsimp only
  rw[aD _ _ b];exact u.nY
 ·rw[qg i5]at g;exact⟨s,i4,g⟩
theorem iz.rd{B:aw}{t h:g0}{As:List HP}{m f:f8}{n:Nat}{M:aJ}(H:aa B t h As)(i:Nat)(o:As[i]?=dB (iz m f n M)):∃g:Sl,bY h m 353 (gC f n g)/\dQ (bC (cm 1 az) 1 bg) h g M:=by obtain⟨g,y,u,v,w,k,s,rs,z,a,b,c,d,e⟩:=H.at i o;exact⟨g,s.1,rs,a.seq (λ_=>rfl) λx j=>k x (b x j).1,d,λi r l p q=>(cm 1 az).mono (e i r l p q) λx j=>k x (c x j)⟩
theorem Ky(c f:f8)(n:Nat)(M:aJ)(b:Sl)(h:g0)(d:bY h c 353 (gC f n b))(i:dQ (bC (cm 1 az) 1 bg) h b M)(j:i0 M<=64)(l:aS n M)(s:n<=64):
  an xP 277 #[xH (dB c)] h λv h'=>∃g:f8,v=xH (dB g)/\Sp h h' [iz g f n M]:=by
 refine ts Tryz.func277 ?_;refine bo (λe=>j3) λ_=>?_;refine⟨c,i4,dB f,d.cell0 i4,c,i4,n,d.cell i4,?_⟩;have o:bR.ok [(c.add 1,(xF xL (n:Int))),(c,(xH (dB f)))] h:=⟨d.cell i4,d.cell0 i4,trivial⟩
 refine(Mr c f n M b h d i j l s).mono ?_;rintro v u ⟨r,rfl,p⟩;have k:=lI p.ae o;refine⟨r,i4,k,p.boxed λa q m=>?_⟩;have t:Sp h q (ac a 353 (gC f n r)::bp 58 r 1 bg (cm 1 az) M::[]):=m.be;refine⟨lI m.ae o,a,i4,?_⟩;exact iz.close t.gV
def di(p:Pm)(seed:Int)(ids:aB):aJ:=if bJ p then(ids.filter bW).map (om (bN p).toNat seed)else[]
theorem Gq{p:Pm}{seed:Int}{ids:aB}{k:Nat}(b:k<i0 ids):di p seed (ids.take (k+1))=di p seed (ids.take k)++(if(bJ p&&bW ids[k])=eX then[om (bN p).toNat seed ids[k]]else[]):=by
 unfold di;by_cases a:bJ p=eX
 ·rw[g9 a,g9 a,oq b];by_cases h:bW ids[k]=eX
  ·rw[g9 h,g9 (by rw[a,h];rfl),qL];rfl
  ·rw[hU h,hU tr,qE]
 ·rw[hU a,hU a,hU m6];rfl
theorem Rw(p:Pm)(seed:Int)(ids:aB):aS (bN p).toNat (di p seed ids):=λr a=>by
 unfold di at a;split at a
 ·obtain⟨i,_,rfl⟩:=qo.1 a;exact Nv _ _ _
 ·cases a
theorem Jl(p:Pm)(seed:Int)(ids:aB):i0 (di p seed ids)<=i0 ids:=by
 unfold di;split
 ·rw[qq];exact List.length_filter_le _ _
 ·simp
abbrev EU:iK Sl aJ:=bC (cm 1 az) 1 bg
theorem YD(p:Pm)(seed:Int)(w:Sl)(W:ct)(h:g0)(M:dQ (bC (cm 1 ak) 1 bg) h w W)(X:i0 W<=2^20)(O:∀l∈W,i0 l<=2^20):
  an xP 210 #[jW p,xF xN seed,w] h λv h'=>∃r:Sl,v=r/\Sp h h' [bp 43 r 1 bg EU (W.map (di p seed))]:=by
 refine ts Tryz.func210 ?_ (.two .n (.two .n (.two (.two .n (.inn (.loop [(7,cL),(16,aQ)] [(7,8),(9,11),(12,14),(16,42)] (.two .n (.two .n (.two (.inn (.two .n (.two .n (.two (.two .n (.inn (.loop [(10,cL),(22,aQ)] [(10,11),(12,14),(22,37)] .n))) .n)))) .n)))))) .n))) (args:=[p,(xF xN (seed:Int)),w]);obtain⟨R,z,U,H⟩:=bC.kb M;have P:=z.len;refine(Sp.refl h).boxed λa Y T=>?_;refine aq (λt:Sl×Nat=>(t.1,(t.2:Int))) (λt h'=>t.2<=i0 W/\Sp h h' [bp 43 t.1 1 bg EU ((W.take t.2).map (di p seed)),ac a 36 [xF xL p.1,xF xL p.2.1,xF xL p.2.2]]) (λt=>i0 W-t.2) (⟨eH,0,0⟩,0) i4 ⟨jj,(T.ua 43 1 bg EU).be⟩ ?_;rintro⟨o,k⟩ Z ⟨hk,A⟩;dsimp only at*;refine ag (λe=>?_) (λe=>?_)
 ·have m:k<i0 W:=i5
  have K:=O _ (qf m);have G:=H k i5 m;refine(Seq.up z A.ae).mC k i4 i5 ?_;generalize R[k]'(by omega)=x at G;have L:=Seq.len G;refine aq (λt:Sl×Nat=>(t.1,(t.2:Int))) (λt h'=>t.2<=W[k].length/\Sp h h' [bp 58 t.1 1 bg (cm 1 az) (di p seed (W[k].take t.2)),bp 43 o 1 bg EU ((W.take k).map (di p seed)),ac a 36 [xF xL p.1,xF xL p.2.1,xF xL p.2.2]]) (λt=>W[k].length-t.2) (⟨eH,0,0⟩,0) i4 ⟨jj,by
    have:=(A.ua 58 1 bg (cm 1 az)).be;have Q:di p seed []=[]:=by unfold di;split<;>rfl
    dsimp only;rw[List.take_zero,Q];exact this⟩ ?_
  rintro⟨s,j⟩ h3 ⟨V,u⟩;dsimp only at*;refine ag (λN=>?_) (λN=>?_)
  ·have g:j<W[k].length:=i5
   refine(Seq.up G u.ae).bt j i4 g _ i4 ?_;refine⟨p,(u.box 2 i4).aF _ i4,(Oy p seed W[k][j] h3).mono ?_⟩;rintro v h4 ⟨c,rfl,S,f⟩;refine⟨c,i4,?_⟩;have y:=(u.cb S).vy 0 i4 λ_=>rfl;have i:=Jl p seed (W[k].take j);rw[qR]at i;refine aR (λq=>?_) (λq=>?_)
   ·rw[f]at q;have d:(bJ p&&bW W[k][j])=eX:=nb
    rw[d,g9 rfl]at y;refine y.nX aj 1 0 i6 i4 i4 fv i4 i6 (λ_=>rfl) jQ i4 i6 i5 λB I F=>?_;have D:=F.nY;refine⟨(B,j+1),j0,⟨i7,?_⟩,i7⟩;dsimp only;rw[Gq g,g9 d];exact D
   ·rw[f]at q;have d:¬(bJ p&&bW W[k][j])=eX:=λJ=>by rw[J]at q;cases q
    refine⟨(s,j+1),j0,⟨i7,?_⟩,i7⟩;dsimp only;rw[Gq g,hU d,qE];exact y.nY
  ·rw[qg i5]at u;have y:=u.JP 0 i4 λ_=>rfl;refine y.nX aj 1 0 i6 (E:=EU) (a:=s) (b:=di p seed W[k]) i4 i4 (⟨_,_,i4,i4,i4,i4,i4,i4⟩:bG C.toAQ 41 43 1 [xG eH 0 0] 24) i4 i6 (λ_=>rfl) jQ i4 i6 i9 λB I F=>?_;refine⟨(B,k+1),j0,⟨i7,?_⟩,i7⟩
   try dsimp only
   rw[aD _ _ m,qL];exact F.nY
 ·rw[qg i5]at A;exact⟨o,i4,A.oV⟩
def lG(R:List aJ)(a:aB):Nat->aJ
 |0=>[]
 |k+1=>lG R a k++if(k:Int)∈a then[]else R.getD k []
theorem LM{n:Nat}{R:List aJ}(c:∀m∈R,aS n m)(b:aB):∀k,aS n (lG R b k)
 |0=>λr a=>by cases a
 |k+1=>λr a=>by
  rcases qz.1 a with a|a
  ·exact LM c b k r a
  ·split at a
   ·cases a
   ·rw[qd]at a;cases hg:R[k]? with
    |none=>rw[hg]at a;cases a
    |some m=>rw[hg]at a;exact c m (zY hg) r a
theorem PF(R:List aJ)(a:aB):∀{j k:Nat},j<=k->∃X,lG R a k=lG R a j++X
 |j,0,h=>⟨[],by
   have:j=0:=i5
   subst this;simp⟩
 |j,k+1,h=>by
  by_cases c:j=k+1
  ·subst c;exact⟨[],jj⟩
  ·obtain⟨X,b⟩:=PF R a (j:=j) (k:=k) i5;exact⟨X++if(k:Int)∈a then[]else R.getD k [],by rw[lG,b,qn]⟩
theorem abw{n:Nat}{m:aJ}(c:aS n m)(h:ce m=n){b:aJ}(a:aS n b)(d:∀r∈m,r∈b):ce b=n:=by have e:=mQ a;have f:=KT c a d;omega
theorem Rx(T f:f8)(n:Nat)(M A:aJ)(t l g:Sl)(R:List aJ)(a:aB)(h:g0)(hb:bY h T 353 (gC f n t))(P:dQ EU h t M)(N:fI h f)(hl:dQ (bC EU 1 bg) h l R)(hg:Rd h g 1 ak a)
  (hn:n<=64) (i:BY n M A) (V:∀m∈R,aS n m/\m.length<=2^20) (ah:i0 R<=2^20) (S:i0 a<=2^30):
  an xP 211 #[xH (dB T),l,g,xF xL n] h λv h'=>v=xJ (decide (ce (A++lG R a R.length)=n))/\Sp h h' []:=by
 refine ts Tryz.func211 ?_ (.two .n (.two .n (.two (.two .n (.inn (.loop [(18,aQ)] [(8,9),(10,12),(13,14),(18,41)] (.two .n (.two .n (.two (.inn (.two .n (.two .n (.two .n (.inn (.loop [(28,aQ)] [(8,9),(13,14),(28,40)] .n)))))) .n)))))) .n)));obtain⟨ls,H,al,L⟩:=bC.kb hl;have ad:=H.len;have q:∀{p A':aJ},BY n p A'->i0 p<=64:=λx=>by have:=x.len;have:=mQ x.evenA;omega
 have K:St (λb=>b<h.size) h [] λh'=>fI h' f:=.base N λh' hp=>N.ae hp N.lt;have Q:aS n (A++lG R a R.length):=λr d=>(qz.1 d).elim (i.evenA r) (LM (λm hm=>(V m hm).1) a _ r);refine(Ky T f n M t h hb P (q i) i.even hn).mono ?_;rintro v h1 ⟨s,rfl,R1⟩;refine⟨dB s,i4,?_⟩;refine aq (λk:Nat=>(k:Int)) (λk h'=>k<=i0 R/\∃p,BY n p (A++lG R a k)/\Sp h h' [iz s f n p]) (λk=>i0 R-k) 0 i4 ⟨i5,M,by simpa[lG]using i,R1⟩ ?_;rintro k h2 ⟨hk,M2,w,B⟩;refine ag (λe=>?_) (λe=>?_)
 ·have z:k<i0 R:=i5
  have hx:=L k i5 z;refine(Seq.up H B.ae).mC k i4 i5 ?_;generalize ls[k]'(by omega)=x at hx;have E:=V _ (qf z);refine(sH g a k h2 (Seq.up hg B.ae) S).mono ?_;rintro v h3 ⟨rfl,rfl⟩;refine⟨_,i4,ag (λO=>?_) λo=>?_⟩
  ·refine⟨k+1,j1,⟨i5,M2,?_,B⟩,i5⟩;rw[lG,g9 O,qE];exact w
  ·obtain⟨xs,G,ao,J⟩:=bC.kb hx;have ab:=G.len;have F:R.getD k []=R[k]:=by rw[qd,qc z];rfl
   refine aq (λj:Nat=>(j:Int)) (λj h'=>j<=R[k].length/\∃p,BY n p ((A++lG R a k)++R[k].take j)/\Sp h h' [iz s f n p]) (λj=>R[k].length-j) 0 i4 ⟨i5,M2,sb,B⟩ ?_;rintro j h4 ⟨hj,I,c,D⟩;refine ag (λe2=>?_) (λe2=>?_)
   ·have u:j<R[k].length:=i5
    have Z:=J j i5 u;refine(Seq.up G D.ae).mC j i4 i5 ?_;generalize xs[j]'(by omega)=y at Z;refine(Bq s f n I D).mono ?_;rintro v h5 ⟨rfl,rfl⟩;refine⟨_,i4,cH (λU=>?_) λU=>?_⟩
    ·refine⟨?_,.zip D.ae⟩;have am:((i0 I:Nat):Int)=(n:Int):=U;have W:ce ((A++lG R a k)++R[k].take j)=n:=by have:=c.len;omega
     have h7:ce (A++lG R a R.length)=n:=by
      refine abw c.evenA W Q λr d=>?_;obtain⟨X,hX⟩:=PF R a (j:=k+1) (k:=i0 R) i5;rw[hX,lG,hU o,F];simp only[qz]at d⊢;rcases d with(d|d)|d
      ·exact .inl d
      ·exact .inr (.inl (.inl d))
      ·exact .inr (.inl (.inr (zr d)))
     rw[h7];simp
    ·refine(Dg s f n I y _ D K (Seq.up Z D.ae) (E.1 _ (qf _)) hn c.even c.lead (q c)).mono ?_;rintro v W ⟨⟨b,rfl⟩,H6⟩;refine⟨b,i4,⟨j+1,j1,⟨i5,_,?_,H6⟩,i5⟩⟩;have:=WZ c (E.1 _ (qf u));rw[aD _ _ u,<-qn];exact this
   ·refine⟨k+1,j1,⟨i5,I,?_,D⟩,i5⟩;rw[qg i5]at c;rw[lG,hU o,F,<-qn];exact c
 ·have:k=i0 R:=i5
  subst this;refine(Bq s f n M2 B).mono ?_;rintro v h5 ⟨rfl,rfl⟩;refine⟨_,i4,?_,.zip B.ae⟩;have:=w.len;congr 1;by_cases Y:ce (A++lG R a R.length)=n
  ·rw[hY Y];exact beq_iff_eq.2 (show((i0 M2:Nat):Int)=n by omega)
  ·rw[hZ Y];exact beq_eq_false_iff_ne.2 (show((i0 M2:Nat):Int)≠n by omega)
def Am(n t:Nat):ct:=(lS t 0 n).map ints
def EV(n t:Int)(h:g0)(v:Value)(h':g0):Prop:=
 if 0<=n/\n<=64/\0<=t/\t<=n then
  if lA n t>4096 then v=.tuple #[xG eH 0 0,xF xL 13]/\h'=h
  else∃r:Sl,v=.tuple #[r,xF xL 0]/\Sp h h' [bp 22 r 1 bg (cm 1 ak) (Am n.toNat t.toNat)]
 else v=.tuple #[xG eH 0 0,xF xL 1]/\h'=h
theorem PG(n t:Int)(h:g0)(hn:0<=n/\n<=2^30)(ht:(0:Int)<=0):an xP 206 #[xF xL n,xF xL t] h (EV n t h):=by
 refine ts Tryz.func206 ?_ (.two .n (.two .n (.two .n (.two (.two .n (.inn (.loop [(23,aQ)] [(7,8),(23,31)] .n))) (.two .n (.two (.inn (.loop [(8,cL)] [(8,9),(34,42)] .n)) .n))))));refine(Bo n t h).mono ?_;rintro v I ⟨rfl,rfl⟩;refine⟨_,i4,aR (λe=>?_) λe=>?_⟩
 ·show EV n t I _ I;unfold EV;rw[hU (of_decide_eq_false e)];exact⟨i4,i4⟩
 ·have e:=ii e;refine(Bp n t I i5 i5).mono ?_;rintro v i ⟨rfl,rfl⟩;refine⟨_,i4,ag (λw=>?_) λw=>?_⟩
  ·show EV n t i _ i;unfold EV;rw[g9 e,g9 w];exact⟨i4,i4⟩
  ·refine(λK=>?_:(∀(v:Value) (h':g0),(∃r:Sl,v=.tuple #[r,xF xL 0]/\Sp i h' [bp 22 r 1 bg (cm 1 ak) (Am n.toNat t.toNat)])->EV n t i v h')->_) (λv h' l=>by unfold EV;rw[g9 e,hU w];exact l);obtain⟨N,rfl⟩:∃N:Nat,n=N:=⟨n.toNat,i5⟩
   obtain⟨T,rfl⟩:∃T:Nat,t=T:=⟨t.toNat,i5⟩
   have U:i0 (lS T 0 N)<=4096:=by
    rw[GS N T 0 i5];have:lA (N:Int) T=((min (ch N T) 4097:Nat):Int):=by unfold lA;rw[g9 e];rfl
    rw[this]at w;have ad:¬(((min (ch N T) 4097:Nat):Int)>4096):=w;simp;omega
   refine(Sp.refl i).make aj ak fN i6 0 i4 i4 T T i4 i4 (ql _) i5 λs h3 ao W X=>?_;refine aq (λk:Nat=>(k:Int)) (λk h'=>k<=T/\Sp i h' [af 3 s 1 ak (ints (zQ 0 k++qi (T-k) 0))]) (λk=>T-k) 0 i4 ⟨i5,by
    have O:ints (zQ 0 0++qi (T-0) 0)=qi T 0:=by simp[ints]
    rw[O];exact X⟩ ?_
   rintro k h4 ⟨hk,A⟩;refine ag (λe3=>?_) (λe3=>?_)
   ·have ap:k<T:=i5
    refine A.set aj 0 i4 (λ_=>rfl) i4 k i4 (by simp[ints];omega) (k:Int) i4 i4 i4 λY B=>?_;refine⟨k+1,j1,⟨i5,?_⟩,i5⟩;have O:(ints (zQ 0 k++qi (T-k) 0)).set k (k:Int)=ints (zQ 0 (k+1)++qi (T-(k+1)) 0):=by
     have:(zQ 0 k++qi (T-k) 0).set k k=zQ 0 (k+1)++qi (T-(k+1)) 0:=by rw[qV _ _ jj,List.length_range',qW,show T-k=T-(k+1)+1 by omega,yl,zp,List.range'_concat];simp
     rw[<-this];simp[ints,vR]
    rw[O]at B;exact B
   ·have:k=T:=i5
    subst this;rw[qW,y9,qE]at A;refine(jL s _ h4 (A.seq 0 i4 λ_=>rfl) (by simp[ints];omega)).mono ?_;rintro v Y ⟨c,rfl,R5⟩;have B:=(A.cb R5).vy 0 i4 λ_=>rfl;refine⟨c,i4,?_⟩;refine B.lit aj bg (⟨_,_,i4,i4,i4,i4,i4,i4⟩:bG C.toAQ 75 22 1 [xG eH 0 0] 24) i4 [c] i4 (show 1*1<=2^20 by decide) i4 λo h6 H6=>?_;have Z:Sp i h6 (bp 22 o 1 bg (cm 1 ak) [ints (zQ 0 k)]::af 3 s 1 ak (ints (zQ 0 k))::[]):=(H6.afc (E:=cm 1 ak) (a:=c) (b:=ints (zQ 0 k)) 2 0 i6 i4 i4).be.oV;have R:=DW N k 0 i5;refine aq (λx:Sl×List (List Nat)×List Nat×List (List Nat)=>x.1) (λx h'=>x.2.1++x.2.2.2=lS k 0 N/\pr N x.2.2.1 x.2.2.2/\x.2.2.1.length=k/\(∀y∈x.2.2.1,y<N)/\Sp i h' [bp 22 x.1 1 bg (cm 1 ak) ((x.2.1++[x.2.2.1]).map ints),af 3 s 1 ak (ints x.2.2.1)]) (λx=>i0 x.2.2.2) (o,[],zQ 0 k,lS k 0 N) i4 ⟨i4,R,jj,λy Q=>by rw[List.mem_range'_1]at Q;omega,by simpa using Z⟩ ?_;rintro⟨o,g,f,rest⟩ h8 ⟨z,m,ah,P,S⟩;dsimp only at*;refine(YA N s f S 1 i4 i5 i5 P).mono ?_;intro v u l;cases hs:kf N f with
    |none=>
     rw[hs]at l;obtain⟨rfl,rfl⟩:=l;refine⟨fz,i4,?_⟩;refine tW i4 (K _ _ ⟨o,i4,?_⟩);rw[qj,qj];have:rest=[f]:=by
      cases m with
      |last _=>rfl
      |more h _=>rw[hs]at h;cases h
     rw[this]at z;unfold Am;rw[<-z];exact S.oV
    |some cur'=>
     rw[hs]at l;obtain⟨rfl,H⟩:=l;refine⟨eX,i4,Dp i4 ?_⟩;obtain⟨L,F,d⟩:∃L,pr N cur' L/\rest=f::L:=by
      cases m with
      |last h=>rw[hs]at h;cases h
      |more h h'=>rw[hs]at h;injection h with h;subst h;exact⟨_,h',i4⟩
     have j:Sp i u [bp 22 o 1 bg (cm 1 ak) ((g++[f]).map ints),af 3 s 1 ak (ints cur')]:=H;have p:cur'∈lS k 0 N:=by
      rw[<-z,d];have:cur'∈L:=by cases F<;>simp
      simp[this]
     have q:=Cd p;have ab:i0 g+2<=i0 (lS k 0 N):=by
      rw[<-z,d];have:1<=i0 L:=by cases F<;>simp
      simp;omega
     refine(jL s _ u (j.seq 1 i4 λ_=>rfl) (by rw[kU];omega)).mono ?_;rintro v al ⟨V,rfl,J⟩;have M:=(j.cb J).vy 0 i4 λ_=>rfl;refine⟨V,i4,?_⟩;refine M.nX aj 1 0 i6 (E:=cm 1 ak) (a:=V) (b:=ints cur') i4 i4 (⟨_,_,i4,i4,i4,i4,i4,i4⟩:bG C.toAQ 75 22 1 [xG eH 0 0] 24) i4 i6 (λ_=>rfl) jQ i4 i6 i9 λo' am D=>?_;refine⟨(o',g++[f],cur',L),i4,⟨by dsimp only;rw[<-z,d];simp,F,q.1,λy Q=>(q.2.1 y Q).2,?_⟩,by dsimp only;rw[d];simp⟩;have G:=D.nY
     try dsimp only
     rw[qL (l₁:=g++[f])];exact G
def pE(W:ct)(a:aB):Nat->aB
 |0=>[]
 |k+1=>pE W a k++if(k:Int)∈a then[]else W.getD k []
def Bt(p:Pm)(seed:Int)(W:ct)(a:aB):Nat:=wX p seed (pE W a W.length)
theorem Vv(p:Pm)(seed:Int)(a b:aB):di p seed (a++b)=di p seed a++di p seed b:=by unfold di;split<;>simp
theorem LN(p:Pm)(seed:Int)(W:ct)(a:aB):∀k,lG (W.map (di p seed)) a k=di p seed (pE W a k)
 |0=>by simp[lG,pE,di]
 |k+1=>by
  rw[lG,pE,Vv,LN p seed W a k];congr 1;by_cases h:(k:Int)∈a
  ·rw[g9 h,g9 h];simp[di]
  ·rw[hU h,hU h,qd,qP,qd];cases W[k]? with
   |none=>simp[di]
   |some l=>rfl
theorem YE{p:Pm}(a:bJ p=eX)(seed:Int)(ids:aB):dV p seed ids=bB p.1.toNat p.2.1.toNat++di p seed ids:=by unfold dV di;rw[g9 a,g9 a]
def FK(p:Pm)(seed:Int)(W:ct)(t:Nat):Option (aB):=(Am W.length t).find? λg=>decide ((Bt p seed W g:Int)≠bN p)
def gD(p:Pm)(seed:Int)(W:ct)(t:Int):aB×Bool×Int:=
 if bJ p then
  if 0<=t/\t<=i0 W/\W.length<=64 then
   if lA W.length t>4096 then([],fz,13)
   else match FK p seed W t.toNat with
    |some g=>(g,eX,0)
    |none=>([],fz,0)
  else([],fz,1)
 else([],fz,1)
theorem Kz(K H:Nat):aS (K+H) (bB K H):=λr a=>by
 obtain⟨i,_,rfl⟩:=qo.1 a;exact ui _ _ _
theorem LO{α:Type}(f:α->Bool)(l:List α){k:Nat}(b:k<i0 l)(a:(l.take k).find? f=eH):(l.take (k+1)).find? f=if f l[k]then dB l[k]else eH:=by rw[aD _ _ b,List.find?_append,a,Option.none_or,List.find?_cons];cases f l[k]<;>rfl
theorem YF{α:Type}(f:α->Bool)(l:List α){k:Nat}{x:α}(h:(l.take k).find? f=dB x):l.find? f=dB x:=by have:l=l.take k++l.drop k:=(qC k l).symm;rw[this,List.find?_append,h];rfl
theorem Jm(p:Pm)(seed:Int)(w:Sl)(W:ct)(t:Int)(h:g0)(hW:dQ (bC (cm 1 ak) 1 bg) h w W)(hl:i0 W<=2^20)(hr:∀l∈W,i0 l<=2^20)(ht:(0:Int)<=0):
  an xP 142 #[jW p,xF xN seed,w,xF xL t] h λv h'=>∃r:Sl,v=.tuple #[r,xJ (gD p seed W t).2.1,xF xL (gD p seed W t).2.2]/\Sp h h' [EA (cm 1 ak) r (gD p seed W t).1]:=by
 refine ts Tryz.func142 ?_ (.two .n (.two .n (.two .n (.two .n (.two .n (.two .n (.two (.two .n (.inn (.loop [(40,aQ)] [(15,16),(40,48)] .n))) (.two .n (.two (.two .n (.inn (.loop [(54,aQ)] [(8,11),(18,19),(54,66)] .n))) .n))))))))) (args:=[p,(xF xN (seed:Int)),w,(t:Int)]);have am:=bC.len hW;have j:∀{h1:g0},aP (λb=>b<h.size) h h1->Sp h h1 [EA (cm 1 ak) ⟨eH,0,0⟩ []]:=λG=>.one G (Seq.nil _ _ _ _ _ _);refine(Sp.refl h).boxed λa h1 H1=>?_;refine⟨p,(H1.box 0 i4).aF _ i4,(dZ p h1).mono ?_⟩;rintro v h2 ⟨rfl,R2⟩;have Y:=H1.comp R2;refine⟨_,i4,aR (λe=>?_) λe=>?_⟩
 ·refine⟨⟨eH,0,0⟩,?_,?_⟩<;>(unfold gD;rw[hU lz])
  exact j Y.ae
 ·have G:bJ p=eX:=e;refine(PG (w.len:Int) t h2 i5 ht).mono ?_;intro v h3 H;unfold EV at H;rw[am]at H;have P:(0<=((i0 W:Nat):Int)/\((i0 W:Nat):Int)<=64/\0<=t/\t<=((i0 W:Nat):Int))↔(0<=t/\t<=i0 W/\W.length<=64):=i5
  by_cases I:0<=t/\t<=i0 W/\W.length<=64
  ·rw[g9 (P.2 I)]at H;by_cases K:lA W.length t>4096
   ·rw[g9 K]at H;obtain⟨rfl,rfl⟩:=H;refine⟨(⟨eH,0,0⟩,13),i4,bx (λ_=>?_) λe=>j3⟩;refine⟨⟨eH,0,0⟩,?_,?_⟩<;>(unfold gD;rw[g9 G,g9 I,g9 K])
    exact j Y.ae
   ·rw[hU K]at H;obtain⟨r,rfl,R3⟩:=H;refine⟨(r,0),i4,bx (λe=>absurd i4 e) λ_=>?_⟩
    try dsimp only
    rw[qj]at R3;have wR:gD p seed W t=match FK p seed W t.toNat with|some g=>(g,eX,0)|none=>([],fz,0):=by unfold gD;rw[g9 G,g9 I,hU K]
    obtain⟨L,Z⟩:∃L,L=Am W.length t.toNat:=⟨_,rfl⟩
    rw[<-Z]at R3;have bd:i0 L<=4096:=by
     have h6:lA (i0 W:Int) t=((min (ch W.length t.toNat) 4097:Nat):Int):=by unfold lA;rw[g9 (P.2 I)];rfl
     rw[h6]at K;rw[Z,Am,qq,GS _ _ 0 i5,Nat.sub_zero];omega
    have H3:Sp h h3 [ac a 36 [xF xL p.1,xF xL p.2.1,xF xL p.2.2],bp 22 r 1 bg (cm 1 ak) L]:=Y.comp R3;have pp:=(bT p).1 G;have a3:bN p=p.1+p.2.1:=ox G;obtain⟨n,hn⟩:∃n:Nat,bN p=n:=⟨(bN p).toNat,i5⟩
    have u:n<=64:=i5
    refine⟨p,(H3.box 0 i4).aF _ i4,(kp p h3).mono ?_⟩;rintro v h4 ⟨rfl,R4⟩;have H4:=H3.up R4.ae;refine⟨_,i4,(pB h4).mono ?_⟩;rintro v h5 ⟨f,rfl,R5⟩;have H5:=H4.cb R5;rw[hn];refine⟨dB f,i4,(Mq f n h5 u).mono ?_⟩;rintro v h6 ⟨Q,rfl,R6⟩;have H6:Sp h h6 [iz Q f n [],ac f 308 cY,ac a 36 [xF xL p.1,xF xL p.2.1,xF xL p.2.2],bp 22 r 1 bg (cm 1 ak) L]:=H5.cb R6;refine⟨dB Q,i4,p,(H6.box 2 i4).aF _ i4,(sC p h6).mono ?_⟩;rintro v h7 ⟨ar,rfl,R7⟩;rw[g9 G]at R7;obtain⟨A,F⟩:∃A,A=bB p.1.toNat p.2.1.toNat:=⟨_,rfl⟩
    rw[<-F]at R7;have T:aS n A:=by have:=Kz p.1.toNat p.2.1.toNat;rw[F,show n=p.1.toNat+p.2.1.toNat by omega];exact this
    have bb:i0 A<=4:=by rw[F];simp[bB];omega
    have H7:Sp h h7 [iz Q f n [],ac f 308 cY,ac a 36 [xF xL p.1,xF xL p.2.1,xF xL p.2.2],bp 22 r 1 bg (cm 1 ak) L,bp 58 ar 1 bg (cm 1 az) A]:=(H6.comp R7).MD 4 i4;have X:∀{M' A':aJ},BY n M' A'->i0 M'<=64:=λx=>by have:=x.len;have:=mQ x.evenA;omega
    refine⟨ar,i4,?_⟩;refine aq (λk:Nat=>(k:Int)) (λk h'=>k<=i0 A/\∃M,BY n M (A.take k)/\Sp h h' [iz Q f n M,ac f 308 cY,ac a 36 [xF xL p.1,xF xL p.2.1,xF xL p.2.2],bp 22 r 1 bg (cm 1 ak) L,bp 58 ar 1 bg (cm 1 az) A]) (λk=>i0 A-k) 0 i4 ⟨i5,[],by simpa using afq n,H7⟩ ?_;rintro k h8 ⟨hk,M,s,R⟩;have a9:=(R.Nn 4 i4).1;refine ag (λe2=>?_) (λe2=>?_)
    ·have c:k<i0 A:=i5
     refine bC.mB (R.KN 4 i4 λ_=>rfl) k i4 c λx hx=>?_;refine(Dg Q f n M x _ R (St.eG 0 i4 λh' y=>y.1) hx (T _ (qf _)) u s.even s.lead (X s)).mono ?_;rintro v h9 ⟨⟨b,rfl⟩,H9⟩;refine⟨b,i4,⟨k+1,j1,⟨i5,_,?_,H9⟩,i5⟩⟩;rw[aD _ _ c];exact WZ s (T _ (qf c))
    ·rw[qg i5]at s;refine⟨p,(R.box 2 i4).aF _ i4,(YD p seed w W h8 (dQ.up hW R.ae) hl hr).mono ?_⟩;rintro v h9 ⟨J,rfl,R9⟩;have H9:=R.comp R9;refine⟨J,i4,?_⟩;have ap:∀m∈W.map (di p seed),aS n m/\m.length<=2^20:=λm K=>by
      obtain⟨l,ah,rfl⟩:=qo.1 K;refine⟨?_,qT (Jl p seed l) (hr l ah)⟩;have:=Rw p seed l;rw[hn]at this;exact this
     let d:aB->Bool:=λg=>decide ((Bt p seed W g:Int)≠bN p);have wI:FK p seed W t.toNat=L.find? d:=by unfold FK;rw[<-Z]
     have a8:=(H9.Nn 3 i4).1;refine aq (λk:Nat=>(k:Int)) (λk h'=>k<=i0 L/\(L.take k).find? d=eH/\Sp h h' [iz Q f n M,ac f 308 cY,ac a 36 [xF xL p.1,xF xL p.2.1,xF xL p.2.2],bp 22 r 1 bg (cm 1 ak) L,bp 58 ar 1 bg (cm 1 az) A,bp 43 J 1 bg EU (W.map (di p seed))]) (λk=>i0 L-k) 0 i4 ⟨i5,jj,H9⟩ ?_;rintro k a0 ⟨a6,E,o⟩;refine ag (λe3=>?_) (λe3=>?_)
     ·have c:k<i0 L:=i5
      refine bC.ahl (o.KN 3 i4 λ_=>rfl) k i4 c λad x al N hx=>?_;obtain⟨ab,hb,ay⟩:=iz.rd o 0 rfl;have a4:L[k].length<=2^30:=by
       have a5:L[k]∈Am W.length t.toNat:=by have h0:L[k]∈L:=qf c;generalize L[k]=y at h0;rw[Z]at h0;exact h0
       obtain⟨g,hg,ax⟩:=qo.1 a5;have:=(Cd hg).1;rw[<-ax,kU,this];have:=I.2.1;have:=I.2.2;omega
      refine(Rx Q f n M A ab J x (W.map (di p seed)) L[k] a0 hb ay (o.box 1 i4) (o.KN 5 i4 λ_=>rfl) hx u s ap i9 a4).mono ?_;rintro v a7 ⟨rfl,U⟩;have a1:(decide (ce (A++lG (W.map (di p seed)) L[k] (W.map (di p seed)).length)=n))=!d L[k]:=by
       rw[LN,qq,F,<-YE G];show _=!decide ((Bt p seed W L[k]:Int)≠bN p);rw[hn];unfold Bt wX;by_cases hh:ce (dV p seed (pE W L[k] W.length))=n
       ·simp[hh]
       ·rw[hZ hh,hY i5];rfl
      rw[a1];have V:=o.up U.ae;refine⟨_,i4,aR (λe4=>?_) λe4=>?_⟩
      ·have O:d L[k]=eX:=by simpa using e4
       have S:=LO d L c E;rw[g9 O]at S;have z:gD p seed W t=(L[k],eX,0):=by rw[wR,wI,YF d L S]
       refine⟨x,by rw[z],?_⟩;rw[z];have ao:=V.JP 3 i4 λ_=>rfl;have B:=oL N U.ae;have a2:=ao.eJ (D:=EA (cm 1 ak) x L[k]) 3 i4 λq hq=>bC.pick hq k c al B;exact a2.take 3 λi A' hi=>by cases i with|zero=>exact hi|succ i=>simp at hi
      ·have O:d L[k]=fz:=by simpa using e4
       have S:=LO d L c E;rw[O]at S;exact⟨k+1,j1,⟨i5,S,V⟩,i5⟩
     ·rw[qg i5]at E;have z:gD p seed W t=([],fz,0):=by rw[wR,wI,E]
      refine⟨⟨eH,0,0⟩,by rw[z],?_⟩;rw[z];exact j o.ae
  ·rw[hU λhh=>I (P.1 hh)]at H;obtain⟨rfl,rfl⟩:=H;refine⟨(⟨eH,0,0⟩,1),i4,bx (λ_=>?_) λe=>j3⟩;refine⟨⟨eH,0,0⟩,?_,?_⟩<;>(unfold gD;rw[g9 G,hU I])
   exact j Y.ae
section
variable {pw:f8}
end
structure Wn (p:Pm) (m:av) (C:Int->aL) (ds:aE):Prop where
 sto:gB m C ds
 live:aU ds m.drives≠[]
 dr:∀k∈m.drives,k<9
 pe:m.p=p
 wt:∀k d,aV ds k=dB d->d.wait=0
variable {p:Pm}
section
variable {C:Int->aL}
theorem Vw{l:aB}(h:l.Pairwise (·<·)){s:Int}(i:s∉l):(iH (l++[s])).Pairwise (·<·):=by have j:(l++[s]).Nodup:=List.nodup_append.2 ⟨h.imp λh e=>i5,jj,λa c b d e=>i (by rw[<-qu.1 d,<-e];exact c)⟩;have f:(iH (l++[s])).Perm (l++[s]):=List.mergeSort_perm _ _;have g:(iH (l++[s])).Pairwise (λa b=>a≠b):=f.nodup_iff.2 j;exact(Qw.DE _).imp₂ (λa b=>i5) g
end
def An(s:Sl)(n:Nat):Sl:=⟨if s.cap=n then s.ptr else s.ptr.map (·.add (n*1)),s.len-n,s.cap-n⟩
theorem Jn{a:f8}{s:Sl}{f:Bool}{n:Int}(c:0<=n)(g:s.len<=s.cap)(H:aa B h0 h (ac a 400 [s,xJ f]::As)):
  an xP 339 #[xH (dB a),xF xL n] h λv h'=>
   (n<=s.len/\v=xG s.ptr n.toNat s.cap/\aa B h0 h' (ac a 400 [.slice (An s n.toNat).ptr (An s n.toNat).len (An s n.toNat).cap,xJ f]::As))∨
   ((s.len:Int)<n/\v=xG eH 0 0/\aa B h0 h' (ac a 400 [s,xJ eX]::As)):=by
 refine ts Tryz.func339 ?_;refine⟨a,i4,s,(H.box 0 i4).cell0 i4,ag (λe=>?_) λe=>?_⟩
 ·refine⟨a,i4,H.store aj 0 i4 i4 1 [xJ eX] i4 i4 i4 jj λd b=>.inr ⟨e,i4,b⟩⟩
 ·refine⟨a,i4,s,(H.box 0 i4).cell0 i4,⟨c,i5⟩,a,i4,s,(H.box 0 i4).cell0 i4,⟨c,i5⟩,a,i4,?_⟩;refine H.jr aj 0 i4 i4 [.slice (An s n.toNat).ptr (An s n.toNat).len (An s n.toNat).cap] i4 i4 i4 jj λd b=>Or.inl ⟨i5,i4,b⟩
theorem Ao(l:aL):iX l=dv l:=rfl
theorem PH{s:Sl}{l:aL}(g:Rd h s 1 az l)(v:i0 l<=4){R:Aw}(q:R (xF xL (iX l)) h):
  gK (σ:=Int×Int) (λb K1 c=>
 Br (decide (b.2<((s.len:Nat):Int)))
 (∃a3:f8,(s.ptr=dB a3/\0<=b.2/\b.2<((s.len:Nat):Int))/\
 ∃j:Int,cellOf c (a3.add (b.2.toNat*1))=dB (xF xM j)/\
 (0<=(8:Int))/\
 K1 (qe xL ((qO (qH xL) (qe xL (b.1*2^min (8:Int).toNat (qH xL)))|||(qO (qH xL) (qe xL j))).toNat:Nat),qe xL (b.2+(1:Int))) c)
 (R (xF xL b.1) c)) ((0:Int),(0:Int)) h:=by
 have u:=g.len;refine aq (τ:=Nat) (λi=>(iX (l.take i),(i:Int))) (λi h'=>i<=i0 l/\h'=h) (λi=>i0 l-i) 0 (by simp[iX]) ⟨zi _,i4⟩ ?_;rintro i h' ⟨r,rfl⟩;refine ag (λe=>?_) (λe=>?_)
 ·have a:i<i0 l:=o6
  refine g.mE i i4 a ((l.getD i 0).toNat:Int) (by rw[getD_lt a];rfl) λt k=>⟨i6,i+1,?_,⟨a,i4⟩,i5⟩
  have m:=Ck (l.take i) i9;have d:=m.2.2 i9;obtain⟨n,f⟩:∃n:Nat,iX (l.take i)=(n:Int):=⟨(iX (l.take i)).toNat,by rw[Ao];omega⟩
  rw[<-Ao,f]at d;have o:=(l.getD i 0).toNat_lt;show(_,_)=(_,_)
  rw[f,Ol n _ i5 o,ai _];have p:l.take (i+1)=l.take i++[l.getD i 0]:=by rw[getD_lt a];simp
  rw[p,xR,f];rfl
 ·have:i=i0 l:=o6
  subst this;simpa using q
def mb(s:Sl)(n:Int):Sl:=if n<=s.len then An s n.toNat else s
theorem YG{a:f8}{s:Sl}{f:Bool}{n:Int}{l:aL}(k:0<=n)(m:n<=4)(j:s.len<=s.cap)(d:∀g h',aa B h0 h' (ac a 400 g::As)->Rd h' s 1 az l)
  (H:aa B h0 h (ac a 400 [s,xJ f]::As)):
  an xP 324 #[xH (dB a),xF xL n] h λv h'=>
   v=xF xL (bX (l,f) n).1/\aa B h0 h' (ac a 400 [.slice (mb s n).ptr (mb s n).len (mb s n).cap,xJ (bX (l,f) n).2.2]::As):=by
 have c:=(d _ _ H).len;refine ts Tryz.func324 ?_ (.two .n (.two .n (.two (.two .n (.inn (.loop [(5,aQ),(12,aQ)] [(5,6),(7,8),(12,22)] .n))) .n)));refine(Jn k j H).mono ?_;rintro v o (⟨e,rfl,H1⟩|⟨e,rfl,H1⟩)
 ·have i:=(d _ _ H1).take n.toNat i5;refine⟨⟨s.ptr,n.toNat,s.cap⟩,i4,?_⟩;refine PH (s:=⟨s.ptr,n.toNat,s.cap⟩) (R:=λv h'=>v=xF xL (bX (l,f) n).1/\aa B h0 h' (ac a 400 [.slice (mb s n).ptr (mb s n).len (mb s n).cap,xJ (bX (l,f) n).2.2]::As)) i i9 ?_;have b:gO (l,f) n=(l.take n.toNat,(l.drop n.toNat,f)):=by unfold gO;rw[g9 (show n<=((i0 l:Nat):Int)by omega)]
  unfold bX mb;rw[b,g9 e];exact⟨i4,H1⟩
 ·refine⟨⟨eH,0,0⟩,i4,?_⟩;refine PH (s:=⟨eH,0,0⟩) (l:=[]) (R:=λv h'=>v=xF xL (bX (l,f) n).1/\aa B h0 h' (ac a 400 [.slice (mb s n).ptr (mb s n).len (mb s n).cap,xJ (bX (l,f) n).2.2]::As)) ?_ jj ?_
  ·exact Seq.nil _ _ _ _ _ _
  ·have b:gO (l,f) n=([],(l,eX)):=by unfold gO;rw[hU (show¬n<=((i0 l:Nat):Int)by omega)]
   unfold bX mb;rw[b,hU i5];exact⟨i4,H1⟩
theorem Vx(l:aL):0<=iX l/\iX l<256^i0 l:=by
 have c:∀(n:Nat) (l:aL),i0 l=n->0<=iX l/\iX l<256^n:=by
  intro n
  induction n with
  |zero=>intro l b;have:l=[]:=List.length_eq_zero_iff.1 b;subst this;simp[iX]
  |succ n ih=>
   intro l b;have a:l≠[]:=λh=>by rw[h]at b;cases b
   have e:=yL a;have:=ih l.dropLast (by rw[List.length_dropLast];omega);rw[<-e,xR,Int.pow_succ];have:=(l.getLast a).toNat_lt;omega
 exact c _ l i4
theorem nG(r:aL×Bool)(k:Nat):0<=(bX r k).1/\(bX r k).1<256^k:=by
 unfold bX gO;split
 ·have:=Vx (r.1.take k);rename_i h;rw[qR,wE i5]at this;simpa using this
 ·have:(0:Int)<256^k:=Int.pow_pos i6;simp[iX];omega
theorem countP_le{p:Int×Int×Int}{n:Int}(e:0<=n):0<=countP p n/\countP p n<=n:=by
 unfold countP;by_cases h:(bJ p&&decide (0<n))=eX
 ·rw[g9 h];rw[Bool.and_eq_true,decide_eq_true_eq]at h;have b:=(bT p).1 h.1;have a:0<p.1*p.2.2:=Int.mul_pos i5 i5;have c:0<=(n-1)/(p.1*p.2.2):=Int.ediv_nonneg i5 i5;have d:(n-1)/(p.1*p.2.2)<=n-1:=Int.ediv_le_self _ i5;omega
 ·rw[hU h];omega
variable {l:aL} {f:Bool}
section
variable {n:Int}
abbrev gu(s:Sl)(f:Bool):aT:=[s,xJ f]
structure lh (B:aw) (h0:g0) (As:List HP) (s:Sl) (l:aL):Prop where
 cap:s.len<=s.cap
 st:St B h0 As λh=>Rd h s 1 az l
theorem lh.next(O:lh B h0 As s l)(a:s.len=i0 l)(b:0<=n):lh B h0 As (mb s n) (gO (l,f) n).2.1:=by
 unfold mb gO;by_cases e:n<=(s.len:Int)
 ·rw[g9 e,g9 (show n<=((i0 l:Nat):Int)by omega)];exact⟨by unfold An;(try dsimp only);have:=O.cap;omega,O.st.mono λh x=>Seq.drop x n.toNat O.cap⟩
 ·rw[hU e,hU (show¬n<=((i0 l:Nat):Int)by omega)];exact O
theorem iO(b:List HP)(e:0<=n)(g:n<=4)(O:lh B h0 As s l)(H:aa B h0 h (ac a 400 (gu s f)::(b++As))):
  an xP 324 #[xH (dB a),xF xL n] h λv h'=>v=xF xL (bX (l,f) n).1/\∃d,lh B h0 As d (bX (l,f) n).2.1/\aa B h0 h' (ac a 400 (gu d (bX (l,f) n).2.2)::(b++As)):=by
 have i:=(O.st.at (_::b) H).len;refine(YG e g O.cap (λj h' c=>O.st.at (_::b) c) H).mono ?_;rintro v h' ⟨rfl,c⟩;exact⟨i4,_,O.next i e,c⟩
theorem YH(c:List HP)(i:0<=n)(O:lh B h0 As s l)(H:aa B h0 h (ac a 400 (gu s f)::(c++As))):
  an xP 339 #[xH (dB a),xF xL n] h λv h'=>∃r:Sl,v=r/\Rd h' r 1 az (gO (l,f) n).1/\∃d,lh B h0 As d (gO (l,f) n).2.1/\aa B h0 h' (ac a 400 (gu d (gO (l,f) n).2.2)::(c++As)):=by
 have j:=(O.st.at (_::c) H).len;refine(Jn i O.cap H).mono ?_;have g:=O.next (f:=f) j i;rintro v k (⟨e,rfl,H1⟩|⟨e,rfl,H1⟩)
 ·have b:gO (l,f) n=(l.take n.toNat,(l.drop n.toNat,f)):=by unfold gO;rw[g9 (show n<=((i0 l:Nat):Int)by omega)]
  refine⟨⟨s.ptr,n.toNat,s.cap⟩,i4,?_,_,g,?_⟩
  ·rw[b];exact(O.st.at (_::c) H1).take n.toNat i5
  ·rw[b];unfold mb;rw[g9 e];exact H1
 ·have b:gO (l,f) n=([],(l,eX)):=by unfold gO;rw[hU (show¬n<=((i0 l:Nat):Int)by omega)]
  refine⟨⟨eH,0,0⟩,i4,?_,_,g,?_⟩
  ·rw[b];exact Seq.nil _ _ _ _ _ _
  ·rw[b];unfold mb;rw[hU i5];exact H1
theorem LP(n:Nat)(l:aL):fZ n (l,eX)=([],(l,eX)):=by
 cases n<;>simp[fZ]
theorem PI(n:Nat)(r:aL×Bool)(h:r.2=fz):fZ (n+1) r=((bX r 1).1::(fZ n (bX r 1).2).1,(fZ n (bX r 1).2).2):=by show(if r.2 then _ else _)=_;rw[h];rfl
abbrev Bu(p:Pm):aT:=[xF xL p.1,xF xL p.2.1,xF xL p.2.2]
abbrev sI:aT:=[xI ⟨#[]⟩,xF xL 0,xF xL 0,xG eH 0 0]
theorem Vy(j:List HP)(p:Pm)(O:lh B h0 As s l)(H:aa B h0 h (ac a 400 (gu s f)::(j++As))):
  an xP 325 #[xH (dB a),jW p] h λv h'=>∃x:dN,v=xK (bc x).toArray/\∃k,lh B h0 As k (iY p (l,f)).2.1/\
   aa B h0 h' (EA fp x (iY p (l,f)).1::ac a 400 (gu k (iY p (l,f)).2.2)::(j++As)):=by
 refine ts Tryz.func325 ?_ (.two .n (.two .n (.two .n (.two (.join [] [(18,36)] (.two .n (.inn (.loop [(22,aQ)] [(22,36)] .n)))) .n)))) (args:=[(dB a),p]);refine H.boxed λm h1 H1=>?_;have H1:aa B h0 h1 (ac m 36 (Bu p)::ac a 400 (gu s f)::(j++As)):=H1.be;refine H1.alloc aj i4 λa2 h2 K=>?_;have K:aa B h0 h2 (ac a2 88 sI::ac m 36 (Bu p)::ac a 400 (gu s f)::(j++As)):=K.be;have K:aa B h0 h2 (ac a 400 (gu s f)::ac m 36 (Bu p)::ac a2 88 sI::(j++As)):=K.aO 3 [2,1,0];obtain⟨F,M⟩:∃q,q=bX (l,f) 1:=⟨_,rfl⟩
 have Y:=nG (l,f) 1;refine(iO (_::_::j) i6 i6 O K).mono ?_;rintro _ h3 ⟨rfl,s1,O3,H3⟩;rw[show((1:Nat):Int)=1 from rfl]at Y;rw[<-M]at O3 H3 Y⊢;refine⟨_,i4,?_⟩;obtain⟨c,R⟩:∃q,q=gO F.2 F.1:=⟨_,rfl⟩
 refine(YH (l:=F.2.1) (f:=F.2.2) (_::_::j) Y.1 O3 H3).mono ?_;rintro _ h4 ⟨r,rfl,z,s2,O4,H4⟩;have e2:gO (F.2.1,F.2.2) F.1=c:=R.symm;rw[e2]at z O4 H4;refine⟨r,i4,Fs aj ⟨_,i4,i4⟩ ⟨_,i4,i4⟩ ⟨_,i4,i4⟩ z ?_⟩;refine H4.alloc aj i4 λy h6 H6=>?_;have H6:aa B h0 h6 (ac y 88 sI::ac a 400 (gu s2 c.2.2)::ac m 36 (Bu p)::ac a2 88 sI::(j++As)):=H6.be;refine H6.storeAll aj 0 i4 i4 [xI ⟨c.1.toArray⟩,xF xL 0,xF xL 0,xG eH 0 0] i4 i4 i4 i4 λh7 H7=>?_;have H7:aa B h0 h7 (ac a 400 (gu s2 c.2.2)::ac y 88 [xI ⟨c.1.toArray⟩,xF xL 0,xF xL 0,xG eH 0 0]::ac m 36 (Bu p)::ac a2 88 sI::(j++As)):=H7.gV;obtain⟨g,Q⟩:∃q,q=bX c.2 3:=⟨_,rfl⟩
 refine(iO (l:=c.2.1) (f:=c.2.2) (_::_::_::j) i6 i6 O4 H7).mono ?_;rintro _ h8 ⟨rfl,s3,O8,H8⟩;have e3:bX (c.2.1,c.2.2) 3=g:=Q.symm;rw[e3]at O8 H8⊢;refine⟨_,i4,?_⟩;obtain⟨b,D⟩:∃q,q=bX g.2 2:=⟨_,rfl⟩
 have V:=nG g.2 2;rw[show((2:Nat):Int)=2 from rfl,<-D]at V;refine(iO (l:=g.2.1) (f:=g.2.2) (_::_::_::j) i6 i6 O8 H8).mono ?_;rintro _ h9 ⟨rfl,s4,O9,H9⟩;have e4:bX (g.2.1,g.2.2) 2=b:=D.symm;rw[e4]at O9 H9⊢;refine⟨_,i4,?_⟩;refine H9.storeAt aj 1 i4 i4 i4 i4 i4 jj λa0 ah=>?_;refine ah.storeAt aj 1 i4 i4 i4 i4 i4 jj λP u=>?_;have u:aa B h0 P (ac a 400 (gu s4 b.2.2)::ac y 88 (bc (⟨c.1.toArray⟩,g.1,b.1,⟨eH,0,0⟩))::ac m 36 (Bu p)::ac a2 88 sI::(j++As)):=u;have I:iY p (l,f)=(⟨⟨c.1.toArray⟩,g.1,b.1,(fZ (countP p b.1).toNat b.2).1⟩,(fZ (countP p b.1).toNat b.2).2):=by subst M;subst R;subst Q;subst D;rfl
 have ay:=countP_le (p:=p) (n:=b.1) V.1;obtain⟨N,hN⟩:∃N:Nat,countP p b.1=N:=⟨(countP p b.1).toNat,i5⟩
 rw[hN,qj]at I;have am:N<=65536:=by have:=V.2;omega
 refine bL (λ_ h'=>∃(t k:Sl),lh B h0 As k (iY p (l,f)).2.1/\aa B h0 h' (ac a 400 (gu k (iY p (l,f)).2.2)::af 3 t 1 ak (iY p (l,f)).1.tries::ac y 88 (bc (⟨c.1.toArray⟩,g.1,b.1,t))::ac m 36 (Bu p)::ac a2 88 sI::(j++As))) ?_ ?_
 ·refine⟨p,(u.box 2 i4).aF _ i4,b.1,(u.box 1 i4).cell i4,(px p b.1 P (by have:=V.2;omega)).mono ?_⟩;rintro _ W ⟨rfl,ad⟩;have J:=(u.up ad.ae).nil 3 1 ak;have J:aa B h0 W (ac a 400 (gu s4 b.2.2)::af 3 ⟨eH,0,0⟩ 1 ak []::ac y 88 (bc (⟨c.1.toArray⟩,g.1,b.1,⟨eH,0,0⟩))::ac m 36 (Bu p)::ac a2 88 sI::(j++As)):=J.be.gV;rw[hN];refine⟨_,i4,?_⟩;refine aq (λi:Nat=>(i:Int)) (λi h'=>i<=N/\∃(ts:aB) (t k:Sl) (d:aL×Bool),ts.length<=i/\fZ N b.2=(ts++(fZ (N-i) d).1,(fZ (N-i) d).2)/\lh B h0 As k d.1/\
   aa B h0 h' (ac a 400 (gu k d.2)::af 3 t 1 ak ts::ac y 88 (bc (⟨c.1.toArray⟩,g.1,b.1,t))::ac m 36 (Bu p)::ac a2 88 sI::(j++As))) (λi=>N-i) 0 i4 ⟨zi _,[],⟨eH,0,0⟩,s4,b.2,ql _,jj,O9,J⟩ ?_
  rintro i a3 ⟨hi,ts,t,k,d,ao,z,T,A⟩
  try dsimp only
  refine ag (λe=>?_) λe=>?_
  ·have L:i<N:=i5
   refine⟨a,i4,d.2,(A.box 0 i4).cell i4,bo (λeb=>?_) λeb=>?_⟩
   ·have S:fZ (N-i) d=([],d):=by
     have:d=(d.1,eX):=by rw[<-eb]
     rw[this];exact LP _ _
    rw[S,qE]at z;rw[z]at I;rw[I];exact⟨t,k,T,A⟩
   ·refine⟨t,(A.box 2 i4).cell i4,(iO (l:=d.1) (f:=d.2) (_::_::_::_::j) i6 i6 T A).mono ?_⟩;rintro _ ap ⟨rfl,s5,O5,H5⟩;refine⟨_,i4,⟨(H5.box 2 i4).cell i4,trivial⟩,?_⟩;refine H5.lit aj ak fN i4 [(bX d 1).1] i4 (show 1*1<=2^20 by decide) i4 λv ax o=>?_;have o:=o.be;refine⟨⟨(o.box 3 i4).cell i4,trivial⟩,?_⟩;refine o.append aj 2 i4 fN ⟨_,_,i4,i4⟩ i4 i6 (λ_=>rfl) (o.seq 0 i4 λ_=>rfl) eS i9 λU ab E=>⟨trivial,?_⟩
    have E:aa B h0 ab (af 3 v 1 ak [(bX d 1).1]::ac a 400 (gu s5 (bX d 1).2.2)::af 3 U 1 ak (ts++[(bX d 1).1])::ac y 88 (bc (⟨c.1.toArray⟩,g.1,b.1,t))::ac m 36 (Bu p)::ac a2 88 sI::(j++As)):=E;refine E.storeAt aj 3 i4 i4 i4 i4 i4 jj λal G=>⟨trivial,?_⟩
    have G:aa B h0 al (af 3 v 1 ak [(bX d 1).1]::ac a 400 (gu s5 (bX d 1).2.2)::af 3 U 1 ak (ts++[(bX d 1).1])::ac y 88 (bc (⟨c.1.toArray⟩,g.1,b.1,U))::ac m 36 (Bu p)::ac a2 88 sI::(j++As)):=G;refine⟨i+1,j1,⟨i5,ts++[(bX d 1).1],U,s5,(bX d 1).2,i9,?_,O5,G.rest⟩,i5⟩;have S:N-i=(N-(i+1))+1:=i5
    rw[z,S,PI _ _ eb];simp
  ·have L:i=N:=i5
   subst L;have S:fZ (i-i) d=([],d):=by rw[qW];rfl
   rw[S,qE]at z;rw[z]at I;rw[I];exact⟨t,k,T,A⟩
 rintro _ ar ⟨t,k,T,A⟩;refine⟨(⟨c.1.toArray⟩,g.1,b.1,t),(A.box 2 i4).aF _ i4,?_⟩;refine A.storeAll aj 4 i4 i4 (bc (⟨c.1.toArray⟩,g.1,b.1,t)) i4 i4 i4 i4 λZ w=>?_;have w:aa B h0 Z (ac a 400 (gu k (iY p (l,f)).2.2)::af 3 t 1 ak (iY p (l,f)).1.tries::ac y 88 (bc (⟨c.1.toArray⟩,g.1,b.1,t))::ac m 36 (Bu p)::ac a2 88 (bc (⟨c.1.toArray⟩,g.1,b.1,t))::(j++As)):=w;refine⟨(⟨c.1.toArray⟩,g.1,b.1,t),(w.box 4 i4).aF _ i4,(⟨c.1.toArray⟩,g.1,b.1,t),i4,k,T,?_⟩;have X:=(w.freeze 1 i4 λ_=>rfl).aO 5 [1,0];refine X.eJ 0 i4 λq hq=>?_;rw[I];rw[I]at hq;exact⟨⟨i4,i4,i4⟩,hq⟩
end
theorem bz.ahv{P:Program}{s:Sem Value}{h:g0}{K1 e:Sl->g0->Prop}(a:bz P s (.one (.sc .slc)) h K1)(b:bz P s (.one (.sc .slc)) h e):bz P s (.one (.sc .slc)) h λv h'=>K1 v h'/\e v h':=by
 intro w d;obtain⟨l,r,g,l1,c,f,t⟩:=a w d;obtain⟨x,u,i,l2,x2,o,q⟩:=b w d;rw[g]at i;injection i with g1 g2
 subst g1 g2;have n:c=x2:=by
  have:=f.symm.trans o;obtain⟨m,a2,a3⟩:=c;obtain⟨j,k,p⟩:=x2;have h:Value.slice m a2 a3=Value.slice j k p:=this;injection h with c1 c2 c3
  subst c1 c2 c3;rfl
 subst n;exact⟨l,r,g,l1,c,f,t,q⟩
theorem aa.LQ{B:aw}{d h:g0}{As:List HP}{y:bm}{m:av}(a:y.1=m.seq/\y.2.1=m.next/\(y.2.2.1,y.2.2.2.1,y.2.2.2.2.1)=m.p/\y.2.2.2.2.2.1=m.extra)
  (H:aa B d h (af 3 y.2.2.2.2.2.2.1 1 ak m.drives::bp 88 y.2.2.2.2.2.2.2 4 bc fp m.objs::As)):aa B d h (bh y m::As):=by
 have i:=(H.own 0 i4).cap;have k:=(H.Nn 1 i4).2;have f:=((H.freeze 0 i4 λ_=>rfl).JP 1 i4 λ_=>rfl).jd;refine f.eJ 0 i4 λq ⟨n,l,_,b,c,e,g⟩=>?_;exact⟨a.1,a.2.1,a.2.2.1,a.2.2.2,g.mono λx j=>c x j,pY.mono e b,i,k⟩
abbrev cy:bm:=(0,0,0,0,0,0,⟨eH,0,0⟩,⟨eH,0,0⟩)
abbrev acX:bG C.toAQ 37 88 4 sI 56:=⟨_,_,i4,i4,i4,i4,i4,i4⟩
theorem YI(p:Pm)(n:Nat)(l:aL):jg p n (l,eX)=([],(l,eX)):=by
 cases n<;>simp[jg]
theorem abx(p:Pm)(n:Nat)(r:aL×Bool)(h:r.2=fz):jg p (n+1) r=((iY p r).1::(jg p n (iY p r).2).1,(jg p n (iY p r).2).2):=by show(if r.2 then _ else _)=_;rw[h];rfl
theorem LR:∀(k:Nat) (r:aL×Bool),(fZ k r).1.length<=k:=by
 intro k
 induction k with
 |zero=>intro r;exact ql _
 |succ k ih=>
  intro r;unfold fZ;split
  ·exact zi _
  ·have:=ih (bX r 1).2;simp only[ze];omega
theorem YJ(p:Pm):∀(k:Nat) (r:aL×Bool),(jg p k r).1.length<=k:=by
 intro k
 induction k with
 |zero=>intro r;exact ql _
 |succ k ih=>
  intro r;unfold jg;split
  ·exact zi _
  ·have:=ih (iY p r).2;simp only[ze];omega
theorem ael(p:Pm)(r:aL×Bool):(iY p r).1.name.size<=2^30/\(iY p r).1.tries.length<=2^30:=by
 have b:=nG r 1;rw[show((1:Nat):Int)=1 from rfl]at b;constructor
 ·show((gO (bX r 1).2 (bX r 1).1).1.toArray).size<=_;unfold gO;split
  ·simp only[List.size_toArray,qR];have:=b.2;omega
  ·simp
 ·show(fZ (countP p (bX (bX (gO (bX r 1).2 (bX r 1).1).2 3).2 2).1).toNat _).1.length<=_;have a:=nG (bX (gO (bX r 1).2 (bX r 1).1).2 3).2 2;rw[show((2:Nat):Int)=2 from rfl]at a;have c:=countP_le (p:=p) a.1;refine qT (LR _ _) ?_;have:=a.2;omega
theorem aby(p:Pm):∀(k:Nat) (r:aL×Bool),∀e∈(jg p k r).1,e.name.size<=2^30/\e.tries.length<=2^30:=by
 intro k
 induction k with
 |zero=>intro r e a;exact absurd a yw
 |succ k ih=>
  intro r e a;unfold jg at a;split at a
  ·exact absurd a yw
  ·rcases qX.1 a with rfl|h
   ·exact ael p r
   ·exact ih _ e h
theorem Vz(b:Sl)(G:aL)(h:g0)(hb:Rd h b 1 az G)(hc:b.len<=b.cap):
  an xP 283 #[b] h λv h'=>(ky G=eH/\v=.tuple #[dz cy,xJ fz]/\Sp h h' [])∨∃m x,ky G=dB m/\v=.tuple #[dz x,xJ eX]/\Sp h h' [bh x m]:=by
 refine ts Tryz.func283 ?_ (.two .n (.two .n (.two .n (.two .n (.two .n (.two (.join [] [(25,41)] (.two .n (.inn (.loop [(27,aQ)] [(27,41)] .n)))) (.two (.join [] [(41,59)] (.two .n (.inn (.loop [(43,aQ)] [(43,59)] .n)))) (.two (.join [] [(3,4),(59,76)] .n) .n))))))));have O:lh (λb=>b<h.size) h [] b G:=⟨hc,St.base hb λh' hp=>hb.up hp⟩
 refine(Sp.refl h).alloc aj i4 λB h1 H1=>?_;refine H1.boxed λa2 h2 H2=>?_;have H2:Sp h h2 [ac a2 400 (gu b fz),ac B 39 (aA cy)]:=H2.bA [1,0];obtain⟨s,ax⟩:∃q,q=bX (G,fz) 4:=⟨_,rfl⟩
 refine(iO [_] i6 i6 O H2).mono ?_;rintro _ h3 ⟨rfl,s1,O1,H3⟩;rw[<-ax]at O1 H3⊢;refine⟨_,i4,?_⟩;obtain⟨c,a6⟩:∃q,q=bX s.2 4:=⟨_,rfl⟩
 refine(iO (l:=s.2.1) (f:=s.2.2) [_] i6 i6 O1 H3).mono ?_;rintro _ h4 ⟨rfl,s2,O2,H4⟩;rw[show bX (s.2.1,s.2.2) 4=c from a6.symm]at O2 H4⊢;refine⟨_,i4,?_⟩;refine H4.alloc aj i4 λa5 h5 S=>?_;have S:Sp h h5 [ac a2 400 (gu s2 c.2.2),ac a5 39 (aA cy),ac B 39 (aA cy)]:=S.bA [0,2,1];refine S.storeAll aj 1 i4 i4 (aA (s.1,c.1,0,0,0,0,⟨eH,0,0⟩,⟨eH,0,0⟩)) i4 i4 i4 i4 λh6 H6=>?_;obtain⟨o,a3⟩:∃q,q=bX c.2 1:=⟨_,rfl⟩
 refine(iO (l:=c.2.1) (f:=c.2.2) [_,_] i6 i6 O2 H6).mono ?_;rintro _ h7 ⟨rfl,s3,O3,H7⟩;rw[show bX (c.2.1,c.2.2) 1=o from a3.symm]at O3 H7⊢;refine⟨_,i4,?_⟩;obtain⟨j,a0⟩:∃q,q=bX o.2 1:=⟨_,rfl⟩
 refine(iO (l:=o.2.1) (f:=o.2.2) [_,_] i6 i6 O3 H7).mono ?_;rintro _ h8 ⟨rfl,s4,O4,H8⟩;rw[show bX (o.2.1,o.2.2) 1=j from a0.symm]at O4 H8⊢;refine⟨_,i4,?_⟩;obtain⟨d,a8⟩:∃q,q=bX j.2 1:=⟨_,rfl⟩
 refine(iO (l:=j.2.1) (f:=j.2.2) [_,_] i6 i6 O4 H8).mono ?_;rintro _ h9 ⟨rfl,U,O5,H9⟩;rw[show bX (j.2.1,j.2.2) 1=d from a8.symm]at O5 H9⊢;refine⟨_,i4,?_⟩;refine H9.store aj 1 i4 i4 2 [xF xL o.1,xF xL j.1,xF xL d.1] i4 i4 i4 jj λbs ar=>?_;have ar:Sp h bs [ac a2 400 (gu U d.2.2),ac a5 39 (aA (s.1,c.1,o.1,j.1,d.1,0,⟨eH,0,0⟩,⟨eH,0,0⟩)),ac B 39 (aA cy)]:=ar;obtain⟨k,a9⟩:∃q,q=bX d.2 1:=⟨_,rfl⟩
 refine(iO (l:=d.2.1) (f:=d.2.2) [_,_] i6 i6 O5 ar).mono ?_;rintro _ b4 ⟨rfl,s6,O6,a7⟩;rw[show bX (d.2.1,d.2.2) 1=k from a9.symm]at O6 a7⊢;refine⟨_,i4,?_⟩;refine a7.storeAt aj 1 i4 i4 i4 i4 i4 jj λbk ap=>?_;have ap:Sp h bk [ac a2 400 (gu s6 k.2.2),ac a5 39 (aA (s.1,c.1,o.1,j.1,d.1,k.1,⟨eH,0,0⟩,⟨eH,0,0⟩)),ac B 39 (aA cy)]:=ap;obtain⟨q7,W⟩:∃q,q=bX k.2 1:=⟨_,rfl⟩
 have b7:=nG k.2 1;rw[show((1:Nat):Int)=1 from rfl,<-W]at b7;obtain⟨N,hN⟩:∃N:Nat,q7.1=N:=⟨q7.1.toNat,i5⟩
 have cc:N<256:=by have:=b7.2;omega
 obtain⟨D,hD⟩:∃D,D=fZ N q7.2:=⟨_,rfl⟩
 obtain⟨q8,am⟩:∃q,q=bX D.2 1:=⟨_,rfl⟩
 have ay:=nG D.2 1;rw[show((1:Nat):Int)=1 from rfl,<-am]at ay;obtain⟨M,hM⟩:∃M:Nat,q8.1=M:=⟨q8.1.toNat,i5⟩
 have cd:M<256:=by have:=ay.2;omega
 obtain⟨p,hp⟩:∃p:Pm,p=(o.1,j.1,d.1):=⟨_,rfl⟩
 obtain⟨E,hE⟩:∃E,E=jg p M q8.2:=⟨_,rfl⟩
 have g:BP G=(⟨s.1,c.1,p,k.1,D.1,E.1⟩,E.2):=by unfold BP;simp only[<-ax,<-a6,<-a3,<-a0,<-a8,<-a9,<-W,hN,qj,<-hD,<-am,hM,<-hp,<-hE]
 refine bL (λ_ h'=>∃(t w:Sl),lh (λb=>b<h.size) h [] w D.2.1/\Sp h h' [ac a2 400 (gu w D.2.2),af 3 t 1 ak D.1,ac a5 39 (aA (s.1,c.1,o.1,j.1,d.1,k.1,t,⟨eH,0,0⟩)),ac B 39 (aA cy)]) ?_ ?_
 ·refine(iO (l:=k.2.1) (f:=k.2.2) [_,_] i6 i6 O6 ap).mono ?_;rintro _ b0 ⟨rfl,s7,O7,I⟩;rw[show bX (k.2.1,k.2.2) 1=q7 from W.symm]at O7 I⊢;rw[hN];refine⟨_,i4,?_⟩;have I:=(I.nil 3 1 ak)
  have I:Sp h b0 [ac a2 400 (gu s7 q7.2.2),af 3 ⟨eH,0,0⟩ 1 ak [],ac a5 39 (aA (s.1,c.1,o.1,j.1,d.1,k.1,⟨eH,0,0⟩,⟨eH,0,0⟩)),ac B 39 (aA cy)]:=I.bA [0,3,1,2];refine aq (λi:Nat=>(i:Int)) (λi h'=>i<=N/\∃(ts:aB) (t w:Sl) (a:aL×Bool),i0 ts<=i/\D=(ts++(fZ (N-i) a).1,(fZ (N-i) a).2)/\lh (λb=>b<h.size) h [] w a.1/\
   Sp h h' [ac a2 400 (gu w a.2),af 3 t 1 ak ts,ac a5 39 (aA (s.1,c.1,o.1,j.1,d.1,k.1,t,⟨eH,0,0⟩)),ac B 39 (aA cy)]) (λi=>N-i) 0 i4 ⟨zi _,[],⟨eH,0,0⟩,s7,q7.2,ql _,by rw[hD];simp,O7,I⟩ ?_
  rintro i cq ⟨hi,ts,t,w,a,ca,R,O',F⟩
  try dsimp only
  refine ag (λe=>?_) λe=>?_
  ·have K:i<N:=i5
   refine⟨a2,i4,a.2,(F.box 0 i4).cell i4,bo (λQ=>?_) λQ=>?_⟩
   ·have P:fZ (N-i) a=([],a):=by
     have:a=(a.1,eX):=by rw[<-Q]
     rw[this];exact LP _ _
    rw[P,qE]at R;rw[R];exact⟨t,w,O',F⟩
   ·refine⟨t,(F.box 2 i4).cell i4,(iO (l:=a.1) (f:=a.2) [_,_,_] i6 i6 O' F).mono ?_⟩;rintro _ c0 ⟨rfl,U,O5,S⟩;refine⟨_,i4,⟨(S.box 2 i4).cell i4,trivial⟩,?_⟩;refine S.lit aj ak fN i4 [(bX a 1).1] i4 (show 1*1<=2^20 by decide) i4 λv cp L=>?_;have L:=L.be;refine⟨⟨(L.box 3 i4).cell i4,trivial⟩,?_⟩;refine L.append aj 2 i4 fN ⟨_,_,i4,i4⟩ i4 i6 (λ_=>rfl) (L.seq 0 i4 λ_=>rfl) eS i9 λt2 b2 ao=>⟨trivial,?_⟩
    have ao:Sp h b2 [af 3 v 1 ak [(bX a 1).1],ac a2 400 (gu U (bX a 1).2.2),af 3 t2 1 ak (ts++[(bX a 1).1]),ac a5 39 (aA (s.1,c.1,o.1,j.1,d.1,k.1,t,⟨eH,0,0⟩)),ac B 39 (aA cy)]:=ao;refine ao.storeAt aj 3 i4 i4 i4 i4 i4 jj λbr ad=>⟨trivial,?_⟩
    have ad:Sp h br [af 3 v 1 ak [(bX a 1).1],ac a2 400 (gu U (bX a 1).2.2),af 3 t2 1 ak (ts++[(bX a 1).1]),ac a5 39 (aA (s.1,c.1,o.1,j.1,d.1,k.1,t2,⟨eH,0,0⟩)),ac B 39 (aA cy)]:=ad;refine⟨i+1,j1,⟨i5,ts++[(bX a 1).1],t2,U,(bX a 1).2,i9,?_,O5,ad.rest⟩,i5⟩;have P:N-i=(N-(i+1))+1:=i5
    rw[R,P,PI _ _ Q];simp
  ·have K:i=N:=i5
   subst K;have P:fZ (i-i) a=([],a):=by rw[qW];rfl
   rw[P,qE]at R;rw[R];exact⟨t,w,O',F⟩
 rintro _ cl ⟨t,w,OD,bd⟩;have c1:i0 D.1<=N:=by rw[hD];exact LR _ _
 have cs:i0 E.1<=M:=by rw[hE];exact YJ _ _ _
 refine bL (λ_ h'=>∃(u w:Sl),lh (λb=>b<h.size) h [] w E.2.1/\Sp h h' [ac a2 400 (gu w E.2.2),af 3 t 1 ak D.1,bp 88 u 4 bc fp E.1,ac a5 39 (aA (s.1,c.1,o.1,j.1,d.1,k.1,t,u)),ac B 39 (aA cy)]) ?_ ?_
 ·refine(iO (l:=D.2.1) (f:=D.2.2) [_,_,_] i6 i6 OD bd).mono ?_;rintro _ b1 ⟨rfl,s8,O8,H⟩;rw[show bX (D.2.1,D.2.2) 1=q8 from am.symm]at O8 H⊢;rw[hM];refine⟨_,i4,?_⟩;have H:=H.ua 88 4 bc fp;have H:Sp h b1 [ac a2 400 (gu s8 q8.2.2),af 3 t 1 ak D.1,bp 88 ⟨eH,0,0⟩ 4 bc fp [],ac a5 39 (aA (s.1,c.1,o.1,j.1,d.1,k.1,t,⟨eH,0,0⟩)),ac B 39 (aA cy)]:=H.bA [0,1,4,2,3];refine aq (λi:Nat=>(i:Int)) (λi h'=>i<=M/\∃(Z:List Qw.cu) (u w:Sl) (a:aL×Bool),i0 Z<=i/\E=(Z++(jg p (M-i) a).1,(jg p (M-i) a).2)/\lh (λb=>b<h.size) h [] w a.1/\
   Sp h h' [ac a2 400 (gu w a.2),af 3 t 1 ak D.1,bp 88 u 4 bc fp Z,ac a5 39 (aA (s.1,c.1,o.1,j.1,d.1,k.1,t,u)),ac B 39 (aA cy)]) (λi=>M-i) 0 i4 ⟨zi _,[],⟨eH,0,0⟩,s8,q8.2,ql _,by rw[hE];simp,O8,H⟩ ?_
  rintro i cn ⟨hi,Z,u,w,a,b9,R,O',F⟩
  try dsimp only
  refine ag (λe=>?_) λe=>?_
  ·have K:i<M:=i5
   refine⟨a2,i4,a.2,(F.box 0 i4).cell i4,bo (λQ=>?_) λQ=>?_⟩
   ·have P:jg p (M-i) a=([],a):=by
     have:a=(a.1,eX):=by rw[<-Q]
     rw[this];exact YI _ _ _
    rw[P,qE]at R;rw[R];exact⟨u,w,O',F⟩
   ·refine⟨u,(F.box 3 i4).cell i4,p,?_,(Vy (l:=a.1) (f:=a.2) [_,_,_,_] p O' F).mono ?_⟩
    ·rw[hp];exact(F.box 3 i4).cells 2 (Bu (o.1,j.1,d.1)) i4
    rintro _ b6 ⟨x,rfl,U,O5,S⟩;refine⟨x,i4,⟨(S.box 4 i4).cell i4,trivial⟩,?_⟩;have hx:∀x:dN,i0 (bc x)=4:=λ_=>rfl;refine bz.ahv (K1:=λ_ h'=>bR.ok [(a5.add 7,u)] h') ?_ ?_
    ·refine S.lit aj bc acX i4 [x] i4 (show 1*4<=2^20 by decide) i4 λv cr bb=>⟨(bb.box 4 i4).cell i4,trivial⟩
    refine S.nX aj 3 0 i6 i4 i4 acX i4 i6 hx FE i4 i6 i5 λu2 b3 ab=>⟨trivial,?_⟩
    have ab:Sp h b3 [emp,ac a2 400 (gu U (iY p a).2.2),af 3 t 1 ak D.1,bp 88 u2 4 bc fp (Z++[(iY p a).1]),ac a5 39 (aA (s.1,c.1,o.1,j.1,d.1,k.1,t,u)),ac B 39 (aA cy)]:=ab;refine ab.storeAt aj 4 i4 i4 i4 i4 i4 jj λbl al=>⟨trivial,?_⟩
    have al:Sp h bl [emp,ac a2 400 (gu U (iY p a).2.2),af 3 t 1 ak D.1,bp 88 u2 4 bc fp (Z++[(iY p a).1]),ac a5 39 (aA (s.1,c.1,o.1,j.1,d.1,k.1,t,u2)),ac B 39 (aA cy)]:=al;refine⟨i+1,j1,⟨i5,Z++[(iY p a).1],u2,U,(iY p a).2,i9,?_,O5,al.rest⟩,i5⟩;have P:M-i=(M-(i+1))+1:=i5
    rw[R,P,abx _ _ _ Q];simp
  ·have K:i=M:=i5
   subst K;have P:jg p (i-i) a=([],a):=by rw[qW];rfl
   rw[P,qE]at R;rw[R];exact⟨u,w,O',F⟩
 rintro _ a4 ⟨u,w,OE,z⟩;obtain⟨y,hy⟩:∃y:bm,y=(s.1,c.1,o.1,j.1,d.1,k.1,t,u):=⟨_,rfl⟩
 obtain⟨V,T⟩:∃V:av,V=⟨s.1,c.1,p,k.1,D.1,E.1⟩:=⟨_,rfl⟩
 rw[<-T]at g;have hz:cF V:=by rw[T];exact⟨by show D.1.length<=_;omega,by show E.1.length<=_;omega,by rw[hE];exact aby _ _ _⟩
 have z:Sp h a4 [bh y V,ac a2 400 (gu w E.2.2),ac a5 39 (aA y),ac B 39 (aA cy)]:=by refine aa.LQ (by rw[hy,T,hp];exact⟨i4,i4,i4,i4⟩) ?_;rw[hy,T];exact z.bA [1,2,0,3,4]
 have b5:=hb.len;refine aW ?_;have no:ky G=eH->∀{h':g0},Sp h h' [ac B 39 (aA cy)]->(ky G=eH/\(Value.tuple #[dz cy,xJ fz])=.tuple #[dz cy,xJ fz]/\Sp h h' [])∨∃m x,ky G=dB m/\(Value.tuple #[dz cy,xJ fz])=.tuple #[dz x,xJ eX]/\Sp h h' [bh x m]:=λe _ F=>.inl ⟨e,i4,F.bA []⟩;refine⟨a2,i4,E.2.2,(z.box 1 i4).cell i4,bo (λQ=>?_) λQ=>cH (λez=>?_) λez=>?_⟩
 ·refine z.storeAll aj 3 i4 i4 (aA cy) i4 i4 i4 i4 λX A=>?_;refine⟨cy,(A.box 3 i4).aF _ i4,no ?_ (A.bA [3])⟩;unfold ky;rw[g];simp[Q]
 ·refine z.storeAll aj 3 i4 i4 (aA cy) i4 i4 i4 i4 λX A=>?_;refine⟨cy,(A.box 3 i4).aF _ i4,no ?_ (A.bA [3])⟩;have:i0 G=0:=i5
  unfold ky;rw[g];simp[this]
 ·refine⟨y,(z.box 2 i4).aF _ i4,(Ej y V a4 (z.at 0 i4) hz).mono ?_⟩;rintro _ X ⟨r,rfl,Y⟩;refine⟨r,i4,(jY b r G (bK V) X (hb.up ((Sp.zip z.ae).comp Y).ae) (Y.seq 0 i4 λ_=>rfl)).mono ?_⟩;rintro _ cf ⟨rfl,rfl⟩;have A:=z.comp Y;refine⟨_,i4,aR (λah=>?_) λah=>?_⟩
  ·refine A.storeAll aj 3 i4 i4 (aA cy) i4 i4 i4 i4 λbq J=>?_;refine⟨cy,(J.box 3 i4).aF _ i4,no ?_ (J.bA [3])⟩;unfold ky;rw[g];simp[of_decide_eq_false ah]
  ·refine⟨y,(A.box 2 i4).aF _ i4,A.storeAll aj 3 i4 i4 (aA y) i4 i4 i4 i4 λbq J=>?_⟩;refine⟨y,(J.box 3 i4).aF _ i4,.inr ⟨V,y,?_,i4,J.bA [0]⟩⟩;have e0:¬i0 G=0:=i5
   have e2:G=bK V:=ii ah;unfold ky;rw[g];simp only[Q,e0,<-e2];rfl
abbrev lM:=Int×Int×Int×Sl×Sl
abbrev cz(x:lM):aT:=[xF xL x.1,xF xL x.2.1,xF xL x.2.2.1,x.2.2.2.1,x.2.2.2.2]
abbrev Gr(x:lM):Value:=xK #[xF xL x.1,xF xL x.2.1,xF xL x.2.2.1,x.2.2.2.1,x.2.2.2.2]
abbrev sO:lM:=(0,0,0,⟨eH,0,0⟩,⟨eH,0,0⟩)
theorem YK{h:g0}{s:Sl}{l:aL}(g:Rd h s 1 az l)(v:i0 l<=4){K:Int×Int->g0->Prop}(q:K (iX l,(i0 l:Int)) h):
  gK (σ:=Int×Int) (λb K1 c=>
 Br (decide (b.2<((s.len:Nat):Int)))
 (∃a3:f8,(s.ptr=dB a3/\0<=b.2/\b.2<((s.len:Nat):Int))/\
 ∃j:Int,cellOf c (a3.add (b.2.toNat*1))=dB (xF xM j)/\
 (0<=(8:Int))/\
 K1 (qe xL ((qO (qH xL) (qe xL (b.1*2^min (8:Int).toNat (qH xL)))|||(qO (qH xL) (qe xL j))).toNat:Nat),qe xL (b.2+1)) c)
 (K b c)) ((0:Int),(0:Int)) h:=by
 have u:=g.len;refine aq (τ:=Nat) (λi=>(iX (l.take i),(i:Int))) (λi h'=>i<=i0 l/\h'=h) (λi=>i0 l-i) 0 (by simp[iX]) ⟨zi _,i4⟩ ?_;rintro i h' ⟨r,rfl⟩;refine ag (λe=>?_) (λe=>?_)
 ·have a:i<i0 l:=o6
  refine g.mE i i4 a ((l.getD i 0).toNat:Int) (by rw[getD_lt a];rfl) λt k=>⟨i6,i+1,?_,⟨a,i4⟩,i5⟩
  have m:=Ck (l.take i) i9;have d:=m.2.2 i9;obtain⟨n,f⟩:∃n:Nat,iX (l.take i)=(n:Int):=⟨(iX (l.take i)).toNat,by rw[Ao];omega⟩
  rw[<-Ao,f]at d;have o:=(l.getD i 0).toNat_lt;show(_,_)=(_,_)
  rw[f,Ol n _ i5 o,ai _];have p:l.take (i+1)=l.take i++[l.getD i 0]:=by rw[getD_lt a];simp
  rw[p,xR,f];rfl
 ·have:i=i0 l:=o6
  subst this;simpa using q
theorem VA(b:Sl)(c:aL)(h:g0)(V:Rd h b 1 az c)(U:i0 c<=2^30)(w:b.len<=b.cap):
  an xP 213 #[b] h λv h'=>(cI c=eH/\v=.tuple #[Gr sO,xJ fz]/\Sp h h' [])∨
   ∃(g:Pg) (r:Sl),cI c=dB g/\v=.tuple #[Gr (g.seq,g.num,g.many,r,b),xJ eX]/\Sp h h' [lm r 1 az g.bears]:=by
 refine ts Tryz.func213 ?_ (.two .n (.two .n (.two (.join [] [(3,4),(17,24)] .n) (.two .n (.two (.two .n (.inn (.loop [(7,aQ),(27,aQ)] [(7,8),(9,10),(27,37)] .n))) (.two .n (.two (.join [] [(3,4),(41,53)] .n) .n)))))));refine(Sp.refl h).alloc aj i4 λu L B=>?_;have B:Sp h L [ac u 288 (cz sO)]:=B;have d:∀{h':g0} {Bs:List HP},Sp h h' (ac u 288 (cz sO)::Bs)->cI c=eH->
   au xP (qG 288 (xH (dB u)) (Gr sO)) h' λ_ p=>∃t:lM,bn p u 0 (cz t)/\((cI c=eH/\Value.tuple #[Gr t,xJ fz]=.tuple #[Gr sO,xJ fz]/\Sp h p [])∨
   ∃(g:Pg) (r:Sl),cI c=dB g/\Value.tuple #[Gr t,xJ fz]=.tuple #[Gr (g.seq,g.num,g.many,r,b),xJ eX]/\Sp h p [lm r 1 az g.bears]):=λ{h' Bs} H' j=>by
  refine H'.storeAll aj 0 i4 i4 (cz sO) i4 i4 i4 i4 λp P=>?_;exact⟨sO,(P.box 0 i4).aF _ i4,.inl ⟨j,i4,.zip P.ae⟩⟩
 refine(Ir b c L (V.up B.ae) U w).mono ?_;rintro _ M ⟨Q0,Q1⟩;cases htc:jw c with
 |none=>
  obtain⟨rfl,I⟩:=Q0 htc;have j:cI c=eH:=by unfold cI;rw[htc]
  exact⟨(0,⟨eH,0,0⟩,fz),i4,aW (aR (λ_=>d (B.up I.ae) j) λe=>j3)⟩
 |some kx=>
  obtain⟨k,x⟩:=kx;obtain⟨r,rfl,I⟩:=Q1 k x htc;have m:Sp h M [ac u 288 (cz sO),af 5 r 1 az x]:=B.comp I;have Q:i0 x=55:=by
   unfold jw at htc;split at htc
   ·rename_i f;injection htc with htc
    injection htc with _ htc
    rw[<-htc];simp;omega
   ·cases htc
  have W:=(m.own 1 i4).len;have y:=(m.own 1 i4).cap;have A:=m.seq 1 i4 λ_=>rfl;refine⟨(k,r,eX),i4,aW (aR (λe=>j3) λ_=>bx (λe=>d m ?_) λo=>?_)⟩
  ·unfold cI;rw[htc];exact hU λf=>e f.1
  try dsimp only
  have o:k=2:=o;have K:6<i0 x:=i5
  have p:4<i0 x:=i5
  have J:5<i0 x:=i5
  refine⟨⟨i6,i5⟩,?_⟩;refine YK (s:=⟨r.ptr,4,r.cap⟩) (l:=x.take 4) (A.take 4 i5) i9 ?_;have T:=(x.getD 6 0).toNat_lt;have u4:=(x.getD 4 0).toNat_lt;have u5:=(x.getD 5 0).toNat_lt;refine A.mE 6 i4 K ((x.getD 6 0).toNat:Int) (by rw[getD_lt K];rfl) λa9 ab=>?_;rw[ai ((x.getD 6 0).toNat:Int),ai (7+((x.getD 6 0).toNat:Int))];refine aW (ag (λe=>d m ?_) λe=>?_)
  ·unfold cI;rw[htc];exact hU λf=>i5
  obtain⟨n,j⟩:∃n:Nat,n=(x.getD 6 0).toNat:=⟨_,rfl⟩
  rw[<-j]at e T⊢;rw[show(7+((n:Nat):Int)).toNat=7+n from by omega];refine⟨⟨i5,i5⟩,?_⟩;refine(EJ ⟨_,r.len-(7+n),r.cap-(7+n)⟩ (x.drop (7+n)) _ i4 M (A.drop (7+n) y) i7 i9).mono ?_;rintro _ _ ⟨⟨z,rfl,X⟩,rfl⟩;have i:(x.drop (7+n)).all (λb=>decide (b=0))=eX↔z.len=0:=by rw[X,qJ];exact⟨λf x G=>ii (f x G),λf x G=>hY (f x G)⟩
  refine⟨z,i4,ag (λZ=>d m ?_) λZ=>?_⟩
  ·unfold cI;rw[htc];exact hU λf=>by
    have:=i.1 (by rw[j];exact f.2.2);omega
  have E:z.len=0:=i5
  refine A.mE 4 i4 p ((x.getD 4 0).toNat:Int) (by rw[getD_lt p];rfl) λY N=>?_;refine A.mE 5 i4 J ((x.getD 5 0).toNat:Int) (by rw[getD_lt J];rfl) λR O=>?_;refine⟨⟨i6,i5,i5⟩,?_⟩;rw[ai ((x.getD 4 0).toNat:Int),ai ((x.getD 5 0).toNat:Int)];refine m.storeAll aj 0 i4 i4 (cz (iX (x.take 4),((x.getD 4 0).toNat:Int),((x.getD 5 0).toNat:Int),⟨if r.cap=7 then r.ptr else r.ptr.map (·.add (7*1)),7+n-7,r.cap-7⟩,b)) i4 i4 i4 i4 λD a=>⟨trivial,?_⟩
  have a:Sp h D [ac u 288 (cz (iX (x.take 4),((x.getD 4 0).toNat:Int),((x.getD 5 0).toNat:Int),⟨if r.cap=7 then r.ptr else r.ptr.map (·.add (7*1)),7+n-7,r.cap-7⟩,b)),af 5 r 1 az x]:=a;refine⟨(iX (x.take 4),((x.getD 4 0).toNat:Int),((x.getD 5 0).toNat:Int),⟨if r.cap=7 then r.ptr else r.ptr.map (·.add (7*1)),7+n-7,r.cap-7⟩,b),(a.box 0 i4).aF _ i4,.inr ⟨Pc x c,⟨if r.cap=7 then r.ptr else r.ptr.map (·.add (7*1)),7+n-7,r.cap-7⟩,?_,i4,?_⟩⟩
  ·unfold cI;rw[htc];exact g9 ⟨o,i5,by rw[<-j];exact i.2 E⟩
  ·have F:=(a.freeze 1 i4 λ_=>rfl).bA [1];refine F.eJ 0 i4 λq H=>?_;have H:Seq _ q r 1 az x:=H;have S:=(H.drop 7 y).take n i9;show Seq _ q _ 1 az ((x.drop 7).take (x.getD 6 0).toNat);rw[<-j,show 7+n-7=n from by omega];exact S
theorem PJ{l:List Pg}{f:Pg}:∀{n k:Nat},jN l f n=eH->n<=k->jN l f k=eH:=by
 intro n k h a
 induction k with
 |zero=>rw[show n=0 from by omega]at h;exact h
 |succ k ih=>
  by_cases e:n=k+1
  ·rw[<-e];exact h
  ·unfold jN;rw[ih i5]
theorem YL:∀x,∀c∈cz x,c.oneCell'=eX:=by intro x c a;simp[cz]at a;rcases a with rfl|rfl|rfl|rfl|rfl<;>rfl
abbrev YM:bG C.toAQ 286 288 5 (cz sO) 72:=⟨_,_,i4,i4,i4,i4,i4,i4⟩
def li(f:lM)(i:Int)(x:lM):Bool:=x.1==f.1&&(x.2.2.1==f.2.2.1&&x.2.1==i)
theorem PK(x f:lM)(i:Int)(a b:f8)(h:g0)(k:bY h a 288 (cz f))(l:bY h b 3 [xF xL i]):
  an xP 282 #[Gr x,xH (dB a),xH (dB b)] h λv h'=>v=xJ (li f i x)/\Sp h h' []:=by
 refine ts Tryz.func282 ?_ (args:=[x,a,b]);refine(Sp.refl h).boxed λn m c=>?_;have d:=k.ae c.ae k.lt;have j:=l.ae c.ae l.lt;refine⟨x.1,(c.box 0 i4).cell0 i4,f.1,d.cell0 i4,cH (λe=>?_) λe=>?_⟩
 ·refine⟨x.2.2.1,(c.box 0 i4).cell i4,f.2.2.1,d.cell i4,cH (λg=>?_) λg=>?_⟩
  ·refine⟨x.2.1,(c.box 0 i4).cell i4,i,j.cell0 i4,?_,.zip c.ae⟩;congr 1;unfold li;rw[e,g];simp
  ·refine⟨?_,.zip c.ae⟩;congr 1;unfold li;simp[g]
 ·refine⟨?_,.zip c.ae⟩;congr 1;unfold li;simp[e]
theorem Ry(l:Sl)(rows:List lM)(f:lM)(i:Int)(a b:f8)(h:g0)(u:Rd h l 5 cz rows)(G:i0 rows<=2^30)(t:bY h a 288 (cz f))(w:bY h b 3 [xF xL i]):
  an xP 281 #[l,.func (.func 282) #[] #[xH (dB a),xH (dB b)]] h λv h'=>v=xF xL (if rows.findIdx (li f i)<i0 rows then(rows.findIdx (li f i):Int)else-1)/\Sp h h' []:=by
 refine ts Tryz.func281 ?_ (.two .n (.two (.two .n (.inn (.loop [(8,aQ)] [(4,6),(8,19)] .n))) .n)) (args:=[l,(.func (.func 282) #[] #[xH (dB a),xH (dB b)])]);have B:=u.len;refine aq (λi:Nat=>(i:Int)) (λk h'=>Sp h h' []/\k<=i0 rows/\∀j (p:j<i0 rows),j<k->li f i rows[j]=fz) (λk=>i0 rows-k) 0 i4 ⟨Sp.refl h,i5,λj _ p=>i5⟩ ?_;rintro k z ⟨m,F,c⟩;refine ag (λe=>?_) (λe=>?_)
 ·have d:k<i0 rows:=by have D:(k:Int)<(l.len:Int):=e;omega
  refine(Seq.up u m.ae).cU (g:=cz) k i4 d rows[k] i4 (dT i4 ?_);refine(PK rows[k] f i a b z (t.ae m.ae t.lt) (w.ae m.ae w.lt)).mono ?_;rintro _ E ⟨rfl,y⟩;refine⟨_,i4,bo (λs=>?_) λs=>?_⟩
  ·rw[uO d c s,g9 d];exact⟨i4,m.up y.ae⟩
  ·refine⟨k+1,j1,⟨m.up y.ae,i5,λj p r=>?_⟩,i5⟩;rcases zd.1 r with h3|rfl
   ·exact c j p h3
   ·exact s
 ·have D:¬(k:Int)<(l.len:Int):=e;have q:¬rows.findIdx (li f i)<i0 rows:=by rw[wq];rintro⟨x,A,o⟩;obtain⟨j,p,rfl⟩:=qB A;rw[c j p i5]at o;cases o
  rw[hU q];exact⟨i4,m⟩
def KA(p:lM×Pg):Prop:=p.1.1=p.2.seq/\p.1.2.1=p.2.num/\p.1.2.2.1=p.2.many
theorem EW{p f:lM×Pg}(a:KA p)(b:KA f)(i:Int):li f.1 i p.1=tK f.2 i p.2:=by unfold li tK;rw[a.1,a.2.1,a.2.2,b.1,b.2.2];rw[Bool.eq_iff_iff];simp
theorem aem{L:List (lM×Pg)}{f:lM×Pg}(d:∀p∈L,KA p)(c:KA f)(i:Int){k:Nat}(b:(L.map qt).findIdx (li f.1 i)=k):
  if a:k<i0 L then(L.map zh).find? (tK f.2 i)=dB L[k].2 else(L.map zh).find? (tK f.2 i)=eH:=by
 split
 ·rename_i a;have l:(L.map qt).findIdx (li f.1 i)<i0 (L.map qt):=by rw[b,qq];exact a
  rw[List.find?_eq_some_iff_getElem];have e:=List.findIdx_getElem (p:=li f.1 i) (xs:=L.map qt) (w:=l);simp only[b,wh]at e;rw[EW (d _ (qf a)) c]at e;refine⟨e,k,k7,jj,λj o=>?_⟩;have h:=List.not_of_lt_findIdx (p:=li f.1 i) (xs:=L.map qt) (i:=j) (by rw[b];exact o);simp only[wh]at h⊢;rw[EW (d _ (qf _)) c]at h;simpa using h
 ·rename_i a;rw[List.find?_eq_none];intro g n;obtain⟨p,m,rfl⟩:=qo.1 n;intro q;apply a;rw[<-b];have:(L.map qt).findIdx (li f.1 i)<i0 (L.map qt):=wq.2 ⟨p.1,qo.2 ⟨p,m,i4⟩,by rw[EW (d p m) c];exact q⟩;simpa using this
theorem RB(l:Sl)(L:List (lM×Pg))(f:lM×Pg)(h:g0)(T:Rd h l 5 cz (L.map qt))(hs:i0 L<=2^30)(S:∀p∈L,KA p)(R:f∈L)(hm:f.2.many<=2^20):
  an xP 214 #[l,Gr f.1] h λv h'=>(kq (L.map zh) f.2=eH/\(∃o:Sl,v=.tuple #[o,xJ fz])/\Sp h h' [])∨
   ∃(o:Sl) (G:List (lM×Pg)),kq (L.map zh) f.2=dB (G.map zh)/\(∀p∈G,p∈L)/\G.length<=2^20+1/\v=.tuple #[o,xJ eX]/\Sp h h' [af 288 o 5 cz (G.map qt)]:=by
 have w:=S f R;have r:f.1.2.2.1=f.2.many:=w.2.2;refine ts Tryz.func214 ?_ (.two .n (.two .n (.two (.two .n (.inn (.loop [(6,cL),(7,(.sc .adr))] [(4,9),(11,30)] .n))) .n))) (args:=[l,f.1]);refine(Sp.refl h).boxed λj h1 F=>?_;have F:Sp h h1 [ac j 288 (cz f.1)]:=F;refine⟨f.1,(F.box 0 i4).aF _ i4,?_⟩;refine F.lit aj cz YM i4 [f.1] i4 (show 1*5<=2^20 by decide) i4 λv3 h2 X=>?_;refine X.alloc aj i4 λa4 h3 I=>?_;have I:Sp h h3 [ac j 288 (cz f.1),af 288 v3 5 cz [f.1],ac a4 3 [xF xL 0]]:=I;refine I.storeAll aj 2 i4 i4 [xF xL 1] i4 i4 i4 i4 λh4 N=>?_;have N:Sp h h4 [ac j 288 (cz f.1),af 288 v3 5 cz [f.1],ac a4 3 [xF xL 1]]:=N;refine aq (λt:Nat×Sl×f8=>(t.2.1,t.2.2)) (λt h'=>∃G:List (lM×Pg),jN (L.map zh) f.2 t.1=dB (G.map zh)/\(∀p∈G,p∈L)/\G.length=t.1+1/\(t.1:Int)<=2^20/\(0<t.1->(t.1:Int)<f.2.many)/\
  Sp h h' [ac j 288 (cz f.1),af 288 t.2.1 5 cz (G.map qt),ac t.2.2 3 [xF xL ((t.1+1:Nat):Int)]]) (λt=>2^20+1-t.1) (0,v3,a4) i4 ⟨[f],i4,λp O=>by rw[qu.1 O];exact R,i4,by show((0:Nat):Int)<=2^20;decide,λy=>absurd y (Nat.lt_irrefl _),N⟩ ?_
 rintro⟨n,o,b⟩ W ⟨G,H,u,J,hn,x,a⟩;dsimp only at H J hn x a⊢;refine⟨((n+1:Nat):Int),(a.box 2 i4).cell0 i4,f.1.2.2.1,(a.box 0 i4).cell i4,ag (λe=>?_) λe=>?_⟩
 ·rw[r]at e;refine(Ry l (L.map qt) f.1 ((n+1:Nat):Int) j b W (Seq.up T a.ae) (by simpa using hs) (a.box 0 i4) (a.box 2 i4)).mono ?_;rintro _ h6 ⟨rfl,Z⟩;have Q:=a.up Z.ae;obtain⟨k,V⟩:∃k,(L.map qt).findIdx (li f.1 ((n+1:Nat):Int))=k:=⟨_,rfl⟩
  have i:=aem S w ((n+1:Nat):Int) V;rw[V];refine⟨_,i4,ag (λA=>?_) λA=>?_⟩
  ·have P:¬k<i0 L:=λy=>by
    rw[g9 q0]at A;have A:(k:Int)<0:=A;omega
   rw[dif_neg P]at i;refine .inl ⟨?_,⟨⟨eH,0,0⟩,i4⟩,.zip Q.ae⟩;unfold kq;rw[hU i5];refine PJ (n:=n+1) ?_ i5;unfold jN;rw[H];(try dsimp only);rw[i]
  ·have d:k<i0 L:=by refine Decidable.byContradiction λy=>A ?_;rw[hU q0];decide
   rw[dif_pos d]at i;rw[g9 (show k<i0 (L.map qt) by simpa using d)];refine(Seq.up T Q.ae).cU (g:=cz) k i4 m8 L[k].1 jj ?_;refine Q.lit aj cz YM i4 [L[k].1] i4 (show 1*5<=2^20 by decide) i4 λq h7 E=>?_;have E:=E.be;refine E.append aj 2 i4 YM ⟨_,_,i4,i4⟩ i4 i6 (λ_=>rfl) (E.seq 0 i4 λ_=>rfl) YL i9 λc h8 D=>?_;have D:Sp h h8 [af 288 q 5 cz [L[k].1],ac j 288 (cz f.1),af 288 c 5 cz (G.map qt++[L[k].1]),ac b 3 [xF xL ((n+1:Nat):Int)]]:=D;refine⟨_,(D.box 3 i4).cell0 i4,?_⟩;refine D.alloc aj i4 λs h9 K=>?_;have K:Sp h h9 [af 288 q 5 cz [L[k].1],ac j 288 (cz f.1),af 288 c 5 cz (G.map qt++[L[k].1]),ac b 3 [xF xL ((n+1:Nat):Int)],ac s 3 [xF xL 0]]:=K;refine K.storeAll aj 4 i4 i4 [xF xL ((n+1:Nat):Int)] i4 i4 i4 i4 λY B=>?_;refine⟨_,(B.box 4 i4).cell0 i4,?_⟩
   try dsimp only
   rw[ai _];refine B.storeAll aj 4 i4 i4 [xF xL (((n+1:Nat):Int)+1)] i4 i4 i4 i4 λM m=>?_;have m:Sp h M [af 288 q 5 cz [L[k].1],ac j 288 (cz f.1),af 288 c 5 cz (G.map qt++[L[k].1]),ac b 3 [xF xL ((n+1:Nat):Int)],ac s 3 [xF xL (((n+1:Nat):Int)+1)]]:=m;refine⟨(n+1,c,s),i4,⟨G++[L[k]],?_,?_,i9,i7,λ_=>i7,?_⟩,i7⟩
   ·try dsimp only
    unfold jN;rw[H];(try dsimp only);rw[i];simp
   ·intro p O;rcases qz.1 O with h|h
    ·exact u p h
    ·rw[qu.1 h];exact qf d
   ·have:=m.bA [1,2,4];simpa using this
 ·rw[r]at e;refine⟨f.1.2.2.1,(a.box 0 i4).cell i4,?_⟩;rw[r];by_cases U:f.2.many>0
  ·have e4:f.2.many.toNat-1=n:=by
    by_cases z:0<n
    ·have:=x z;omega
    ·omega
   refine .inr ⟨o,G,?_,u,i5,?_,a.bA [1]⟩
   ·unfold kq;rw[hU i5,e4];exact H
   ·rw[hY U]
  ·refine .inl ⟨?_,⟨o,?_⟩,.zip a.ae⟩
   ·unfold kq;rw[g9 i5]
   ·rw[hZ U]
theorem RC(c:Sl)(x:lM)(d b:aL)(h:g0)(f:Rd h c 1 az d)(e:Rd h x.2.2.2.2 1 az b):
  an xP 285 #[c,Gr x] h λv h'=>v=xJ (decide (d=b))/\Sp h h' []:=by
 refine ts Tryz.func285 ?_ (args:=[c,x]);refine(Sp.refl h).boxed λi g a=>?_;refine⟨x.2.2.2.2,(a.box 0 i4).cell i4,(jY c x.2.2.2.2 d b g (Seq.up f a.ae) (Seq.up e a.ae)).mono ?_⟩;rintro _ _ ⟨rfl,rfl⟩;exact⟨_,i4,i4,.zip a.ae⟩
theorem RD(s l:Sl)(b:bP)(G:List (lM×Pg))(h:g0)(o:eT h s 1 az b)(D:Rd h l 5 cz (G.map qt))(M:∀p∈G,Rd h p.1.2.2.2.2 1 az p.2.cell)(N:i0 G<=2^30):
  an xP 284 #[s,l,.func (.func 285) #[] #[]] h λv h'=>v=xJ (decide (b=G.map λp=>p.2.cell))/\Sp h h' []:=by
 refine ts Tryz.func284 ?_ (.two .n (.two .n (.two (.two .n (.inn (.loop [(17,aQ)] [(6,10),(17,32)] .n))) .n))) (args:=[s,l,(.func (.func 285) #[] #[])]);obtain⟨rs,o⟩:=o;have J:=o.GB;have y:=D.len;simp only[qq]at y;refine bx (λe=>?_) (λe=>?_)
 ·refine⟨?_,Sp.refl h⟩;rw[hZ];intro z;have:=congrArg List.length z;simp only[qq]at this;omega
 have F:i0 b=i0 G:=i5
 refine aq (λi:Nat=>(i:Int)) (λk h'=>Sp h h' []/\k<=i0 b/\∀j (x:j<i0 b),j<k->b[j]=(G[j]'(by omega)).2.cell) (λk=>i0 b-k) 0 i4 ⟨Sp.refl h,i5,λj _ x=>i5⟩ ?_;rintro k J ⟨q,P,m⟩;refine ag (λe=>?_) (λe=>?_)
 ·have d:k<i0 b:=by have L:(k:Int)<(s.len:Int):=e;omega
  have c:k<i0 G:=i5
  refine(fA.up o q.ae).TL k i4 d λa r _ O A=>?_;refine(Seq.up D q.ae).cU (g:=cz) k i4 m4 G[k].1 jj ?_;refine q.alloc aj i4 λI y u=>?_;have u:Sp h y [ac I 288 (cz sO)]:=u;refine u.storeAll aj 0 i4 i4 (cz G[k].1) i4 i4 i4 i4 λh3 f=>?_;have f:Sp h h3 [ac I 288 (cz G[k].1)]:=f;refine⟨G[k].1,(f.box 0 i4).aF _ i4,dT i4 ?_⟩;have t:Rd h3 r 1 az b[k]:=Seq.up (o.row k r b[k] A (qc d)) f.ae;refine(RC r G[k].1 b[k] G[k].2.cell h3 t (Seq.up (M _ (qf c)) f.ae)).mono ?_;rintro _ H ⟨rfl,K⟩;have E:Sp h H []:=.zip (f.up K.ae).ae;refine⟨_,i4,aR (λB=>?_) λB=>?_⟩
  ·refine⟨?_,E⟩;rw[hZ];intro z;refine of_decide_eq_false B ?_;have:b[k]?=(G.map λp=>p.2.cell)[k]?:=by rw[z]
   simpa[d,c]using this
  ·refine⟨k+1,j1,⟨E,i5,λj x w=>?_⟩,i5⟩;rcases zd.1 w with h3|rfl
   ·exact m j x h3
   ·exact ii B
 ·have L:¬(k:Int)<(s.len:Int):=e;refine⟨?_,q⟩;rw[hY];refine List.ext_getElem i9 λj h3 H=>?_;rw[m j h3 i5];simp
structure ahw (h:g0) (p:lM×Pg):Prop where
 bears:Rd h p.1.2.2.2.1 1 az p.2.bears
 cell:Rd h p.1.2.2.2.2 1 az p.2.cell
 len:i0 p.2.bears<=48
theorem YN{s:List Pg}(h:ky (s.flatMap Pg.bears)=eH):mj s=eH:=by unfold mj;rw[h]
theorem VB{s:List Pg}{m:av}(h:ky (s.flatMap Pg.bears)=dB m):mj s=if aM m=s.map Pg.cell then dB m else eH:=by unfold mj;rw[h]
abbrev ia:av:=⟨0,0,(0,0,0),0,[],[]⟩
theorem aa.cy{B:aw}{a h:g0}{As:List HP}(H:aa B a h As):aa B a h (bh cy ia::As):=
 aa.LQ ⟨i4,i4,i4,i4⟩ ((((H.ua 88 4 bc fp).be).nil 3 1 ak).be)
theorem abz:cF ia:=⟨i6,i6,λ_ a=>absurd a yw⟩
theorem YO{G:List (lM×Pg)}(a:∀p∈G,i0 p.2.bears<=48):∀i,i0 ((G.take i).flatMap λp=>p.2.bears)<=48*i:=by
 intro i
 induction i with
 |zero=>simp
 |succ i ih=>
  by_cases h:i<i0 G
  ·rw[aD _ _ h,qY,qw];have:=a _ (qf h);simp only[List.flatMap_cons,List.flatMap_nil,qE];omega
  ·rw[qg i5]at ih⊢;omega
theorem RE(l:Sl)(G:List (lM×Pg))(h:g0)(F:Rd h l 5 cz (G.map qt))(O:∀p∈G,ahw h p)(hn:i0 G<=2^21):
  an xP 215 #[l] h λv h'=>∃(m:av) (x:bm) (ok:Bool),v=.tuple #[dz x,xJ ok]/\Sp h h' [bh x m]/\cF m/\mj (G.map zh)=if ok then dB m else eH:=by
 refine ts Tryz.func215 ?_ (.two .n (.two .n (.two (.two .n (.inn (.loop [(4,cL),(12,aQ)] [(4,5),(6,7),(12,21)] .n))) .n)));have J:=F.len;simp only[qq]at J;have K:=YO λp f=>(O p f).len;refine(Sp.refl h).alloc aj i4 λb W L=>?_;have L:Sp h W [ac b 39 (aA cy),af 5 ⟨eH,0,0⟩ 1 az []]:=L.nil 5 1 az;refine aq (λt:Nat×Sl=>(t.2,(t.1:Int))) (λt h'=>t.1<=i0 G/\Sp h h' [ac b 39 (aA cy),af 5 t.2 1 az ((G.take t.1).flatMap λp=>p.2.bears)]) (λt=>i0 G-t.1) (0,⟨eH,0,0⟩) i4 ⟨zi _,L⟩ ?_;rintro⟨i,o⟩ X ⟨U,c⟩;dsimp only at U c⊢;have u:=K i;refine ag (λe=>?_) λe=>?_
 ·have a:i<i0 G:=i5
  refine(Seq.up F c.ae).cU (g:=cz) i i4 k7 G[i].1 jj ?_;refine c.alloc aj i4 λa5 h3 E=>?_;have E:Sp h h3 [ac b 39 (aA cy),af 5 o 1 az ((G.take i).flatMap λp=>p.2.bears),ac a5 288 (cz sO)]:=E;refine E.storeAll aj 2 i4 i4 (cz G[i].1) i4 i4 i4 i4 λZ A=>?_;have A:Sp h Z [ac b 39 (aA cy),af 5 o 1 az ((G.take i).flatMap λp=>p.2.bears),ac a5 288 (cz G[i].1)]:=A;have P:=O _ (qf a);refine⟨G[i].1.2.2.2.1,(A.box 2 i4).cell i4,?_⟩;refine A.append aj 1 i4 gz ⟨_,_,i4,i4⟩ i4 i6 (λ_=>rfl) (Seq.up P.bears A.ae) gU (by have:=P.len;omega) λR T H=>?_;refine⟨(i+1,R),j1,⟨a,?_⟩,i7⟩;have H:Sp h T [ac b 39 (aA cy),af 5 R 1 az (((G.take i).flatMap λp=>p.2.bears)++G[i].2.bears),ac a5 288 (cz G[i].1)]:=H;have:=H.bA [0,1]
  try dsimp only
  rw[aD _ _ a,qY];simpa using this
 ·have a:i=i0 G:=i5
  subst a;rw[qN]at c u;obtain⟨d,r⟩:∃d,d=(G.map zh).flatMap Pg.bears:=⟨_,rfl⟩
  rw[show(G.flatMap λp=>p.2.bears)=d from by rw[r,List.flatMap_map]]at c u;refine(Vz o d X (c.seq 1 i4 λ_=>rfl) (c.own 1 i4).cap).mono ?_;rintro _ V (⟨f,rfl,R6⟩|⟨m,x,f,rfl,R6⟩)
  ·refine⟨(cy,fz),i4,?_⟩;have M:=c.up R6.ae;refine M.alloc aj i4 λa9 I k=>?_;have k:Sp h I [ac b 39 (aA cy),af 5 o 1 az d,ac a9 39 (aA cy)]:=k;refine k.storeAll aj 2 i4 i4 (aA cy) i4 i4 i4 i4 λh8 j=>?_;refine aR (λ_=>?_) λe=>j3
   refine j.storeAll aj 0 i4 i4 (aA cy) i4 i4 i4 i4 λh9 Q=>?_;refine⟨cy,(Q.box 0 i4).aF _ i4,ia,cy,fz,i4,(Qw.aa.cy Q).bA [0],abz,?_⟩;exact YN (by rw[<-r];exact f)
  ·refine⟨(x,eX),i4,?_⟩;have S:cF m:=iC (BR.1 f).1;have M:Sp h V [ac b 39 (aA cy),af 5 o 1 az d,bh x m]:=c.comp R6;refine M.alloc aj i4 λa9 I k=>?_;have k:Sp h I [ac b 39 (aA cy),af 5 o 1 az d,bh x m,ac a9 39 (aA cy)]:=k;refine k.storeAll aj 3 i4 i4 (aA x) i4 i4 i4 i4 λh8 j=>?_;have j:Sp h h8 [ac b 39 (aA cy),af 5 o 1 az d,bh x m,ac a9 39 (aA x)]:=j;refine aR (λe=>j3) λ_=>?_;refine⟨x,(j.box 3 i4).aF _ i4,(lT x m h8 (j.at 2 i4) S).mono ?_⟩;rintro _ y ⟨q,rfl,B⟩;have s:Sp h y [ac b 39 (aA cy),af 5 o 1 az d,bh x m,ac a9 39 (aA x),dI q (aM m)]:=j.comp B;refine⟨q,i4,(RD q l (aM m) G y (aa.rP B λ_=>rfl) (Seq.up F s.ae) (λp f=>Seq.up (O p f).cell s.ae) i5).mono ?_⟩;rintro _ Y ⟨rfl,N⟩;have w:=s.up N.ae;refine⟨_,i4,x,(w.box 3 i4).aF _ i4,?_⟩;refine w.storeAll aj 0 i4 i4 (aA x) i4 i4 i4 i4 λab z=>?_;refine⟨x,(z.box 0 i4).aF _ i4,m,x,_,i4,z.bA [2],S,?_⟩;rw[VB (by rw[<-r];exact f),List.map_map];show(if aM m=G.map (λp=>p.2.cell)then dB m else eH)=_;by_cases D:aM m=G.map λp=>p.2.cell
   ·rw[g9 D,hY D];rfl
   ·rw[hU D,hZ D];rfl
theorem Td(x c:aL)(a:(x.getD 6 0).toNat<=48):(Pc x c).bears.length<=48/\(Pc x c).many<=255:=
 ⟨by show((x.drop 7).take _).length<=48;rw[qR];omega,by show((x.getD 5 0).toNat:Int)<=255;have:=(x.getD 5 0).toNat_lt;omega⟩
theorem YP{c:aL}{g:Pg}(h:cI c=dB g):i0 g.bears<=48/\g.many<=255/\g.cell=c:=by
 refine⟨?_,?_,Gk h⟩
 all_goals
  unfold cI at h;split at h
  ·split at h
   ·rename_i a;injection h with h
    rw[<-h]
    first
     |exact(Td _ _ a.2.1).1
     |exact(Td _ _ a.2.1).2
   ·cases h
  ·cases h
structure VC (ll:bP) (rs:List Sl) (pool:List (Sl×aL)) (p:lM×Pg):Prop where
 ok:KA p
 bears:(p.1.2.2.2.1,p.2.bears)∈pool
 len:i0 p.2.bears<=48
 many:p.2.many<=255
 cell:∃k:Nat,rs[k]?=dB p.1.2.2.2.2/\ll[k]?=dB p.2.cell
theorem VC.more{b:bP}{rs:List Sl}{pool:List (Sl×aL)}{p:lM×Pg}(a:VC b rs pool p)(y:Sl×aL):VC b rs (y::pool) p:=⟨a.ok,List.mem_cons_of_mem _ a.bears,a.len,a.many,a.cell⟩
def fM:iK bm av:=⟨λh q x m=>pv h q x m,λa c=>a.ae c,λa b=>a.mono b⟩
theorem aen:∀x,∀c∈aA x,c.oneCell'=eX:=by intro x c a;simp[aA]at a;rcases a with rfl|rfl|rfl|rfl|rfl|rfl|rfl|rfl<;>rfl
abbrev ahx:bG C.toAQ 156 39 8 (aA cy) 96:=⟨_,_,i4,i4,i4,i4,i4,i4⟩
theorem acY:Tryz.prog.underlying 291=dB (.map 9 4):=j4
theorem acZ:Tryz.prog.underlying 9=dB .string:=j4
theorem YQ:aH xP (zeroValue 4) (xJ fz):=by
 have h:(Tryz.prog.info? 4).bind (·.zero)=dB (xJ fz):=j4
 cases hf:Tryz.prog.info? 4 with
 |none=>rw[hf]at h;cases h
 |some f=>
  rw[hf]at h;refine(dc hf).bind ?_;rw[show f.zero=dB (xJ fz)from h];exact .pure
def md(m:av):ByteArray×Bool:=(⟨(bK m).toArray⟩,eX)
theorem YR{a b:aL}(h:(⟨a.toArray⟩:ByteArray)=⟨b.toArray⟩):a=b:=by injection h with h;exact List.toArray_inj h
theorem abA(m:av)(out:List av)(h:(out.any λy=>decide (bK y=bK m))=fz):kg ⟨(bK m).toArray⟩ (out.map md)=eH:=by rw[Im];intro q a b;obtain⟨y,c,rfl⟩:=qo.1 a;rw[wo]at h;exact h y c (hY (YR b))
theorem KB(m:av):∀out:List av,(kg ⟨(bK m).toArray⟩ (out.map md)).getD fz=out.any λy=>decide (bK y=bK m)
 |[]=>rfl
 |y::t=>by
  rw[List.map_cons,List.any_cons];unfold md kg;by_cases e:bK y=bK m
  ·rw[g9 (by rw[e]),hY e];rfl
  ·rw[hU λa=>e (YR a),hZ e,Bool.false_or];exact KB m t
section
variable {d:List bm}
def abB(a b:bm):Int:=iu b.1 a.1
def kI(a b:bm):Bool:=decide (b.1<=a.1)
theorem PL(a b:bm):abB a b<0↔¬kI b a=eX:=by
 unfold abB kI iu;by_cases h:b.1<a.1
 ·rw[g9 h];simp;omega
 ·rw[hU h];split<;>simp<;>omega
theorem EX:Ord kI:=⟨λa b c d e=>hY (by have:=ii d;have:=ii e;omega),λa b=>by
 unfold kI;rw[Bool.or_eq_true,decide_eq_true_eq,decide_eq_true_eq];omega⟩
abbrev uQ(s:Sl)(d:List bm):HP:=af 39 s 8 aA d
theorem VD(a b:bm)(h:g0):an xP 217 #[dz a,dz b] h λv h'=>v=xF xL (abB a b)/\Sp h h' []:=by refine ts Tryz.func217 ?_ (args:=[a,b]);refine(Sp.refl h).boxed λf g e=>e.boxed λa2 d c=>?_;have c:Sp h d [ac f 39 (aA a),ac a2 39 (aA b)]:=c;refine⟨b.1,(c.box 1 i4).cell0 i4,a.1,(c.box 0 i4).cell0 i4,(oc b.1 a.1 d).mono ?_⟩;rintro _ _ ⟨rfl,rfl⟩;exact⟨_,i4,i4,.zip c.ae⟩
theorem RF{b d:List bm}{y:bm}(c:Sd kI (b++d))(f:∀z∈b,kI z y=eX)(g:∀z∈d,¬kI z y=eX):Sd kI (b++y::d):=
 Sd.app EX c.left (zK.2 ⟨λz a=>EX.AV (g z a),c.right⟩) λx e z a=>by
  rcases qX.1 a with rfl|a
  ·exact f x e
  ·exact c.wi x e z a
theorem Jo(X M Y:List bm)(a b:Int)(ha:a=(i0 X:Int))(hb:b=(i0 X+i0 M:Nat))(ad:i0 X+i0 M+i0 Y<=2^40)(H:aa B h0 h (uQ s (X++(M++Y))::As)):
  an xP 326 #[s,xF xL a,xF xL b,.func (.func 217) #[] #[]] h λv h'=>v=.tuple #[]/\∃M',Sd kI M'/\co kI M M'/\aa B h0 h' (uQ s (X++(M'++Y))::As):=by
 refine ts Tryz.func326 ?_ (.two .n (.inn (.loop [(8,aQ)] [(8,10),(12,53)] (.two .n (.two (.inn (.two .n (.inn (.loop [(9,aQ)] [(9,10),(18,53)] (.two (.join [] [(18,35)] .n) .n))))) .n))))) (args:=[s,(a:Int),(b:Int),(.func (.func 217) #[] #[])]);subst ha;subst hb;rw[ai ((i0 X:Int)+1)];refine aq (λt:Nat×List bm=>((i0 X+1+t.1:Nat):Int)) (λt h'=>(t.1+1<=i0 M∨t.1=0)/\Sd kI t.2/\co kI (M.take (t.1+1)) t.2/\t.2.length=i0 (M.take (t.1+1))/\aa B h0 h' (uQ s (X++(t.2++(M.drop (t.1+1)++Y)))::As)) (λt=>i0 M-t.1) (0,M.take 1) i4 ?_ ?_
 ·refine⟨.inr i4,?_,co.refl _,i4,?_⟩
  ·cases M with
   |nil=>exact List.Pairwise.nil
   |cons x M=>exact zK.2 ⟨λ_ h=>mn,jj⟩
  ·rw[<-qn (M.take (0+1)),qC];exact H
 rintro⟨t,P⟩ h1 ⟨ht,A,E,W,V⟩;dsimp only at*;refine ag (λe=>?_) (λe=>?_)
 ·have J:t+1<i0 M:=i5
  obtain⟨y,hy⟩:∃y,y=M[t+1]:=⟨_,rfl⟩
  have K:i0 P=t+1:=by rw[W];simp;omega
  have eD:M.drop (t+1)=y::M.drop (t+1+1):=by rw[qK J,hy]
  rw[eD]at V;refine aq (λu:List bm×List bm=>((i0 X+i0 u.1:Nat):Int)) (λu h'=>u.1++u.2=P/\(∀z∈u.2,¬kI z y=eX)/\aa B h0 h' (uQ s (X++(u.1++(y::(u.2++(M.drop (t+1+1)++Y)))))::As)) (λu=>i0 u.1) (P,[]) (by dsimp only;rw[K];congr 1;omega) ⟨jj,jj,by simpa using V⟩ ?_;rintro⟨c,d⟩ h2 ⟨L,k,I⟩;dsimp only at*;have ah:i0 c+i0 d=t+1:=by rw[<-K,<-L,qw]
  have f:∀{h':g0},(∀z∈c,kI z y=eX)->aa B h0 h' (uQ s (X++(c++(y::(d++(M.drop (t+1+1)++Y)))))::As)->
    ∃l:Nat×List bm,qe xL (((i0 X+1+t:Nat):Int)+1)=((i0 X+1+l.1:Nat):Int)/\((l.1+1<=i0 M∨l.1=0)/\Sd kI l.2/\co kI (M.take (l.1+1)) l.2/\l.2.length=i0 (M.take (l.1+1))/\aa B h0 h' (uQ s (X++(l.2++(M.drop (l.1+1)++Y)))::As))/\M.length-l.1<i0 M-t:=λ{h'} hle H'=>by
   refine⟨(t+1,c++y::d),by dsimp only;rw[ai _];omega,⟨.inl i7,?_,?_,?_,?_⟩,i7⟩
   ·exact RF oj hle k
   ·try dsimp only
    rw[aD M (t+1) J,<-hy];have h1:co kI (M.take (t+1)++[y]) (P++[y]):=E.app (co.refl _);refine h1.trans ?_;rw[<-L,qn];have h2:co kI (d++[y]) ([y]++d):=co.Su EX λx hx z R=>by rw[qu.1 R];exact k x hx
    exact(co.refl _).app h2
   ·(try dsimp only);simp;omega
   ·try dsimp only
    have:X++((c++y::d)++(M.drop (t+1+1)++Y))=X++(c++(y::(d++(M.drop (t+1+1)++Y)))):=jj
    rw[this];exact H'
  obtain⟨D,T⟩:∃D,D=X++(c++(y::(d++(M.drop (t+1+1)++Y)))):=⟨_,rfl⟩
  refine bL (λ_ h'=>∃(Q:List bm) (z:bm),c=Q++[z]/\¬kI z y=eX/\aa B h0 h' (uQ s D::As)) ?_ ?_
  ·rw[<-T]at I f;refine ag (λO=>?_) (λO=>⟨trivial,f (λz R=>?_) I⟩)
   ·have N:c≠[]:=λh=>by rw[h]at O;simp at O
    obtain⟨Q,z,p⟩:∃(Q:List bm) (z:bm),c=Q++[z]:=⟨c.dropLast,c.getLast N,(yL N).symm⟩
    have ab:i0 c=i0 Q+1:=qs
    have g1:D[i0 X+i0 c]?=dB y:=by rw[T,qh i5,show X.length+i0 c-i0 X=i0 c by omega,qh i5,qW];rfl
    have g2:D[i0 X+i0 c-1]?=dB z:=by rw[T,qh i5,show X.length+i0 c-1-i0 X=i0 Q by omega,p,qn,qh (ql _),qW];rfl
    obtain⟨S,F⟩:=qk.1 g1;obtain⟨U,r⟩:=qk.1 g2;refine(I.seq 0 i4 λ_=>rfl).cU (g:=aA) _ i4 S y tp ?_;have ej:qe xL (((i0 X+i0 c:Nat):Int)-1)=((i0 X+i0 c-1:Nat):Int):=j6
    rw[ej];refine(I.seq 0 i4 λ_=>rfl).cU (g:=aA) _ i4 U z q6 (dT lb ?_);refine(VD y z h2).mono ?_;rintro _ h3 ⟨rfl,R3⟩;have G:=I.up R3.ae;refine⟨_,i4,trivial,ag (λZ=>⟨Q,z,p,(PL y z).1 Z,G⟩) λZ=>f (λw m=>?_) G⟩;have o:kI z y=eX:=by
     by_cases hc:kI z y=eX
     ·exact hc
     ·exact absurd ((PL y z).2 hc) Z
    rw[p]at m;rcases qz.1 m with m|m
    ·refine EX.trans _ _ _ ?_ o;have:Sd kI (Q++[z]):=by rw[<-p];exact Sd.left (v:=d) oj
     exact this.wi w m z jj
    ·rw[qu.1 m];exact o
   ·have:c=[]:=by
     cases c with
     |nil=>rfl
     |cons x P=>exfalso;simp only[ze]at O;omega
    rw[this]at R;cases R
  ·rintro _ h3 ⟨Q,z,p,o,G⟩;have ab:i0 c=i0 Q+1:=qs
   have q:D=(X++Q)++z::([]++y::(d++(M.drop (t+1+1)++Y))):=by rw[T,p];simp
   obtain⟨q1,q2,q3,q4⟩:=Kj (X++Q) [] (d++(M.drop (t+1+1)++Y)) z y (i:=i0 X+i0 c-1) (j:=i0 X+i0 c) i9 i9;rw[<-q]at q1 q2 q3 q4;obtain⟨U,r⟩:=qk.1 q1;obtain⟨S,F⟩:=qk.1 q2;have ej:qe xL (((i0 X+i0 c:Nat):Int)-1)=((i0 X+i0 c-1:Nat):Int):=j6
   rw[ej];refine(G.seq 0 i4 λ_=>rfl).cU (g:=aA) _ i4 U z q6 ?_;refine(G.seq 0 i4 λ_=>rfl).cU (g:=aA) _ i4 S y tp ?_;refine G.set aj 0 i4 (λ_=>rfl) i4 (i0 X+i0 c) i4 S z i4 i4 i4 λh4 H4=>⟨trivial,?_⟩
   refine H4.set aj 0 i4 (λ_=>rfl) i4 (i0 X+i0 c-1) i4 (by simpa using U) y i4 i4 i4 λh5 H5=>⟨trivial,?_⟩
   refine⟨(Q,z::d),l6,⟨by dsimp only;rw[<-L,p];simp,?_,?_⟩,i7⟩
   ·try dsimp only
    intro w m;rcases qX.1 m with rfl|m
    ·exact o
    ·exact k w m
   ·try dsimp only
    have:X++(Q++(y::(z::d++(M.drop (t+1+1)++Y))))=(X++Q)++y::([]++z::(d++(M.drop (t+1+1)++Y))):=jj
    rw[this,<-q4];exact H5
 ·refine⟨i4,P,A,?_,?_⟩
  ·rw[qg i5]at E;exact E
  ·rw[List.drop_of_length_le i5]at V;simpa using V
end
theorem PM(d:List bm)(n:Int)(i:n=i0 d)(j:i0 d<20)(H:aa B h0 h (uQ s d::As)):
  an xP 286 #[s,xF xL n,.func (.func 217) #[] #[]] h λv h'=>v=.tuple #[]/\∃a,Sd kI a/\co kI d a/\aa B h0 h' (uQ s a::As):=by
 refine ts Tryz.func286 ?_ (.two .n (.two .n (.two (.inn (.loop [(7,aQ),(8,aQ)] [(7,9),(11,23)] .n)) (.two .n (.inn (.loop [(6,aQ)] [(6,10),(28,63)] (.two .n (.inn (.two .n (.two (.inn (.loop [(7,aQ),(8,aQ)] [(7,9),(33,49)] .n)) .n)))))))))) (args:=[s,(n:Int),(.func (.func 217) #[] #[])]);refine aq (λ_:Unit=>((0:Int),(20:Int))) (λ_ h'=>h'=h) (λ_=>0) () i4 i4 ?_;rintro _ _ rfl;refine ag (λe=>by have e:(20:Int)<=n:=e;omega) λ_=>?_;refine(Jo [] d [] 0 n i4 (by simp[i]) i9 l0).mono ?_;rintro _ b ⟨rfl,a,g,f,c⟩;refine⟨(),i4,?_⟩;refine aq (λ_:Unit=>(20:Int)) (λ_ h'=>h'=b) (λ_=>0) () i4 i4 ?_;rintro _ _ rfl;refine ag (λe=>by have e:(20:Int)<n:=e;omega) λ_=>?_;exact⟨i4,a,g,f,m4⟩
theorem Ht(d:List bm)(b:i0 d<20)(H:aa B h0 h (uQ s d::As)):
  an xP 216 #[s,.func (.func 217) #[] #[]] h λv h'=>v=.tuple #[]/\∃a,Sd kI a/\co kI d a/\aa B h0 h' (uQ s a::As):=by
 refine ts Tryz.func216 ?_ (args:=[s,(.func (.func 217) #[] #[])]);have c:=(H.own 0 i4).len;refine(PM d _ (by rw[c]) b H).mono ?_;rintro _ e ⟨rfl,R⟩;exact⟨(),i4,i4,R⟩
variable {α β:Type} {E:iK α β} {e:Nat} {ll:List β}
section
variable {k:Nat} {f:α->aT}
def pF(E:iK α β)(ps:List (α×β)):HP:=⟨λh q=>∀p∈ps,E.p h q p.1 p.2,λa c p h=>E.loc (a p h) c,λa b p h=>E.mono (a p h) b⟩
theorem aa.ada(H:aa B h0 h (bp e s k f E ll::As)):∃ps:List (α×β),ps.map zh=ll/\aa B h0 h (pF E ps::af e s k f (ps.map qt)::As):=by
 have u:aa B h0 h (HP.ex (λps:List (α×β)=>((af e s k f (ps.map qt)).sep (pF E ps)).and (ps.map zh=ll))::As):=by
  refine H.eJ 0 i4 λq ⟨rs,t,a,b,c,d,w⟩=>⟨rs.zip ll,?_⟩
  have n:(rs.zip ll).map qt=rs:=List.map_fst_zip i5;have r:(rs.zip ll).map zh=ll:=List.map_snd_zip i5;refine⟨⟨λb=>s.on b,t,λx g v=>(b x g).2 v,λx g=>(b x g).1,c,?_,?_⟩,r⟩
  ·rw[n];exact⟨a,λ_ g=>g⟩
  ·intro p o;obtain⟨i,l,rfl⟩:=qB o;rw[List.length_zip]at l;rw[List.getElem_zip];exact w i _ _ (qc i5) (qc i5)
 obtain⟨ps,j⟩:=u.oW;obtain⟨j,m⟩:=j.oX;exact⟨ps,m,j.mg⟩
theorem aa.ago{ps a:List (α×β)}(t:∀p∈a,p∈ps)(H:aa B h0 h (pF E ps::af e s k f (a.map qt)::As)):aa B h0 h (bp e s k f E (a.map zh)::As):=by
 have u:aa B h0 h ((af e s k f (a.map qt)).sep (pF E ps)::As):=H.jd;refine u.eJ 0 i4 λq ⟨z,n,o,b,c,d,w⟩=>?_;refine⟨a.map qt,n,d.1,λx m=>⟨b x (d.2 x m),λv=>o x (d.2 x m) v⟩,c,jj,λi r l g j=>?_⟩;rw[qP]at g j;cases h3:a[i]? with
 |none=>rw[h3]at g;cases g
 |some y=>
  rw[h3]at g j;injection g with g;injection j with j
  subst g j;exact w y (t y (zY h3))
end
theorem VE(l:List av)(w:i0 l<20)(H:aa B h0 h (bp 39 s 8 aA fM l::As)):
  an xP 216 #[s,.func (.func 217) #[] #[]] h λv h'=>v=.tuple #[]/\aa B h0 h' (bp 39 s 8 aA fM (l.mergeSort IW)::As):=by
 obtain⟨ps,f,i⟩:=Qw.aa.ada H;have n:i0 ps=i0 l:=by rw[<-f,qq]
 have g:∀p∈ps,p.1.1=p.2.seq:=λp d=>(i.at 0 i4 p d).seq;refine(Ht (ps.map qt) i9 i.gV).mono ?_;rintro _ x ⟨rfl,j,u,t,R⟩;refine⟨i4,?_⟩;have m:j=(ps.map qt).mergeSort kI:=ME EX u t;obtain⟨e,c⟩:∃e,e=ps.mergeSort λa b=>kI a.1 b.1:=⟨_,rfl⟩
 have r:e.map qt=j:=by rw[c,m];exact yV λ_ _ _ _=>rfl
 have q:e.map zh=l.mergeSort IW:=by rw[c,<-f];refine yV λa k b o=>?_;unfold kI IW;rw[g a k,g b o]
 rw[<-q];refine Qw.aa.ago (ps:=ps) (λp d=>?_) (by rw[r];exact R.gV);rw[c]at d;exact wC.1 d
theorem VF(l:Sl)(w:bP)(rs:List Sl)(h:g0)(hl:fA h (λb=>b<h.size) l 1 az w rs)(hn:i0 w<=2^20)(hc:∀c∈w,i0 c<=2^20)(al:∀r∈rs,r.len<=r.cap)(ap:i0 (gf w)<20):
  an xP 146 #[l] h λv h'=>∃r:Sl,v=r/\(∀m∈gf w,cF m)/\Sp h h' [bp 39 r 8 aA fM (gf w)]:=by
 refine ts Tryz.func146 ?_ (.two .n (.two .n (.two (.two .n (.inn (.loop [(3,cL),(18,aQ)] [(3,4),(5,8),(18,33)] .n))) (.two .n (.two .n (.two (.two .n (.inn (.loop [(8,cL),(36,aQ)] [(8,9),(11,16),(36,73)] (.two .n (.two .n (.two (.inn (.two .n (.two .n (.two .n (.two .n (.two .n (.two .n (.two (.join [] [(59,66)] .n) .n)))))))) .n)))))) .n))))));have b1:=hl.GB;have H1:Sp h h [cw 1 az [],af 288 ⟨eH,0,0⟩ 5 cz []]:=((Sp.refl h).Kh 1 az).nil 288 5 cz;refine aq (λt:Nat×Sl=>(t.2,(t.1:Int))) (λt h'=>t.1<=i0 w/\∃(L:List (lM×Pg)) (pool:List (Sl×aL)),L.map zh=(w.take t.1).filterMap cI/\L.length<=t.1/\(∀p∈L,VC w rs pool p)/\
  Sp h h' [cw 1 az pool,af 288 t.2 5 cz (L.map qt)]) (λt=>i0 w-t.1) (0,⟨eH,0,0⟩) i4 ⟨zi _,[],[],i4,ql _,λ_ s=>absurd s yw,H1⟩ ?_
 rintro⟨i,o⟩ h1 ⟨hi,L,pool,hL,a1,hP,H1⟩;dsimp only at hi hL a1 H1⊢;refine ag (λe=>?_) λe=>?_
 ·have f:i<i0 w:=i5
  refine(fA.up hl H1.ae).TL i i4 f λa r b2 hr a0=>?_;have ay:r∈rs:=zY a0;refine(VA r w[i] h1 hr (by have:=hc _ (qf f);omega) (al r ay)).mono ?_;rintro _ h2 (⟨s,rfl,R2⟩|⟨g,r2,s,rfl,R2⟩)
  ·have H2:=H1.up R2.ae;refine⟨(sO,fz),i4,?_⟩;refine H2.alloc aj i4 λa5 h3 Z=>?_;have Z:Sp h h3 [cw 1 az pool,af 288 o 5 cz (L.map qt),ac a5 288 (cz sO)]:=Z;refine Z.storeAll aj 2 i4 i4 (cz sO) i4 i4 i4 i4 λh4 H4=>?_;refine bo (λe=>j3) λ_=>?_;refine⟨(i+1,o),j1,⟨f,L,pool,?_,i7,hP,H4.bA [0,1]⟩,i7⟩
   try dsimp only
   rw[aD _ _ f,vq,hL];simp[s]
  ·have H2:Sp h h2 [cw 1 az pool,af 288 o 5 cz (L.map qt),lm r2 1 az g.bears]:=H1.comp R2;have T:=YP s;obtain⟨y,hy⟩:∃y:lM,y=(g.seq,g.num,g.many,r2,r):=⟨_,rfl⟩
   refine⟨(y,eX),by rw[hy],?_⟩;refine H2.alloc aj i4 λa5 h3 Z=>?_;have Z:Sp h h3 [cw 1 az pool,af 288 o 5 cz (L.map qt),lm r2 1 az g.bears,ac a5 288 (cz sO)]:=Z;refine Z.storeAll aj 3 i4 i4 (cz y) i4 i4 i4 i4 λh4 H4=>?_;have H4:Sp h h4 [cw 1 az pool,af 288 o 5 cz (L.map qt),lm r2 1 az g.bears,ac a5 288 (cz y)]:=H4;refine bo (λ_=>?_) λe=>j3
   refine⟨y,(H4.box 3 i4).aF _ i4,?_⟩;refine H4.lit aj cz YM i4 [y] i4 (show 1*5<=2^20 by decide) i4 λv7 h5 H5=>?_;have H5:Sp h h5 [cw 1 az pool,af 288 o 5 cz (L.map qt),lm r2 1 az g.bears,ac a5 288 (cz y),af 288 v7 5 cz [y]]:=H5;refine H5.append aj 1 i4 YM ⟨_,_,i4,i4⟩ i4 i6 (λ_=>rfl) (H5.seq 4 i4 λ_=>rfl) YL i9 λv8 h6 H6=>?_;have H6:Sp h h6 [cw 1 az pool,af 288 v8 5 cz (L.map qt++[y]),lm r2 1 az g.bears,ac a5 288 (cz y),af 288 v7 5 cz [y]]:=H6;have H7:Sp h h6 [cw 1 az pool,lm r2 1 az g.bears,af 288 v8 5 cz (L.map qt++[y])]:=H6.bA [0,2,1];have S:=H7.Ki;refine⟨(i+1,v8),j1,⟨f,L++[(y,g)],(r2,g.bears)::pool,?_,i9,?_,by simpa using S⟩,i7⟩
   ·try dsimp only
    rw[aD _ _ f,vq,qL,hL];simp[s]
   ·intro p a8;rcases qz.1 a8 with M|M
    ·exact(hP p M).more _
    ·rw[qu.1 M,hy];exact⟨⟨i4,i4,i4⟩,List.mem_cons_self,T.1,T.2.1,i,a0,by rw[qc f];exact congrArg dB T.2.2.symm⟩
 ·have f:i=i0 w:=i5
  subst f;rw[qN]at hL;obtain⟨P,H⟩:∃P,P=L.map zh:=⟨_,rfl⟩
  have b3:i0 L<=2^20:=i5
  refine H1.aft Value.bool λB h7 H7=>?_;have H7:=H7.ua 39 8 aA fM;refine aq (λt:Nat×Sl=>(t.2,(t.1:Int))) (λt h'=>t.1<=i0 L/\∃out:List av,out=((L.take t.1).map zh).foldl (dY P) []/\out.length<=t.1/\(∀m∈out,cF m)/\
   Sp h h' [cw 1 az pool,af 288 o 5 cz (L.map qt),nL B Value.bool (out.map md),bp 39 t.2 8 aA fM out]) (λt=>i0 L-t.1) (0,⟨eH,0,0⟩) i4 ⟨zi _,[],i4,ql _,λ_ s=>absurd s yw,H7⟩ ?_
  rintro⟨j,u⟩ h8 ⟨hj,out,z,br,Y,S⟩;dsimp only at hj z br S⊢;refine ag (λe=>?_) λe=>?_
  ·have I:=(S.own 1 i4).len;simp only[qq]at I;have A:j<i0 L:=i5
   have D:((L.take (j+1)).map zh).foldl (dY P) []=dY P out L[j].2:=by rw[aD _ _ A,qL,z6,<-z];rfl
   have s:=hP _ (qf A);have skip:∀{h':g0} {Bs:List HP},dY P out L[j].2=out->Sp h h' (cw 1 az pool::af 288 o 5 cz (L.map qt)::nL B Value.bool (out.map md)::bp 39 u 8 aA fM out::Bs)->
     ∃t:Nat×Sl,(u,qe xL ((j:Int)+1))=(t.2,(t.1:Int))/\(t.1<=i0 L/\∃out:List av,out=((L.take t.1).map zh).foldl (dY P) []/\out.length<=t.1/\(∀m∈out,cF m)/\
   Sp h h' [cw 1 az pool,af 288 o 5 cz (L.map qt),nL B Value.bool (out.map md),bp 39 t.2 8 aA fM out])/\L.length-t.1<i0 L-j:=λ{h' Bs} e' H'=>
    ⟨(j+1,u),j1,⟨A,out,by rw[D,e'],i7,Y,H'.bA [0,1,2,3]⟩,i7⟩
   refine(S.seq 1 i4 λ_=>rfl).cU (g:=cz) j i4 (by simpa using A) L[j].1 jj ?_;refine S.alloc aj i4 λd h9 H9=>?_;have H9:Sp h h9 [cw 1 az pool,af 288 o 5 cz (L.map qt),nL B Value.bool (out.map md),bp 39 u 8 aA fM out,ac d 288 (cz sO)]:=H9;refine H9.storeAll aj 4 i4 i4 (cz L[j].1) i4 i4 i4 i4 λax q=>?_;have q:Sp h ax [cw 1 az pool,af 288 o 5 cz (L.map qt),nL B Value.bool (out.map md),bp 39 u 8 aA fM out,ac d 288 (cz L[j].1)]:=q;refine⟨L[j].1.2.1,(q.box 4 i4).cell i4,bx (λe1=>skip ?_ q) λe1=>?_⟩
   ·unfold dY;rw[g9 (by rw[<-s.ok.2.1];exact e1)]
   have O:¬L[j].2.num≠0:=by rw[<-s.ok.2.1];exactλM=>M e1
   refine⟨L[j].1,(q.box 4 i4).aF _ i4,(RB o L L[j] ax (q.seq 1 i4 λ_=>rfl) i5 (λp s=>(hP p s).ok) (qf A) (by have:=s.many;omega)).mono ?_⟩;rintro _ ab (⟨hg,⟨o2,rfl⟩,R11⟩|⟨o2,G,hg,hGL,hGn,rfl,R11⟩)
   ·refine⟨(o2,fz),i4,aR (λ_=>skip ?_ (q.up R11.ae)) λe=>j3⟩;unfold dY;rw[hU O,H,hg]
   have N:Sp h ab [cw 1 az pool,af 288 o 5 cz (L.map qt),nL B Value.bool (out.map md),bp 39 u 8 aA fM out,ac d 288 (cz L[j].1),af 288 o2 5 cz (G.map qt)]:=q.comp R11;refine⟨(o2,eX),i4,aR (λe=>j3) λ_=>?_⟩;refine(RE o2 G ab (N.seq 5 i4 λ_=>rfl) (λp s=>?_) i5).mono ?_
   ·have hq:=hP p (hGL p s);obtain⟨k,a3,a7⟩:=hq.cell;exact⟨N.adL hq.bears,Seq.up (hl.row k _ _ a3 a7) N.ae,hq.len⟩
   rintro _ a2 ⟨m,x,ok,rfl,bd,hz,hw⟩;have bq:Sp h a2 [cw 1 az pool,af 288 o 5 cz (L.map qt),nL B Value.bool (out.map md),bp 39 u 8 aA fM out,ac d 288 (cz L[j].1),af 288 o2 5 cz (G.map qt),bh x m]:=N.comp bd;refine⟨(x,ok),i4,?_⟩;refine bq.alloc aj i4 λE bl X=>?_;have X:Sp h bl [cw 1 az pool,af 288 o 5 cz (L.map qt),nL B Value.bool (out.map md),bp 39 u 8 aA fM out,ac d 288 (cz L[j].1),af 288 o2 5 cz (G.map qt),bh x m,ac E 39 (aA cy)]:=X;refine X.storeAll aj 7 i4 i4 (aA x) i4 i4 i4 i4 λam F=>?_;have F:Sp h am [cw 1 az pool,af 288 o 5 cz (L.map qt),nL B Value.bool (out.map md),bp 39 u 8 aA fM out,ac d 288 (cz L[j].1),af 288 o2 5 cz (G.map qt),bh x m,ac E 39 (aA x)]:=F;refine⟨x,(F.box 7 i4).aF _ i4,(Ej x m am (F.at 6 i4) hz).mono ?_⟩;rintro _ bb ⟨J,rfl,ao⟩;have K:Sp h bb [cw 1 az pool,af 288 o 5 cz (L.map qt),nL B Value.bool (out.map md),bp 39 u 8 aA fM out,ac d 288 (cz L[j].1),af 288 o2 5 cz (G.map qt),bh x m,ac E 39 (aA x),af 5 J 1 az (bK m)]:=F.comp ao;refine⟨J,i4,Fs aj ⟨_,i4,i4⟩ ⟨_,i4,i4⟩ ⟨_,i4,i4⟩ (ao.seq 0 i4 λ_=>rfl) ?_⟩;refine aW (aR (λV=>skip ?_ K) λV=>?_)
   ·have V:ok=fz:=V;rw[V]at hw;unfold dY;rw[hU O,H,hg];(try dsimp only);rw[hw];rfl
   have V:ok=eX:=V;rw[V]at hw;refine(K.map 2 i4).lookup acY acZ (u0:=fz) YQ ⟨(kg ⟨(bK m).toArray⟩ (out.map md)).getD fz,i4,?_⟩;refine bo (λW=>skip ?_ K) λW=>?_
   ·rw[KB]at W;unfold dY;rw[hU O,H,hg];(try dsimp only);rw[hw];exact g9 W
   have bs:=W;rw[KB]at W;have a9:kg ⟨(bK m).toArray⟩ (out.map md)=eH:=abA m out W;refine K.afu eX 2 i4 acY acZ λa6 ah=>?_;rw[DY eX a9]at ah;have Q:aa (λb=>b<h.size) h a6 [cw 1 az pool,af 288 o 5 cz (L.map qt),nL B Value.bool (out.map md++[md m]),bp 39 u 8 aA fM out,ac d 288 (cz L[j].1),af 288 o2 5 cz (G.map qt),EA fM x m,ac E 39 (aA x),af 5 J 1 az (bK m)]:=ah;refine⟨x,(Q.box 7 i4).aF _ i4,?_⟩;refine Q.nX aj 3 6 i6 (a:=x) i4 i4 ahx i4 i6 (λ_=>rfl) aen (parts:=#[(0,dz x)]) j4 i6 i5 λar a4 U=>?_;have U:Sp h a4 [cw 1 az pool,af 288 o 5 cz (L.map qt),nL B Value.bool (out.map md++[md m]),bp 39 ar 8 aA fM (out++[m]),ac d 288 (cz L[j].1),af 288 o2 5 cz (G.map qt),emp,ac E 39 (aA x),af 5 J 1 az (bK m)]:=U;refine⟨(j+1,ar),j1,⟨A,out++[m],?_,i9,?_,?_⟩,i7⟩
   ·try dsimp only
    rw[D];unfold dY;rw[hU O,H,hg];(try dsimp only);rw[hw];exact(hU (by rw[W];exact Bool.false_ne_true)).symm
   ·intro y hy;rcases qz.1 hy with M|M
    ·exact Y y M
    ·rw[qu.1 M];exact hz
   ·rw[qL];exact U.bA [0,1,2,3]
  ·have I:=(S.own 1 i4).len;simp only[qq]at I;have bk:j=i0 L:=i5
   rw[bk,qN]at z;have ej:out.mergeSort IW=gf w:=by unfold gf Pd;rw[z,H,hL]
   have ad:i0 out<20:=by rw[<-ej,List.length_mergeSort]at ap;exact ap
   refine(VE out ad (S.bA [3])).mono ?_;rintro _ b0 ⟨rfl,R⟩;exact⟨(),i4,u,i4,by rw[<-ej];exactλm hm=>Y m (wC.1 hm),by rw[<-ej];exact R⟩
theorem aa.agp{α:Type}{B:aw}{q h:g0}{As:List HP}{e d k:Nat}{s:Sl}{f:α->aT}{a:List (List α)}(H:aa B q h (dH e s d k f a::As))(n:∀x,i0 (f x)=k):
  ∃rs:List Sl,fA h (λb=>b<h.size) s k f a rs/\∀r∈rs,r.len<=r.cap:=by
 obtain⟨rs,j,H⟩:=H.vA;have H:=aa.pQ H;have own:∀(i:Nat) (c:i<i0 a),(af e s 1 bg rs::bv d k f rs a)[i+1]?=dB (af d (rs[i]'(by omega)) k f a[i]):=λi c=>by
  rw[qp];exact ie j i c
 refine⟨rs,⟨H.seq 0 i4 λ_=>rfl,j,λi r l m g=>?_⟩,λr p=>?_⟩
 ·have c:i<i0 a:=(qk.1 g).1;have h3:=H.seq (i+1) (own i c) n;have o:rs[i]'(by omega)=r:=by rw[qc i5]at m;simpa using m
  have d:a[i]=l:=by rw[qc c]at g;simpa using g
  rw[o,d]at h3;exact h3
 ·obtain⟨i,c,rfl⟩:=qB p;exact(H.own (i+1) (own i i5)).cap
theorem VG{pw:f8}{a:f8}{d:aZ}{h:g0}(s b:Sl)(p:bY h a 102 (gr pw d s b))(k:eT h s 1 az d.l)(ok:gA d)(e:i0 (gf d.l)<20):
  an xP 96 #[xH (dB a)] h λv h'=>∃r:Sl,v=r/\(∀m∈gf d.l,cF m)/\Sp h h' [bp 39 r 8 aA fM (gf d.l)]:=by
 refine ts Tryz.func96 ?_;have f:=ok.len;have o:=ok.room;refine(uu s b p k ok).mono ?_;rintro _ f ⟨i,rfl,g⟩;obtain⟨rs,t,j⟩:=g.agp λ_=>rfl;refine⟨i,i4,(VF i d.l rs f t i5 (λc n=>by rw[ok.cell c n];decide) j e).mono ?_⟩;rintro _ o ⟨r,rfl,q,u⟩;exact⟨r,i4,r,i4,q,(g.comp u).bA [1]⟩
abbrev iP(p:cj):aT:=[.pointer p]
def MK(pw:f8)(h:g0):cj->Option aZ->Prop
 |none,eH=>True
 |some a,dB d=>gA d/\(gf d.l).length<20/\∃s b:Sl,bY h a 102 (gr pw d s b)/\eT h s 1 az d.l
 |_,_=>False
theorem MK.up{pw:f8}{h h':g0}{p:cj}{d:Option aZ}(x:MK pw h p d)(f:aP (λb=>b<h.size) h h'):MK pw h' p d:=by
 cases p<;>cases d
 ·trivial
 ·exact x
 ·exact x
 ·obtain⟨a,b,s,t,c,rs,e⟩:=x;exact⟨a,b,s,t,c.ae f c.lt,rs,fA.up e f⟩
theorem RG{pw:f8}(s:Sl)(O:List cj)(ds:aE)(h:g0)(hs:Rd h s 1 iP O)(hl:i0 O=i0 ds)(hn:i0 ds<=64)(hd:∀(i:Nat) (p:cj) (d:Option aZ),O[i]?=dB p->ds[i]?=dB d->MK pw h p d):
  an xP 42 #[s] h λv h'=>∃x:bm,v=.tuple #[dz x,xJ (ji ds).isSome]/\(ji ds=eH->x=cy)/\Sp h h' [bh x ((ji ds).getD ia)]:=by
 refine ts Tryz.func42 ?_ (.two .n (.scope 0 [(5,sM),(6,aQ)] [(3,4),(5,7),(8,50)] [.n,.n,.n] [(.two .n (.two .n (.two (.join [] [(17,29)] .n) (.two (.two .n (.inn (.loop [(5,sM),(35,aQ)] [(5,6),(8,9),(35,50)] .n))) .n))))] []));have a0:=hs.len;refine(Sp.refl h).alloc aj i4 λu h1 H1=>H1.alloc aj i4 λa2 h2 P=>?_;have P:Sp h h2 [ac u 39 (aA cy),ac a2 39 (aA cy)]:=P;have P:Sp h h2 [bh cy ia,ac u 39 (aA cy),ac a2 39 (aA cy)]:=Qw.aa.cy P;refine aq (λt:Nat×Bool=>(t.2,(t.1:Int)-1)) (λt h'=>t.1<=i0 ds/\∃(o:Option av) (x:bm),o=((ds.take t.1).flatMap iD).foldl gZ eH/\t.2=o.isSome/\(o=eH->x=cy)/\
  Sp h h' [bh x (o.getD ia),ac u 39 (aA cy),ac a2 39 (aA x)]) (λt=>i0 ds-t.1) (0,fz) i4 ⟨zi _,eH,cy,i4,i4,λ_=>rfl,P⟩ ?_
 rintro⟨i,f⟩ h3 ⟨hi,o,x,G,Z,hx,D⟩;dsimp only at hi G Z D⊢;rw[show qe xL ((i:Int)-1+1)=(i:Int)from by rw[ai _];omega];refine ag (λe=>?_) λe=>?_
 ·have hid:i=i0 ds:=i5
  rw[hid,qN]at G;have G:ji ds=o:=G.symm;refine⟨x,(D.box 2 i4).aF _ i4,D.storeAll aj 1 i4 i4 (aA x) i4 i4 i4 i4 λh4 H4=>?_⟩;refine⟨x,(H4.box 1 i4).aF _ i4,x,by rw[G,Z],by rw[G];exact hx,by rw[G];exact H4.bA [0]⟩
 ·have w:i<i0 ds:=i5
  have A:i<i0 O:=i5
  obtain⟨d,M⟩:∃d,ds[i]?=dB d:=⟨_,qc w⟩
  have ap:ds[i]=d:=by rw[qc w]at M;injection M
  obtain⟨p,I⟩:∃p,O[i]?=dB p:=⟨_,qc A⟩
  have L:O[i]=p:=by rw[qc A]at I;injection I
  have N:=(hd i p d I M).up D.ae;have B:(ds.take (i+1)).flatMap iD=(ds.take i).flatMap iD++iD d:=by rw[aD _ _ w,qY,ap];simp
  have skip:iD d=[]->∀{h':g0} {Bs:List HP},Sp h h' (bh x (o.getD ia)::ac u 39 (aA cy)::ac a2 39 (aA x)::Bs)->
    ∃t:Nat×Bool,(f,(i:Int))=(t.2,(t.1:Int)-1)/\(t.1<=i0 ds/\∃(o:Option av) (x:bm),o=((ds.take t.1).flatMap iD).foldl gZ eH/\t.2=o.isSome/\(o=eH->x=cy)/\
  Sp h h' [bh x (o.getD ia),ac u 39 (aA cy),ac a2 39 (aA x)])/\ds.length-t.1<i0 ds-i:=λem {h' Bs} H'=>
   ⟨(i+1,f),l6,⟨w,o,x,by dsimp only;rw[B,em,qE];exact G,Z,hx,H'.bA [0,1,2]⟩,i7⟩
  refine aW ?_;refine(Seq.up hs D.ae).mE i i4 A p (by rw[L]) λa6 _=>?_;cases p with
  |none=>
   cases d with
   |some d=>exact absurd N id
   |none=>exact bo (λ_=>skip i4 D) λe=>j3
  |some a=>
   cases d with
   |none=>exact absurd N id
   |some d=>
    refine bo (λe=>j3) λ_=>?_;obtain⟨ok,W,s1,b1,Q,ah⟩:=N;refine(Seq.up hs D.ae).mE i i4 A (dB a) (by rw[L]) λa8 _=>?_;refine(rY s1 b1 Q).mono ?_;rintro _ _ ⟨rfl,rfl⟩;refine⟨_,i4,bo (λel=>skip (by unfold iD;(try dsimp only);rw[g9 el]) D) λel=>?_⟩;have Y:iD (dB d)=gf d.l:=by unfold iD;(try dsimp only);rw[el];rfl
    refine(Seq.up hs D.ae).mE i i4 A (dB a) (by rw[L]) λay _=>?_;refine(VG s1 b1 Q ah ok W).mono ?_;rintro _ h7 ⟨r,rfl,hz,R7⟩;have H7:Sp h h7 [bp 39 r 8 aA fM (gf d.l),bh x (o.getD ia),ac u 39 (aA cy),ac a2 39 (aA x)]:=(D.comp R7).bA [3,0,1,2];obtain⟨ps,X,H7⟩:=Qw.aa.ada H7;refine⟨r,i4,?_⟩;have a4:i0 ps<20:=by rw[<-qq (f:=zh),X];exact W
    refine aq (λt:Nat×Bool=>(t.2,(t.1:Int))) (λt h'=>t.1<=i0 ps/\∃(b:Option av) (y:bm),b=((ps.take t.1).map zh).foldl gZ o/\t.2=b.isSome/\(b=eH->y=cy)/\((y,b.getD ia)=(x,o.getD ia)∨(y,b.getD ia)∈ps)/\
     Sp h h' [pF fM ps,af 39 r 8 aA (ps.map qt),bh x (o.getD ia),ac u 39 (aA cy),ac a2 39 (aA y)]) (λt=>i0 ps-t.1) (0,f) i4 ⟨zi _,o,x,i4,Z,hx,.inl i4,H7⟩ ?_
    rintro⟨j,g⟩ h8 ⟨hj,b,y,F,V,hy,K,H⟩;dsimp only at hj F V H⊢;have ad:=(H.own 1 i4).len;simp only[qq]at ad;have z:y.1=(b.getD ia).seq:=by
     rcases K with E|E
     ·injection E with h1 h2
      rw[h1,h2];exact(H.at 2 i4).seq
     ·exact(H.at 0 i4 _ E).seq
    refine ag (λe2=>?_) λe2=>?_
    ·have k:j<i0 ps:=i5
     have a3:=(H.at 0 i4 _ (qf k)).seq;have S:((ps.take (j+1)).map zh).foldl gZ o=gZ b ps[j].2:=by rw[aD _ _ k,qL,z6,<-F];rfl
     refine(H.seq 1 i4 λ_=>rfl).cU (g:=aA) j i4 (by simpa using k) ps[j].1 jj ?_;refine H.alloc aj i4 λR h9 T=>?_;have T:Sp h h9 [pF fM ps,af 39 r 8 aA (ps.map qt),bh x (o.getD ia),ac u 39 (aA cy),ac a2 39 (aA y),ac R 39 (aA cy)]:=T;refine T.storeAll aj 5 i4 i4 (aA ps[j].1) i4 i4 i4 i4 λal c=>?_;have c:Sp h al [pF fM ps,af 39 r 8 aA (ps.map qt),bh x (o.getD ia),ac u 39 (aA cy),ac a2 39 (aA y),ac R 39 (aA ps[j].1)]:=c;have take:gZ b ps[j].2=dB ps[j].2->∀{h':g0} {Bs:List HP},Sp h h' (pF fM ps::af 39 r 8 aA (ps.map qt)::bh x (o.getD ia)::ac u 39 (aA cy)::ac a2 39 (aA ps[j].1)::Bs)->
       ∃t:Nat×Bool,(eX,qe xL ((j:Int)+1))=(t.2,(t.1:Int))/\(t.1<=i0 ps/\∃(b:Option av) (y:bm),b=((ps.take t.1).map zh).foldl gZ o/\t.2=b.isSome/\(b=eH->y=cy)/\((y,b.getD ia)=(x,o.getD ia)∨(y,b.getD ia)∈ps)/\
     Sp h h' [pF fM ps,af 39 r 8 aA (ps.map qt),bh x (o.getD ia),ac u 39 (aA cy),ac a2 39 (aA y)])/\ps.length-t.1<i0 ps-j:=λem {h' Bs} H'=>
      ⟨(j+1,eX),j1,⟨k,dB ps[j].2,ps[j].1,by dsimp only;rw[S,em],i4,(λE=>by cases E),.inr (qf k),H'.bA [0,1,2,3,4]⟩,i7⟩
     refine aR (λU=>?_) λU=>?_
     ·refine⟨ps[j].1,(c.box 5 i4).aF _ i4,c.storeAll aj 4 i4 i4 (aA ps[j].1) i4 i4 i4 i4 λar ab=>take ?_ ab⟩;have:b=eH:=by cases b with|none=>rfl|some _=>rw[V]at U;cases U
      rw[this];rfl
     ·obtain⟨m',J⟩:∃m',b=dB m':=by cases b with|none=>rw[V]at U;cases U|some m=>exact⟨m,rfl⟩
      rw[J]at z;have z:y.1=m'.seq:=z;refine⟨ps[j].1.1,(c.box 5 i4).cell0 i4,y.1,(c.box 4 i4).cell0 i4,ag (λe3=>?_) λe3=>?_⟩
      ·refine⟨ps[j].1,(c.box 5 i4).aF _ i4,c.storeAll aj 4 i4 i4 (aA ps[j].1) i4 i4 i4 i4 λax ao=>take ?_ ao⟩;rw[J];unfold gZ;(try dsimp only);exact g9 i5
      ·refine⟨(j+1,g),j1,⟨k,b,y,?_,V,hy,K,c.bA [0,1,2,3,4]⟩,i7⟩
       try dsimp only
       rw[S,J];unfold gZ;(try dsimp only);exact(hU i5).symm
    ·have am:j=i0 ps:=i5
     rw[am,qN,X]at F;refine⟨(i+1,g),l6,⟨w,b,y,?_,V,hy,?_⟩,i7⟩
     ·try dsimp only
      rw[B,z6,<-G,Y];exact F
     ·rcases K with E|E
      ·injection E with q1 q2
       have:=H.bA [2,3,4];rw[q2];rw[q1]at this⊢;exact this
      ·have T:Sp h h8 [bh y (b.getD ia),af 39 r 8 aA (ps.map qt),bh x (o.getD ia),ac u 39 (aA cy),ac a2 39 (aA y)]:=H.eJ 0 i4 λq hq=>hq _ E;exact T.bA [0,3,4]
def fS(m:av)(d:aZ):bP:=if(bO m d.l).length<=d.room then bO m d.l else(jt m d.l).take d.room
theorem YS{pw a:f8}{d:aZ}{h:g0}(s b:Sl)(x:bm)(m:av)(i:bY h a 102 (gr pw d s b))(q:eT h s 1 az d.l)(ok:gA d)(w:dh h x m)(y:cF m):
  an xP 44 #[xH (dB a),dz x] h λv h'=>∃r:Sl,v=r/\Sp h h' [dI r (fS m d)]:=by
 refine ts Tryz.func44 ?_ (args:=[(dB a),x]);refine(Sp.refl h).boxed λp B f=>?_;have f:Sp h B [ac p 39 (aA x)]:=f;refine⟨x,(f.box 0 rfl).aF _ rfl,(Ae s b x m (i.ae f.ae i.lt) (by obtain⟨rs,e⟩:=q;exact⟨rs,fA.up e f.ae⟩) ok (w.up f.ae) y).mono ?_⟩;rintro _ D ⟨n,rfl,z⟩;have g:Sp h D [ac p 39 (aA x),dI n (bO m d.l)]:=f.comp z;have H:=(z.uc).1;have j:=i.ae g.ae i.lt;refine⟨n,i4,(Eg s b j).mono ?_⟩;rintro _ _ ⟨rfl,rfl⟩;refine⟨_,i4,ag (λe=>?_) λe=>?_⟩
 ·have e:(n.len:Int)<=(d.room:Int):=e;refine⟨n,i4,?_⟩;unfold fS;rw[g9 i5];exact g.bA [1]
 ·have e:¬(n.len:Int)<=(d.room:Int):=e;refine⟨x,(g.box 0 rfl).aF _ rfl,(ID s b x m j (by obtain⟨rs,e⟩:=q;exact⟨rs,fA.up e g.ae⟩) ok (w.up g.ae) y).mono ?_⟩;rintro _ h3 ⟨c,rfl,t⟩;have o:=g.comp t;have k:=t.uc;refine⟨c,i4,(Eg s b (i.ae o.ae i.lt)).mono ?_⟩;rintro _ _ ⟨rfl,rfl⟩;have u:=k.1;have A:(if(d.room:Int)<(c.len:Int)then(d.room:Int)else(c.len:Int))=((min d.room c.len:Nat):Int):=by split<;>omega
  refine⟨_,i4,?_⟩;show(0<=(if(d.room:Int)<(c.len:Int)then(d.room:Int)else(c.len:Int))/\_)/\_;rw[A];refine⟨⟨i5,Int.ofNat_le.2 (qT (vZ _ _) k.2)⟩,⟨c.ptr,min d.room c.len,c.cap⟩,by rw[qj],?_⟩;have F:Sp h _ [dI c (jt m d.l)]:=o.bA [2];have G:=F.ahm (min d.room c.len) (by rw[<-u];exact vZ _ _);unfold fS;rw[hU i5];have:(jt m d.l).take d.room=(jt m d.l).take (min d.room c.len):=by
   rw[u];by_cases E:d.room<=i0 (jt m d.l)
   ·rw[wE E]
   ·rw[Nat.min_eq_right i5,qN,qg i5]
  rw[this];exact G
end Go.Qw
