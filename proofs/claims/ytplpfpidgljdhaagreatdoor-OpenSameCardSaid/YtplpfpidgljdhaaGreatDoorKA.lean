/- Lemmas for the proof of the law; no condition. -/
import Derived.Test.YtplpfpidgljdhaaGreatDoorTabS
import Derived.Test.YtplpfpidgljdhaaGreatDoorShelfA
set_option maxHeartbeats 2000000
set_option linter.unusedVariables false
set_option linter.unusedSimpArgs false
open Go.Proofs.Tryz renaming prog -> xP
open Go.Value renaming agg -> xK, bool -> xJ, int -> xF, pointer -> xH, slice -> xG, string -> xI
open Go.IntKind renaming bits -> qH, i64 -> xL, signed -> va, u32 -> xN, u64 -> xO, u8 -> xM, wrap -> qe
open Option renaming some -> zW
open Int renaming ediv_le_self -> xd, ediv_nonneg -> xm, fdiv -> zN, mul_pos -> xv, tdiv -> vm, tmod -> xA
open UInt8 renaming ofNat -> yR, ofNat_toNat -> y6, toNat_lt -> w6
open List renaming exists_cons_of_length_eq_add_one -> yG, length -> vw, length_zipWith -> yN, map_congr_left -> vH, range -> qx, replicate -> qi, take_append_of_le_length -> yB
open Nat renaming mod_eq_of_lt -> vD
open BitVec renaming ofInt -> qO, ofNat -> xq
open Prod renaming fst -> qt, snd -> zh
open Go.Instr renaming fill -> wH, storeAt -> qG
set_option maxRecDepth 100000
open Option renaming some -> dB, none -> eH
open Bool renaming true -> eX, false -> fz
open Go renaming Addr -> f8
open Go.Qw renaming cellOf -> f9, Heap -> g0
open List renaming length -> i0
namespace Go.Qw
open Go.Proofs
abbrev Cells:=bP
abbrev powC(w:Pow)(l:Int):aT:=[xJ w.off,xJ w.fuse.isSome,xF xL l,xF xL w.offs]
def Io(w:Pow)(l:Int):Prop:=∀k,w.fuse=dB k->l=k/\k<2^62
def bV(t:Nat)(a:f8)(w:Pow):HP:=HP.ex λl:Int=>(ac a t (powC w l)).and (Io w l)
variable {B:aw} {h0 h h':g0} {As:List HP} {t:Nat} {a:f8} {w:Pow}
theorem aa.tJ(H:aa B h0 h (bV t a w::As)):∃l,Io w l/\aa B h0 h (ac a t (powC w l)::As):=by obtain⟨l,H⟩:=H.oW;obtain⟨H,b⟩:=H.oX;exact⟨l,b,H⟩
theorem aa.GW{l:Int}(b:Io w l)(H:aa B h0 h (ac a t (powC w l)::As)):aa B h0 h (bV t a w::As):=
 (H.tooX b).ub (F:=λl:Int=>(ac a t (powC w l)).and (Io w l)) l
theorem FD(l:Int)(b:bY h a 104 (powC w l)):an xP 16 #[xH (dB a)] h λv h'=>v=xJ (!w.off)/\h'=h:=by refine ts Tryz.func16 ?_;exact bo (λ_=>⟨a,i4,w.off,b.cell0 i4,i4,i4⟩) λe=>j3
theorem Ea(l:Int)(b:bY h a 104 (powC w l)):an xP 59 #[xH (dB a)] h λv h'=>v=xF xL w.offs/\h'=h:=by refine ts Tryz.func59 ?_;exact bo (λe=>j3) λ_=>⟨a,i4,w.offs,b.cell i4,i4,i4⟩
theorem Eb(h:g0):an xP 23 #[] h λv h'=>∃a,v=xH (dB a)/\Sp h h' [bV 104 a Pow.new]:=by refine ts Tryz.func23 ?_;refine(Sp.refl h).boxed λa c b=>⟨a,i4,aa.GW (l:=0) (w:=Pow.new) (λk e=>j3) b⟩
theorem Ec(H:aa B h0 h (bV 104 a w::As)):an xP 98 #[xH (dB a)] h λv h'=>v=xJ w.step.1/\aa B h0 h' (bV 104 a w.step.2::As):=by
 obtain⟨l,o,b⟩:=H.tJ;refine ts Tryz.func98 ?_;refine(FD l (b.box 0 i4)).mono ?_;rintro _ t ⟨rfl,rfl⟩;refine⟨_,i4,aR (λe=>?_) λe=>?_⟩
 ·have:w.step=(fz,w):=by unfold Pow.step;rw[g9 lz]
  rw[this];exact⟨i4,H⟩
 have g:w.off=fz:=lz
 refine⟨a,i4,_,(b.box 0 i4).cell i4,aR (λe2=>?_) λe2=>?_⟩
 ·have:w.step=(eX,w):=by
   unfold Pow.step;rw[hU n9];cases d:w.fuse with
   |none=>rfl
   |some k=>rw[d]at e2;cases e2
  rw[this];exact⟨i4,H⟩
 obtain⟨k,d⟩:∃k,w.fuse=dB k:=yz.1 e2;obtain⟨rfl,x⟩:=o k d;have p:powC w (k:Int)=[xJ fz,xJ eX,xF xL k,xF xL w.offs]:=by simp[powC,g,d]
 rw[p]at b;refine⟨a,i4,_,(b.box 0 i4).cell i4,cH (λs=>?_) λs=>?_⟩
 ·have i:k=0:=i5
  subst i;have m:w.step=(fz,⟨eX,dB 0,qe xL (w.offs+1)⟩):=by unfold Pow.step;rw[hU n9,d]
  rw[m];refine⟨a,i4,b.jr aj 0 i4 i4 [xJ eX] i4 i4 i4 jj λu n=>?_⟩;refine⟨a,i4,w.offs,(n.box 0 i4).cell i4,a,i4,n.store aj 0 i4 i4 3 [xF xL (qe xL (w.offs+1))] i4 i4 i4 (by simp[powC]) λh3 f=>⟨i4,?_⟩⟩;refine aa.GW (l:=((0:Nat):Int)) (λq c=>by cases c;exact⟨i4,i6⟩) ?_;exact f
 ·obtain⟨j,rfl⟩:∃j,k=j+1:=⟨k-1,i5⟩
  have m:w.step=(eX,⟨fz,dB j,w.offs⟩):=by unfold Pow.step;rw[hU n9,d]
  rw[m];refine⟨a,i4,_,(b.box 0 i4).cell i4,a,i4,b.store aj 0 i4 i4 2 [xF xL (qe xL (((j+1:Nat):Int)-1))] i4 i4 i4 (by simp[powC]) λh3 f=>⟨i4,?_⟩⟩;refine aa.GW (l:=(j:Int)) (λq c=>by cases c;exact⟨i4,i5⟩) ?_;rw[ai _]at f;have r:((j+1:Nat):Int)-1=(j:Int):=i5
  rw[r]at f;exact f
abbrev Pm:=Int×Int×Int
abbrev jW(p:Pm):Value:=xK #[xF xL p.1,xF xL p.2.1,xF xL p.2.2]
theorem dZ(p:Pm)(h:g0):an xP 58 #[jW p] h λv h'=>v=xJ (bJ p)/\Sp h h' []:=by refine ts Tryz.func58 ?_ (args:=[p]);refine(Sp.refl h).boxed λa d g=>?_;have e:=g.box 0 i4;have c:Sp h d []:=.zip g.ae;have j:f9 d a=dB (xF xL p.1):=e.cell0 i4;have i:f9 d (a.add 1)=dB (xF xL p.2.1):=e.cell i4;have f:f9 d (a.add 2)=dB (xF xL p.2.2):=e.cell i4;unfold bJ;refine⟨_,j,ag (λb=>?_) λb=>⟨o9,c⟩⟩;rw[hY b];refine⟨_,j,ag (λb=>?_) λb=>⟨o9,c⟩⟩;rw[hY b];refine⟨_,i,ag (λb=>?_) λb=>⟨o9,c⟩⟩;rw[hY b];refine⟨_,i,ag (λb=>?_) λb=>⟨o9,c⟩⟩;rw[hY b];refine⟨_,f,ag (λb=>?_) λb=>⟨o9,c⟩⟩;rw[hY b];exact⟨_,f,i4,c⟩
abbrev fN:bG C.toAQ 22 3 1 [xF xL 0] 8:=⟨_,_,i4,i4,i4,i4,i4,i4⟩
abbrev gz:bG C.toAQ 58 5 1 [xF xM 0] 1:=⟨_,_,i4,i4,i4,i4,i4,i4⟩
abbrev fv:bG C.toAQ 43 58 1 [xG eH 0 0] 24:=⟨_,_,i4,i4,i4,i4,i4,i4⟩
theorem jL(s:Sl)(l:aB)(h:g0)(b:Rd h s 1 ak l)(f:i0 l<=2^30):an xP 101 #[s] h λv h'=>∃r:Sl,v=r/\Sp h h' [af 3 r 1 ak l]:=by
 refine ts Tryz.func101 ?_;refine bo (λe=>?_) (λe=>?_)
 ·have:=b.isNil e;subst this;exact⟨⟨eH,0,0⟩,i4,(Sp.refl h).nil 3 1 ak⟩
 ·refine(Sp.refl h).lit aj ak fN i4 [] i4 i6 i4 λj g a=>?_;refine a.append aj 0 i4 fN ⟨_,_,i4,i4⟩ i4 i6 (λ_=>rfl) (b.up a.ae) eS i9 λc i d=>⟨c,i4,d⟩
theorem fw(s:Sl)(l:aL)(h:g0)(b:Rd h s 1 az l)(f:i0 l<=2^30):an xP 89 #[s] h λv h'=>∃r:Sl,v=r/\Sp h h' [af 5 r 1 az l]:=by
 refine ts Tryz.func89 ?_;refine bo (λe=>?_) (λe=>?_)
 ·have:=b.isNil e;subst this;exact⟨⟨eH,0,0⟩,i4,(Sp.refl h).nil 5 1 az⟩
 ·refine(Sp.refl h).lit aj az gz i4 [] i4 i6 i4 λj g a=>?_;refine a.append aj 0 i4 gz ⟨_,_,i4,i4⟩ i4 i6 (λ_=>rfl) (b.up a.ae) gU i9 λc i d=>⟨c,i4,d⟩
theorem Ed{e:TypeId}(s:Sl)(l:aB)(h:g0)(c:Own h e s 1 ak l)(a:i0 l<2^40):an xP 82 #[s] h λv h'=>v=.tuple #[]/\Own h' e s 1 ak (iH l)/\aP (λb=>¬s.on b) h h':=
 Ns Tryz.slices_Sort_int Tryz.slices_Sort_int_none c a
theorem cO(x n:Int)(h:g0)(b:0<n:=by decide)(e:n<=2^62:=by decide):an xP 54 #[xF xL x,xF xL n] h λv h'=>v=xF xL (x%n)/\h'=h:=by
 refine ts Tryz.func54 ?_ (.two .n (.two .n (.two (.join [(0,aQ)] [(0,1),(8,13)] .n) .n)));have f:=vL x b;have g:-n<x.tmod n:=Int.lt_tmod_of_pos x b;have d:=Nj x n b;refine⟨i5,aW ?_⟩;refine ag (λc=>?_) (λa=>?_)
 ·rw[ai _];exact⟨by rw[d,g9 c],i4⟩
 ·exact⟨by rw[d,hU a],i4⟩
theorem Ut{p q:aw}(a b:Sl)(c g:Row)(h:g0)(r:Seq h p a 1 az c)(s:Seq h q b 1 az g)(y:i0 c<=2^40):
  an xP 30 #[a,b] h λv h'=>v=xJ (decide (c=g))/\h'=h:=by
 refine ts Tryz.func30 ?_ (.two .n (.two .n (.two (.two .n (.inn (.loop [(13,aQ)] [(4,6),(13,26)] .n))) .n)));have m:=r.len;have o:=s.len;refine bx (λd=>⟨?_,i4⟩) (λl=>?_)
 ·rw[hZ λe=>d (by rw[m,o,e])]
 ·refine aq (λk:Nat=>(k:Int)) (λk h'=>h'=h/\k<=i0 c/\c.take k=g.take k) (λk=>i0 c-k) 0 i4 ⟨i4,i5,jj⟩ ?_;rintro k h' ⟨rfl,x,j⟩;refine ag (λw=>?_) (λt=>?_)
  ·have i:k<i0 c:=i5
   have f:k<i0 g:=i5
   refine r.bt k i4 i _ i4 ?_;refine s.bt k i4 f _ i4 ?_;refine bx (λd=>⟨?_,i4⟩) (λl=>?_)
   ·rw[hZ];intro e;subst e;exact d i4
   ·rw[ai _];have u:c[k]=g[k]:=yJ.1 i5;exact⟨k+1,jj,⟨i4,i5,by rw[aD _ _ i,aD _ _ f,j,u]⟩,i5⟩
  ·have:k=i0 c:=i5
   subst this;rw[qg i5,qg i5]at j;exact⟨by rw[hY j],i4⟩
structure gA (d:aZ):Prop where
 wait:d.wait<=i0 d.l
 len:i0 d.l<=d.room
 room:d.room<=512
 cell:∀c∈d.l,i0 c=64
 laid:i0 d.laid<=d.room
 cellL:∀c∈d.laid,i0 c=64
variable {d:aZ} {b:aL}
theorem gA.new{n:Nat}(h:n<=512):gA (aZ.new n):=⟨ql _,zi _,h,by simp[aZ.new],zi _,by simp[aZ.new]⟩
theorem gA.rewrite{l:bP}(h:gA d):gA (d.rewrite w l).2.2:=by
 obtain⟨b,e,h3,a,g,f⟩:=h;unfold aZ.rewrite;split
 ·exact⟨b,e,h3,a,g,f⟩
 ·rename_i i;have i:∀c∈l,i0 c=64:=by simpa using i
  split
  ·exact⟨b,e,h3,a,g,f⟩
  ·split
   ·exact⟨b,e,h3,a,g,f⟩
   ·split
    ·exact⟨b,e,h3,a,g,f⟩
    ·split
     ·exact⟨zi _,i7,h3,i,zi _,jj⟩
     ·exact⟨b,e,h3,a,i7,i⟩
abbrev dI(s:Sl)(l:Cells):HP:=dH 58 s 5 1 az l
def gG(t:Nat)(f:aZ->Sl->Sl->aT)(a:f8)(d:aZ):HP:=
 (HP.ex λb:Sl×Sl=>(ac a t (f d b.1 b.2)).sep ((dI b.1 d.l).sep (dI b.2 d.laid))).and (gA d)
variable {f:aZ->Sl->Sl->aT}
theorem aa.rE(H:aa B h0 h (gG t f a d::As)):gA d/\∃s b:Sl,aa B h0 h (ac a t (f d s b)::dI s d.l::dI b d.laid::As):=by obtain⟨H,ok⟩:=H.oX;obtain⟨c,H⟩:=H.oW;exact⟨ok,c.1,c.2,H.mg.mg.aO 3 [2,1,0]⟩
theorem aa.Ee{s b:Sl}(ok:gA d)(H:aa B h0 h (ac a t (f d s b)::dI s d.l::dI b d.laid::As)):aa B h0 h (gG t f a d::As):=
 ((((H.aO 3 [2,1,0]).jd).jd).ub (F:=λc:Sl×Sl=>(ac a t (f d c.1 c.2)).sep ((dI c.1 d.l).sep (dI c.2 d.laid))) (s,b)).tooX ok
abbrev gr(pw:f8)(d:aZ)(s b:Sl):aT:=[xH (dB pw),xF xL d.room,s,xF xL d.wait,b,xJ d.has,xJ d.lost]
abbrev jX(pw a:f8)(d:aZ):HP:=gG 102 (gr pw) a d
section
variable {pw:f8}
theorem Ip(n:Int)(pw:f8)(h:g0):an xP 60 #[xF xL n,xH (dB pw)] h λv h'=>
  (1<=n/\n<=512->∃a,v=xH (dB a)/\Sp h h' [jX pw a (aZ.new n.toNat)])/\(¬(1<=n/\n<=512)->v=xH eH/\Sp h h' []):=by
 refine ts Tryz.func60 ?_ (.two .n (.two (.join [] [(4,15)] .n) .n));refine aW (ag (λe=>⟨λc=>absurd c i5,λ_=>⟨i4,Sp.refl h⟩⟩) λg=>ag (λe=>⟨λc=>absurd c i5,λ_=>⟨i4,Sp.refl h⟩⟩) λe2=>bo (λe=>j3) λ_=>?_);refine(Sp.refl h).boxed λa i d=>⟨λ_=>⟨a,i4,?_⟩,λc=>absurd i5 c⟩
 refine aa.Ee (s:=⟨eH,0,0⟩) (b:=⟨eH,0,0⟩) (gA.new i5) ?_;have e:((n.toNat:Nat):Int)=n:=i5
 have f:=((d.BE 58 5 1 az).BE 58 5 1 az).aO 3 [2,1,0];have e2:gr pw (aZ.new n.toNat) ⟨eH,0,0⟩ ⟨eH,0,0⟩=[xH (dB pw),xF xL n,xG eH 0 0,xF xL 0,xG eH 0 0,xJ fz,xJ fz]:=by simp only[gr,aZ.new,e];rfl
 rw[e2];exact f
theorem Ef(s b:Sl)(c:aZ)(H:aa B h0 h (ac a 102 (gr pw d s b)::dI s d.l::dI b d.laid::bV 104 pw w::As))(ok:gA d)(g:c={d with laid:=[],has:=fz}):
  an xP 99 #[xH (dB a)] h λv h'=>v=xF xL 0/\aa B h0 h' (jX pw a c::bV 104 pw w::As):=by
 refine ts Tryz.func99 ?_;refine⟨a,i4,H.store aj 0 i4 i4 4 [xG eH 0 0] i4 i4 i4 n7 λi f=>?_⟩;refine⟨a,i4,f.store aj 0 i4 i4 5 [xJ fz] i4 i4 i4 n7 λh3 e=>⟨i4,?_⟩⟩;subst g;refine aa.Ee (s:=s) (b:=⟨eH,0,0⟩) ⟨ok.wait,ok.len,ok.room,ok.cell,zi _,jj⟩ ?_;exact((e.BE 58 5 1 az).aO 5 [1,2,0,4])
theorem FX(x:Sl)(row:aL)(H:aa B h0 h (jX pw a d::bV 104 pw w::As))(P:Rd h x 1 az row)(hr:i0 row<=2^20):
  an xP 107 #[xH (dB a),x] h λv h'=>v=xF xL (d.append w row).1/\aa B h0 h' (jX pw a (d.append w row).2.2::bV 104 pw (d.append w row).2.1::As):=by
 refine ts Tryz.func107 ?_ (.two .n (.two (.join [] [(4,36)] (.inn (.two .n (.two .n (.two (.join [(9,sM)] [(9,18)] .n) .n))))) (.two (.join [] [(36,47)] .n) .n)));have U:=P.len;obtain⟨ok,s,b,E⟩:=H.rE;have t:=E.box 0 i4;obtain⟨X,_⟩:=aa.uc (E.aO 4 [1]);have I:=ok.room;have O:=ok.len;have K:=ok.wait;have same:∀(e:Int),d.append w row=(e,w,d)->(Value.int .i64 e=xF xL (d.append w row).1/\aa B h0 h (jX pw a (d.append w row).2.2::bV 104 pw (d.append w row).2.1::As)):=λe Y=>by
  rw[Y];exact⟨i4,H⟩
 refine aW (bx (λe=>same 1 (by unfold aZ.append;rw[g9 i5])) λS=>?_);have p:i0 row=64:=i5
 refine aW (bo (λe=>j3) λ_=>⟨a,i4,d.lost,t.cell i4,bo (λe=>same 5 ?_) λf=>?_⟩)
 ·unfold aZ.append;rw[hU i5,g9 e]
 refine⟨a,i4,s,t.cell i4,a,i4,(d.room:Int),t.cell i4,ag (λe=>same 7 ?_) λF=>?_⟩
 ·unfold aZ.append;rw[hU i5,hU p0,g9 i5]
 obtain⟨l,Z,L⟩:=(E.aO 4 [3,0,1,2]).tJ;refine⟨a,i4,dB pw,t.cell0 i4,(FD l (L.box 0 i4)).mono ?_⟩;rintro _ T ⟨rfl,rfl⟩;refine⟨_,i4,aR (λe=>same 14 ?_) λk=>?_⟩
 ·unfold aZ.append;rw[hU i5,hU p0,hU i5,g9 lz]
 have j:w.off=fz:=by simpa using k
 refine aW ⟨a,i4,s,t.cell i4,(fw x row T P i5).mono ?_⟩;rintro _ h4 ⟨r,rfl,W⟩;have D:=(E.cb W).aO 5 [2,0,1,3,4];have u:=D.box 2 i4;refine⟨r,i4,⟨u.cell i4,trivial⟩,?_⟩;have V:=D;refine D.nt aj bg fv i4 [r] i4 (show 1*1<=2^20 by decide) i4 ⟨u.cell i4,trivial⟩ ?_;refine D.BF aj fv i5 λz h6 M=>⟨trivial,?_⟩
 have M:=M.aO 4 [1,0,2,3];refine⟨a,i4,M.store aj 0 i4 i4 2 [z] i4 i4 i4 n7 λh7 N=>⟨trivial,?_⟩⟩;have G:=N.box 0 i4;refine⟨a,i4,(d.wait:Int),G.cell i4,a,i4,?_⟩;rw[ai ((d.wait:Int)+1)];refine N.store aj 0 i4 i4 3 [xF xL ((d.wait:Int)+1)] i4 i4 i4 n7 λh8 Q=>?_;obtain⟨g,i⟩:∃g:aZ,g={d with l:=d.l++[row],wait:=d.wait+1}:=⟨_,rfl⟩
 have m:gA g:=by
  subst i;refine⟨i9,i9,ok.room,λc o=>?_,ok.laid,ok.cellL⟩;rcases qz.1 o with o|o
  ·exact ok.cell c o
  ·rw[qu.1 o];exact p
 have q:aa B h0 h8 (ac a 102 (gr pw g z b)::dI z g.l::dI b g.laid::bV 104 pw w::As):=by rw[i];exact Q
 refine⟨a,i4,dB pw,(q.box 0 i4).cell0 i4,(Ec (q.aO 4 [3,0,1,2])).mono ?_⟩;rintro _ h9 ⟨rfl,A⟩;have A:=A.aO 4 [1,2,3,0];have y:d.append w row=if w.step.1 then(0,w.step.2,{g with laid:=[],has:=fz})else(14,w.step.2,g):=by rw[i];unfold aZ.append;rw[hU i5,hU p0,hU i5,hU (by simp[j])]
 rw[y];refine⟨_,i4,aR (λe=>?_) λe=>?_⟩
 ·rw[e];exact⟨i4,A.Ee m⟩
 ·rw[e];refine(Ef z b _ A m i4).mono ?_;rintro _ R ⟨rfl,J⟩;exact⟨0,i4,i4,J⟩
theorem Kf(x:Sl)(row:aL)(h:g0)(b:Rd h x 1 az row):an xP 107 #[xH eH,x] h λv h'=>v=xF xL (if row.length≠64 then 1 else 5)/\h'=h:=by refine ts Tryz.func107 ?_ (.two .n (.two (.join [] [(4,36)] (.inn (.two .n (.two .n (.two (.join [(9,sM)] [(9,18)] .n) .n))))) (.two (.join [] [(36,47)] .n) .n)));have a:=b.len;refine aW (bx (λe=>⟨by rw[g9 i5],i4⟩) λe=>?_);exact aW (bo (λ_=>⟨by rw[hU i5],i4⟩) λe=>j3)
theorem Xh(H:aa B h0 h (jX pw a d::bV 104 pw w::As)):
  an xP 145 #[xH (dB a)] h λv h'=>v=xF xL (d.sync w).1/\aa B h0 h' (jX pw a (d.sync w).2.2::bV 104 pw (d.sync w).2.1::As):=by
 refine ts Tryz.func145 ?_ (.two .n (.two (.join [] [(2,11)] .n) .n));obtain⟨ok,s,b,j⟩:=H.rE;have i:=j.box 0 i4;refine aW (bo (λe=>j3) λ_=>⟨a,i4,d.lost,i.cell i4,bo (λe=>?_) λc=>?_⟩)
 ·have:d.sync w=(5,w,d):=by unfold aZ.sync;rw[g9 e]
  rw[this];exact⟨i4,H⟩
 refine⟨a,i4,dB pw,i.cell0 i4,(Ec (j.aO 4 [3,0,1,2])).mono ?_⟩;rintro _ m ⟨rfl,g⟩;have g:=g.aO 4 [1,2,3,0];have f:d.sync w=if w.step.1 then(0,w.step.2,{{d with wait:=0}with laid:=[],has:=fz})else(14,w.step.2,d):=by unfold aZ.sync;rw[hU m7]
 rw[f];refine⟨_,i4,aR (λe=>?_) λe=>?_⟩
 ·rw[e];exact⟨i4,g.Ee ok⟩
 ·rw[e];refine⟨a,i4,g.store aj 0 i4 i4 3 [xF xL 0] i4 i4 i4 n7 λh3 k=>?_⟩;refine(Ef (d:={d with wait:=0}) s b _ k ⟨zi _,ok.len,ok.room,ok.cell,ok.laid,ok.cellL⟩ rfl).mono ?_;rintro _ o ⟨rfl,l⟩;exact⟨0,i4,i4,l⟩
theorem Oj(h:g0):an xP 145 #[xH eH] h λv h'=>v=xF xL 5/\h'=h:=by refine ts Tryz.func145 ?_ (.two .n (.two (.join [] [(2,11)] .n) .n));exact aW (bo (λ_=>⟨i4,i4⟩) λe=>j3)
theorem jX.box(H:aa B h0 h (jX pw a d::As)):∃s b:Sl,bY h a 102 (gr pw d s b)/\eT h s 1 az d.l/\s.len=i0 d.l:=by obtain⟨ok,s,b,c⟩:=H.rE;exact⟨s,b,c.box 0 i4,(c.aO 3 [1]).rP λ_=>rfl,(aa.uc (c.aO 3 [1])).1⟩
theorem Eg(s b:Sl)(c:bY h a 102 (gr pw d s b)):an xP 97 #[xH (dB a)] h λv h'=>v=xF xL d.room/\h'=h:=by refine ts Tryz.func97 ?_;exact bo (λe=>j3) λ_=>⟨a,i4,_,c.cell i4,i4,i4⟩
theorem Li(s b:Sl)(c:bY h a 102 (gr pw d s b))(f:s.len=i0 d.l):an xP 177 #[xH (dB a)] h λv h'=>v=xF xL (i0 d.l:Int)/\h'=h:=by refine ts Tryz.func177 ?_;exact bo (λe=>j3) λ_=>⟨a,i4,_,c.cell i4,by rw[f],i4⟩
theorem rY(s b:Sl)(c:bY h a 102 (gr pw d s b)):an xP 43 #[xH (dB a)] h λv h'=>v=xJ d.lost/\h'=h:=by refine ts Tryz.func43 ?_;exact bo (λ_=>⟨a,i4,_,c.cell i4,i4,i4⟩) λe=>j3
theorem GX(l:Sl)(a:Cells)(h:g0)(f:eT h l 1 az a)(y:i0 a<=2^20)(k:∀c∈a,i0 c<=2^20):an xP 51 #[l] h λv h'=>∃r:Sl,v=r/\Sp h h' [dI r a]:=by
 refine ts Tryz.func51 ?_ (.two .n (.two .n (.two (.two .n (.inn (.loop [(3,cL),(8,aQ)] [(3,4),(5,6),(8,18)] .n))) .n)));have p:=f.len;refine aq (λt:Sl×Nat=>(t.1,(t.2:Int))) (λt h'=>t.2<=i0 a/\Sp h h' [dI t.1 (a.take t.2)]) (λt=>i0 a-t.2) (⟨eH,0,0⟩,0) i4 ⟨jj,by simpa using(Sp.refl h).BE 58 5 1 az⟩ ?_;rintro⟨s,i⟩ m ⟨w,d⟩;dsimp only at*;refine ag (λe=>?_) (λe=>?_)
 ·have b:i<i0 a:=i5
  refine(f.up d.ae).get i i4 b λr o=>?_;have:=k _ (qf b);refine(fw r _ m o i5).mono ?_;rintro _ x ⟨q,rfl,u⟩;refine⟨q,i4,?_⟩;refine aa.BF aj (d.comp u) fv i9 λj h3 g=>?_;refine⟨(j,i+1),j0,⟨i7,?_⟩,i7⟩
  try dsimp only
  rw[aD _ _ b];exact g
 ·rw[qg i5]at d;exact⟨s,i4,d⟩
theorem uu(s b:Sl)(f:bY h a 102 (gr pw d s b))(i:eT h s 1 az d.l)(ok:gA d):an xP 14 #[xH (dB a)] h λv h'=>∃r:Sl,v=r/\Sp h h' [dI r d.l]:=by
 refine ts Tryz.func14 ?_;have:=ok.len;have:=ok.room;refine bo (λe=>j3) λ_=>⟨a,i4,s,f.cell i4,(GX s d.l h i i5 λc g=>by rw[ok.cell c g];decide).mono ?_⟩
 rintro _ k ⟨r,rfl,j⟩;exact⟨r,i4,r,i4,j⟩
end
theorem aax(b:Sl)(l:aL)(h:g0)(q:Rd h b 1 az l)(E:i0 l<=2^40):an xP 141 #[b] h λv h'=>v=xF xN (AU l).toNat/\h'=h:=by
 refine ts Tryz.func141 ?_ (.two .n (.two .n (.two (.two .n (.inn (.loop [(3,(.sc (.int .u32))),(9,aQ)] [(3,4),(5,7),(9,29)] (.two .n (.two .n (.two (.inn (.two .n (.two .n (.two .n (.inn (.loop [(3,(.sc (.int .u32))),(17,aQ)] [(3,4),(6,7),(17,28)] .n)))))) .n)))))) .n)));have B:=q.len;refine aq (λt:Nat=>(((sU (l.take t)).toNat:Int),(t:Int))) (λt h'=>t<=i0 l/\h'=h) (λt=>i0 l-t) 0 i4 ⟨i5,i4⟩ ?_;rintro i s ⟨A,rfl⟩;refine ag (λe=>?_) (λe=>?_)
 ·have d:i<i0 l:=by have y:(i:Int)<(b.len:Int):=e;omega
  refine q.bt i i4 d (l[i].toNat:Int) i4 ?_;have r:qe xN (l[i].toNat:Int)=((xq 32 l[i].toNat).toNat:Int):=by rw[KQ,yc]
  rw[r,TU];refine aq (λk:Nat=>(((AT k (sU (l.take i)^^^xq 32 l[i].toNat)).toNat:Int),(k:Int))) (λk h'=>k<=8/\h'=s) (λk=>8-k) 0 i4 ⟨i5,i4⟩ ?_;rintro k p ⟨D,rfl⟩;obtain⟨c,j⟩:∃c,c=AT k (sU (l.take i)^^^xq 32 l[i].toNat):=⟨_,rfl⟩
  try dsimp only
  rw[<-j];refine ag (λe2=>⟨i6,?_⟩) (λe2=>?_)
  ·have a:∀n:rQ,n=Ia c->∃f:Nat,(((n.toNat:Nat):Int),qe xL ((k:Int)+1))=(((AT f (sU (l.take i)^^^xq 32 l[i].toNat)).toNat:Int),(f:Int))/\(f<=8/\p=p)/\8-f<8-k:=λn z=>
    ⟨k+1,by rw[ai _,z,j];rfl,⟨i5,i4⟩,i5⟩
   have x:qe xN ((qO (qH xN) (c.toNat:Int)&&&qO (qH xN) (1:Int)).toNat:Nat)=((c&&&1#32).toNat:Int):=agF c 1#32;have w:qe xN ((qO (qH xN) ((c>>>1).toNat:Int)^^^qO (qH xN) (3988292384:Int)).toNat:Nat)=(((c>>>1)^^^3988292384#32).toNat:Int):=TU (c>>>1) 3988292384#32;rw[x,adq,w];refine cH (λo=>a _ ?_) (λo=>a _ ?_)
   ·unfold Ia;rw[g9 ((Ss c).1 o)]
   ·unfold Ia;rw[hU λu=>o ((Ss c).2 u)]
  ·have m:k=8:=i5
   subst m;refine⟨i+1,?_,⟨i5,i4⟩,i5⟩;rw[ai _,aD _ _ d,TT,j];rfl
 ·have g:i=i0 l:=by have y:¬(i:Int)<(b.len:Int):=e;omega
  subst g;refine⟨?_,i4⟩;rw[qN];exact congrArg (Value.int .u32) (TU 4294967295#32 (sU l))
theorem Eh(a:Int)(f:Sl)(l:aL)(h:g0)(D:Rd h f 1 az l)(T:i0 l<=2^40:=by omega):an xP 90 #[xF xL a,f] h λv h'=>∃r:Sl,v=r/\Sp h h' [af 5 r 1 az (eI a l)]:=by
 refine ts Tryz.func90 ?_ (.two .n (.two (.join [] [(4,5),(8,19)] .n) (.two .n (.two .n (.two .n (.two .n (.two (.two .n (.inn (.loop [(32,aQ)] [(7,8),(32,45)] .n))) .n)))))));have O:=D.len;have g:¬(1<=a/\a<=255/\l.length<=55)->∃r:Sl,Value.slice eH 0 0=xG r.ptr r.len r.cap/\Sp h h [af 5 r 1 az (eI a l)]:=λe=>by
  unfold eI;rw[hU e];exact⟨⟨eH,0,0⟩,i4,(Sp.refl h).nil 5 1 az⟩
 refine aW (ag (λe=>g i5) λQ=>ag (λe=>g i5) λe2=>ag (λe=>g i5) λS=>?_);refine(Sp.refl h).make aj az gz i6 0 i4 i4 64 64 i4 i4 (ql _) i6 λo B t p F=>?_;rw[eV];refine F.lit aj az gz i4 [87,115,1,b8 a] i4 (show 4*1<=2^20 by decide) i4 λv3 h3 x=>?_;refine x.HV aj 0 i4 gz (λ_=>rfl) (x.seq 1 i4 λ_=>rfl) gU λ_ s k=>⟨⟨i6,by rw[t];decide⟩,?_⟩
 have k:Sp h s [af 5 o 1 az ([87,115,1,b8 a]++qi 60 0)]:=by have:=k.bA [0];simpa using this
 refine k.Nw aj 0 i4 gz (λ_=>rfl) (Seq.up D k.ae) gU 4 jj i4 i4 λ_ y q=>⟨⟨i6,by rw[p];decide⟩,?_⟩
 have L:([87,115,1,b8 a]++qi 60 0).take 4++(l.take (i0 ([87,115,1,b8 a]++qi 60 (0:UInt8))-4)++([87,115,1,b8 a]++qi 60 0).drop (4+i0 l))=eF a l++qi 5 0:=by
  have J:i0 ([87,115,1,b8 a]++qi 60 (0:UInt8))=64:=jj
  rw[J,qg (l:=l) i5,<-zI];have B:([87,115,1,b8 a]++qi 60 (0:UInt8)).drop 4=qi 60 0:=rfl;have h3:([87,115,1,b8 a]++qi 60 (0:UInt8)).take 4=[87,115,1,b8 a]:=rfl;rw[B,h3,List.drop_replicate];unfold eF;have s:qi (60-i0 l) (0:UInt8)=qi (55-i0 l) 0++qi 5 0:=by rw[List.replicate_append_replicate];congr 1;omega
  rw[s];simp[qn]
 rw[L]at q;have b:i0 (eF a l)=59:=DB i5;have K:Rd y ⟨o.ptr,59,o.cap⟩ 1 az (eF a l):=by have:=(q.seq 0 i4 λ_=>rfl).take 59 o0;rw[yB i5,qg i5]at this;exact this
 refine(aax ⟨o.ptr,59,o.cap⟩ (eF a l) y K i5).mono ?_;rintro _ P ⟨rfl,rfl⟩;obtain⟨c,A⟩:∃c,c=AU (eF a l):=⟨_,rfl⟩
 rw[<-A];refine⟨_,i4,?_⟩;refine aq (λi:Nat=>(i:Int)) (λi h'=>i<=4/\Sp h h' [af 5 o 1 az (eF a l++((ov c).take i++qi (5-i) 0))]) (λi=>4-i) 0 i4 ⟨i5,nb⟩ ?_;rintro i R ⟨N,z⟩;have d:=Ny c;refine ag (λe=>?_) (λe=>?_)
 ·have G:i<4:=by have M:(i:Int)<4:=e;omega
  rw[ai ((8:Int)*i),ai ((59:Int)+i)];refine⟨i5,?_⟩;have H:((8:Int)*(i:Int)).toNat=8*i:=i5
  have I:min (8*i) (qH xN)=8*i:=by have:qH xN=32:=rfl;omega
  rw[H,I,eV];have E:b8 (zN (c.toNat:Int) (2^(8*i)))=(ov c)[i]'(by omega):=by simp[ov]
  rw[E];refine z.set aj 0 i4 (λ_=>rfl) i4 (59+i) i5 (by simp[b];omega) ((ov c)[i]'(by omega)) i4 i4 i4 λh8 j=>?_;refine⟨i+1,j1,⟨i5,?_⟩,i5⟩;have u:(eF a l++((ov c).take i++qi (5-i) 0)).set (59+i) ((ov c)[i]'(by omega))=eF a l++((ov c).take (i+1)++qi (5-(i+1)) 0):=by
   rw[qV _ _ i5,b,zn,qV _ _ i9,aD _ _];have:5-i=(5-(i+1))+1:=i5
   rw[this,yl];simp[d,Nat.min_eq_left (show i<=4 by omega)];rw[aD _ _ (show i<i0 (ov c) by omega),qn];rfl
  rw[u]at j;exact j
 ·have m:i=4:=by have M:¬(i:Int)<4:=e;omega
  subst m;refine z.set aj 0 i4 (λ_=>rfl) i4 63 i4 (by simp[b,d]) 165 i4 i4 i4 λh8 j=>⟨o,i4,?_⟩
  have w:(eF a l++((ov c).take 4++qi (5-4) 0)).set 63 165=eI a l:=by unfold eI;rw[g9 ⟨i5,i5,i5⟩,<-A,qg i5,qV _ _ i5,b,qV _ _ p6];simp[d]
  rw[w]at j;exact j
abbrev dN:=ByteArray×Int×Int×Sl
abbrev bm:=Int×Int×Int×Int×Int×Int×Sl×Sl
abbrev bc(x:dN):aT:=[xI x.1,xF xL x.2.1,xF xL x.2.2.1,x.2.2.2]
abbrev aA(x:bm):aT:=[xF xL x.1,xF xL x.2.1,xF xL x.2.2.1,xF xL x.2.2.2.1,xF xL x.2.2.2.2.1,xF xL x.2.2.2.2.2.1,x.2.2.2.2.2.2.1,x.2.2.2.2.2.2.2]
abbrev dz(x:bm):Value:=xK #[xF xL x.1,xF xL x.2.1,xF xL x.2.2.1,xF xL x.2.2.2.1,xF xL x.2.2.2.2.1,xF xL x.2.2.2.2.2.1,x.2.2.2.2.2.2.1,x.2.2.2.2.2.2.2]
def fp:iK dN Qw.cu:=⟨λh q a b=>(a.1=b.name/\a.2.1=b.object/\a.2.2.1=b.length)/\Seq h q a.2.2.2 1 ak b.tries,λa d=>⟨a.1,a.2.ae d⟩,λa c=>⟨a.1,a.2.mono c⟩⟩
abbrev pY:iK Sl (List Qw.cu):=bC fp 4 bc
structure pv (h:g0) (q:aw) (x:bm) (m:av):Prop where
 seq:x.1=m.seq
 next:x.2.1=m.next
 p:(x.2.2.1,x.2.2.2.1,x.2.2.2.2.1)=m.p
 extra:x.2.2.2.2.2.1=m.extra
 drives:Seq h q x.2.2.2.2.2.2.1 1 ak m.drives
 objs:pY.p h q x.2.2.2.2.2.2.2 m.objs
 dcap:x.2.2.2.2.2.2.1.len<=x.2.2.2.2.2.2.1.cap
 ocap:x.2.2.2.2.2.2.2.len<=x.2.2.2.2.2.2.2.cap
abbrev dh(h:g0)(x:bm)(m:av):Prop:=pv h (λb=>b<h.size) x m
theorem pv.ae{h h':g0}{q:aw}{x:bm}{m:av}(a:pv h q x m)(b:aP q h h'):pv h' q x m:=⟨a.seq,a.next,a.p,a.extra,a.drives.ae b,pY.loc a.objs b,a.dcap,a.ocap⟩
theorem pv.mono{h:g0}{q q':aw}{x:bm}{m:av}(a:pv h q x m)(c:∀b,q b->q' b):pv h q' x m:=⟨a.seq,a.next,a.p,a.extra,a.drives.mono c,pY.mono a.objs c,a.dcap,a.ocap⟩
theorem dh.up{h h':g0}{x:bm}{m:av}(a:dh h x m)(c:aP (λb=>b<h.size) h h'):dh h' x m:=(pv.ae a c).mono λ_ d=>qZ d c.1
def bh(x:bm)(m:av):HP:=⟨λh q=>pv h q x m,λa c=>a.ae c,λa b=>a.mono b⟩
theorem FE:∀x,∀c∈bc x,c.oneCell'=eX:=by intro x c a;simp[bc]at a;rcases a with rfl|rfl|rfl|rfl<;>rfl
theorem pZ(n a b:Int)(h:g0):an xP 147 #[xF xL n,xF xL a,xF xL b] h λv h'=>v=xJ (fy n a b)/\h'=h:=by
 refine ts Tryz.func147 ?_;unfold fy;refine ag (λe=>⟨?_,i4⟩) (λe=>⟨?_,i4⟩)
 ·rw[hY (show a<=n from e)];rfl
 ·rw[hZ (show¬a<=n from e)];rfl
theorem Lj(s:ByteArray)(h:g0)(H:s.size<=2^40):an xP 110 #[xI s] h λv h'=>v=xJ (kW s)/\Sp h h' []:=by
 refine ts Tryz.func110 ?_ (.two .n (.two (.two .n (.inn (.loop [(8,aQ)] [(2,3),(4,5),(8,31)] .n))) .n));refine ads aj ⟨_,i4,i4⟩ ⟨_,i4,i4⟩ ⟨_,i4,i4⟩ s λr A p=>?_;have y:=p.rd 0 i4;have B:=y.len;have E:=BH s;refine aq (λi:Nat=>(i:Int)) (λi h'=>i<=s.size/\h'=A/\∀c∈(jl s).take i,mP c=eX) (λi=>s.size-i) 0 i4 ⟨i5,i4,jj⟩ ?_;rintro i w ⟨G,rfl,d⟩;refine ag (λe=>?_) (λe=>?_)
 ·have j:i<i0 (jl s):=by have F:(i:Int)<(r.len:Int):=e;omega
  refine y.bt i i4 j ((jl s)[i].toNat:Int) i4 ?_;obtain⟨c,t⟩:∃c,c=(jl s)[i]:=⟨_,rfl⟩
  rw[<-t];have a:mP c=eX->∃o:Nat,qe xL ((i:Int)+1)=(o:Int)/\(o<=s.size/\w=w/\∀c∈(jl s).take o,mP c=eX)/\s.size-o<s.size-i:=λq=>
   ⟨i+1,j1,⟨i5,i4,λx k=>by
    rw[aD _ _ j]at k;rcases qz.1 k with k|k
    ·exact d x k
    ·rw[qu.1 k,<-t];exact q⟩,i5⟩
  have g:mP c=fz->Value.bool fz=xJ (kW s)/\Sp h w []:=λq=>by
   refine⟨?_,p.bA []⟩;unfold kW;have:s.data.toList.all mP=fz:=yE.2 ⟨c,by rw[t];exact qf j,by rw[q];simp⟩;rw[this];rfl
  have b:mP c=eX↔((97<=(c.toNat:Int)/\(c.toNat:Int)<=122)∨(48<=(c.toNat:Int)/\(c.toNat:Int)<=57)∨(c.toNat:Int)=45):=by unfold mP;simp[or_assoc];omega
  have f:mP c=fz↔¬((97<=(c.toNat:Int)/\(c.toNat:Int)<=122)∨(48<=(c.toNat:Int)/\(c.toNat:Int)<=57)∨(c.toNat:Int)=45):=by rw[<-b];cases mP c<;>simp
  refine ag (λu=>ag (λe2=>bx (λm=>g (f.2 i5)) λm=>a (b.2 i5)) λe2=>ag (λm=>bx (λl=>g (f.2 i5)) λl=>a (b.2 i5)) λm=>a (b.2 i5)) λu=>ag (λe2=>ag (λm=>bx (λl=>g (f.2 i5)) λl=>a (b.2 i5)) λm=>ag (λl=>bx (λD=>g (f.2 i5)) λD=>a (b.2 i5)) λl=>a (b.2 i5)) λe2=>a (b.2 i5)
 ·have F:¬(i:Int)<(r.len:Int):=e;rw[qg i5]at d;have z:s.data.toList.all mP=eX:=qJ.2 d;refine ag (λu=>⟨?_,p.bA []⟩) (λu=>⟨?_,p.bA []⟩)
  ·unfold kW;rw[z,hY (show 1<=s.size by omega)];congr 1;simp;omega
  ·unfold kW;rw[z,hZ (show¬1<=s.size by omega)];rfl
theorem Xi(s:Sl)(l:aB)(most:Int)(h:g0)(r:Rd h s 1 ak l)(z:i0 l<=2^40):an xP 148 #[s,xF xL most] h λv h'=>v=xJ (oZ l most)/\h'=h:=by
 refine ts Tryz.func148 ?_ (.two .n (.two (.two .n (.inn (.loop [(9,aQ)] [(4,7),(9,32)] .n))) .n));have w:=r.len;refine aq (λi:Nat=>(i:Int)) (λi h'=>i<=i0 l/\h'=h/\∀j,j<i->jS l most j=eX) (λi=>i0 l-i) 0 i4 ⟨i5,i4,i5⟩ ?_;rintro i g ⟨y,rfl,a⟩;refine ag (λe=>?_) (λe=>?_)
 ·have c:i<i0 l:=by have x:(i:Int)<(s.len:Int):=e;omega
  refine r.bt i i4 c l[i] i4 ?_;have m:l.getD i 0=l[i]:=getD_lt c;have d:jS l most i=fz->Value.bool fz=xJ (oZ l most)/\g=g:=λq=>⟨by unfold oZ;rw[DC c q],i4⟩
  have b:jS l most i=eX->∃o:Nat,qe xL ((i:Int)+1)=(o:Int)/\(o<=i0 l/\g=g/\∀j,j<o->jS l most j=eX)/\l.length-o<i0 l-i:=λq=>
   ⟨i+1,j1,⟨i5,i4,λj t=>by
    by_cases p:j=i
    ·rw[p];exact q
    ·exact a j i5⟩,i5⟩
  refine(pZ l[i] 0 most g).mono ?_;rintro _ _ ⟨rfl,rfl⟩;refine⟨_,i4,aR (λf=>d (by unfold jS;rw[m,f];rfl)) λf=>ag (λe2=>?_) λe2=>b (by unfold jS;rw[m,f,hY (show i=0 by omega)];rfl)⟩;rw[ai ((i:Int)-1)];refine r.bt (i-1) i5 i5 (l[i-1]'(by omega)) i4 ?_;have k:l.getD (i-1) 0=l[i-1]'(by omega):=getD_lt;refine ag (λu=>d ?_) (λu=>b ?_)
  ·unfold jS;rw[m,k,f,hZ (show¬i=0 by omega),hZ i5];rfl
  ·unfold jS;rw[m,k,f,hY (show l[i-1]'(by omega)<l[i]by omega)];simp
 ·have x:¬(i:Int)<(s.len:Int):=e;exact⟨by unfold oZ;rw[sv λj t=>a j i5],i4⟩
theorem px(p:Pm)(n:Int)(h:g0)(r:n<=2^40:=by omega):an xP 67 #[jW p,xF xL n] h λv h'=>v=xF xL (countP p n)/\Sp h h' []:=by
 refine ts Tryz.func67 ?_ (.two .n (.two (.join [] [(4,12)] .n) .n)) (args:=[p,(n:Int)]);refine(Sp.refl h).boxed λm d g=>?_;refine aW ⟨p,(g.box 0 i4).aF _ i4,(dZ p d).mono ?_⟩;rintro _ j ⟨rfl,l⟩;have b:=g.up l.ae;refine⟨_,i4,aR (λe=>⟨?_,b.bA []⟩) λf=>ag (λe=>⟨?_,b.bA []⟩) λe=>?_⟩
 ·unfold countP;rw[e];rfl
 ·unfold countP;rw[hZ (show¬0<n by omega),Bool.and_false];rfl
 ·have k:=(bT p).1 f;refine⟨p,(b.box 0 i4).aF _ i4,?_⟩;refine(AX p (R:=λv h'=>v=xF xL (p.1*p.2.2)/\Sp h h' []) ?_).mono ?_
  ·skip
   refine b.boxed λq h3 c=>⟨p.1,(c.box 1 i4).cell0 i4,p.2.2,(c.box 1 i4).cell i4,?_,c.bA []⟩
   have o:p.1*p.2.2<=16*24:=w7 i5 i5 i5 i5;have a:0<=p.1*p.2.2:=vT i5 i5;rw[ai _]
  ·rintro _ h3 ⟨rfl,i⟩;have a:0<p.1*p.2.2:=xv i5 i5;refine⟨_,i4,Int.ne_of_gt a,?_,i⟩;have d:(n-1)/(p.1*p.2.2)<=n-1:=xd _ i5;have j:0<=(n-1)/(p.1*p.2.2):=xm i5 i5;rw[ai (n-1),Int.tdiv_eq_ediv_of_nonneg i5,ai ((n-1)/(p.1*p.2.2)),ai _];unfold countP;rw[f,hY (show 0<n by omega)];rfl
theorem Qx(s:Sl)(l:aB)(h:g0)(f:Rd h s 1 ak l)(k:i0 l<=2^40):an xP 121 #[s,.func (.func 218) #[] #[]] h λv h'=>v=xJ (!l.all (fy · 0 15))/\h'=h:=by
 refine ts Tryz.func121 ?_ (args:=[s,(.func (.func 218) #[] #[])]);have g:=f.len;refine(iN s (218,#[],#[]) (R:=λv h'=>(∃i:Int,v=xF xL i/\(decide (i>=0)=!l.all (fy · 0 15)))/\h'=h) ?_).mono ?_
 ·skip
  refine aq (λi:Nat=>(i:Int)) (λi h'=>i<=i0 l/\(l.take i).all (fy · 0 15)=eX/\h'=h) (λi=>i0 l-i) 0 i4 ⟨i5,jj,i4⟩ ?_;rintro i c ⟨d,a,rfl⟩;refine ag (λe=>?_) (λe=>?_)
  ·have b:i<i0 l:=by have j:(i:Int)<(s.len:Int):=e;omega
   refine f.bt i i4 b l[i] i4 (dT lb ?_);refine(GV l[i] (R:=λv h'=>v=xJ (!fy l[i] 0 15)/\h'=c) ?_).mono ?_
   ·skip
    refine(pZ l[i] 0 15 c).mono ?_;rintro _ _ ⟨rfl,rfl⟩;exact⟨_,i4,i4,i4⟩
   ·rintro _ _ ⟨rfl,rfl⟩;refine⟨_,i4,aR (λe2=>?_) λe2=>?_⟩
    ·refine⟨⟨i,i4,?_⟩,i4⟩;rw[hY (show(i:Int)>=0 by omega)];have:l.all (fy · 0 15)=fz:=yE.2 ⟨_,qf b,by rw[e2];simp⟩;rw[this];rfl
    ·refine⟨i+1,j1,⟨i5,?_,i4⟩,i5⟩;rw[aD _ _ b,yZ,a];simp[e2]
  ·have j:¬(i:Int)<(s.len:Int):=e;refine⟨⟨-1,i4,?_⟩,i4⟩;rw[qg i5]at a;rw[a];rfl
 ·rintro _ c ⟨⟨i,rfl,d⟩,rfl⟩;exact⟨i,i4,by rw[d],i4⟩
structure cF (m:av):Prop where
 dr:m.drives.length<=2^30
 ob:m.objs.length<=2^30
 nm:∀e∈m.objs,e.name.size<=2^30/\e.tries.length<=2^30
theorem addr_add(a:f8)(i j:Nat):(a.add i).add j=a.add (i+j):=by unfold Addr.add;by_cases b:i=0<;>by_cases c:j=0<;>simp[b,c,w5]
theorem bY.uv{h:g0}{a:f8}{e:TypeId}{b:aT}{v:Value}(c:bY h a e b)(i j:Nat)(d:b[i+j]?=dB v):f9 h ((a.add i).add j)=dB v:=by rw[addr_add];exact c.cell d
theorem bY.Aa{h:g0}{a:f8}{e:TypeId}{b:aT}{u v w:Value}(c:bY h a e b)(i:Nat)(g:b[i]?=dB u)(d:b[i+1]?=dB v)(f:b[i+2]?=dB w):bn h (a.add i) 0 [u,v,w]:=
 ⟨c.uv i 0 g,c.uv i 1 d,c.uv i 2 f,trivial⟩
abbrev Kg:bG C.toAQ 37 88 4 [xI ⟨#[]⟩,xF xL 0,xF xL 0,xG eH 0 0] 56:=⟨_,_,i4,i4,i4,i4,i4,i4⟩
theorem Uu(x:bm)(m:av)(e:dN)(E:Qw.cu)(h:g0)(k:dh h x m)(L:dQ fp h e E)(H:kX m=eX)(S:E.name.size<=2^30)(N:E.tries.length<=2^30):
  an xP 149 #[dz x,xK #[xI e.1,xF xL e.2.1,xF xL e.2.2.1,e.2.2.2]] h λv h'=>v=xJ (gE m E)/\Sp h h' []:=by
 refine ts Tryz.func149 ?_ (.two .n (.two (.join [] [(4,5),(6,33)] .n) .n)) (args:=[x,e]);obtain⟨_,B,d,_⟩:=Nz H;have I:=(bT m.p).1 d;obtain⟨⟨D,e2,y⟩,t⟩:=L;have c:x.2.2.1=m.p.1:=congrArg (·.1) k.p;have o:x.2.2.2.1=m.p.2.1:=congrArg (·.2.1) k.p;have f:x.2.2.2.2.1=m.p.2.2:=congrArg (·.2.2) k.p;have Q:m.p.1*m.p.2.2<=16*24:=w7 i5 i5 i5 i5;have z:0<=m.p.1*m.p.2.2:=vT i5 i5;refine(Sp.refl h).boxed λM O K=>?_;refine K.boxed λR G s=>?_;have j:∀{h':g0} {As:List HP},Sp h h' As->gE m E=fz->Value.bool fz=xJ (gE m E)/\Sp h h' []:=λ{h' As} H' g=>⟨by rw[g],.zip H'.ae⟩
 refine aW ⟨E.name,by rw[<-D];exact(s.box 1 i4).cell0 i4,(Lj E.name G i5).mono ?_⟩;rintro _ h3 ⟨rfl,F⟩;have a:=s.up F.ae;refine⟨_,i4,aR (λb=>j a (by unfold gE;rw[b];rfl)) λi=>?_⟩;refine⟨E.object,by rw[<-e2];exact(a.box 1 i4).cell i4,m.next,by rw[<-k.next];exact(a.box 0 i4).cell i4,?_⟩
 try dsimp only
 rw[ai (m.next-1)];refine(pZ E.object 0 (m.next-1) h3).mono ?_;rintro _ _ ⟨rfl,rfl⟩;refine⟨_,i4,aR (λb=>j a (by unfold gE;rw[i,b];rfl)) λr=>?_⟩;have g:=a.box 0 i4;refine⟨E.length,by rw[<-y];exact(a.box 1 i4).cell i4,m.p.1,by rw[<-c];exact g.cell i4,m.p.2.2,by rw[<-f];exact g.uv 2 2 i4,?_⟩
 try dsimp only
 rw[ai (m.p.1*m.p.2.2),ai (m.p.1*m.p.2.2*8)];refine(pZ E.length 0 (m.p.1*m.p.2.2*8) _).mono ?_;rintro _ _ ⟨rfl,rfl⟩;refine⟨_,i4,aR (λb=>j a (by unfold gE;rw[i,r,b];rfl)) λl=>?_⟩;have w:0<=E.length/\E.length<=m.p.1*m.p.2.2*8:=by unfold fy at l;simpa using l
 refine⟨e.2.2.2,(a.box 1 i4).cell i4,?_⟩;refine(Qx e.2.2.2 E.tries _ (Seq.up t a.ae) i5).mono ?_;rintro _ _ ⟨rfl,rfl⟩;refine⟨_,i4,aR (λb=>?_) λb=>⟨trivial,j a ?_⟩⟩
 ·have q:E.tries.all (fy · 0 15)=eX:=k8
  refine⟨e.2.2.2,(a.box 1 i4).cell i4,m.p,?_,E.length,by rw[<-y];exact(a.box 1 i4).cell i4,?_⟩
  ·rw[<-c,<-o,<-f];exact g.Aa 2 i4 i4 i4
  ·refine(px m.p E.length _).mono ?_;rintro _ P ⟨rfl,J⟩;have u:=a.up J.ae;refine⟨_,i4,⟨(u.box 1 i4).cell i4,trivial⟩,?_,.zip u.ae⟩;unfold gE;have A:=t.len;rw[i,r,l,q,A];simp;rfl
 ·have q:E.tries.all (fy · 0 15)=fz:=k8
  unfold gE;rw[i,r,l,q];rfl
theorem Qy(a:f8)(e:dN)(l:Sl)(b:List Qw.cu)(h:g0)(q:bY h a 88 (bc e))(p:dQ pY h l b)(E:b.length<=2^30):
  an xP 150 #[l,.func (.func 151) #[] #[xH (dB a)]] h λv h'=>v=xJ (b.any λy=>decide (y.object=e.2.1))/\Sp h h' []:=by
 refine ts Tryz.func150 ?_ (args:=[l,(.func (.func 151) #[] #[xH (dB a)])]);refine(ir l (151,#[],#[xH (dB a)]) (R:=λv h'=>(∃i:Int,v=xF xL i/\(decide (i>=0)=b.any λy=>decide (y.object=e.2.1)))/\Sp h h' []) ?_).mono ?_
 ·skip
  obtain⟨r,z,D,B⟩:=bC.kb p;have u:=bC.len p;refine aq (λi:Nat=>(i:Int)) (λi h'=>i<=b.length/\(b.take i).any (λy=>decide (y.object=e.2.1))=fz/\Sp h h' []) (λi=>b.length-i) 0 i4 ⟨i5,jj,Sp.refl h⟩ ?_;rintro i n ⟨o,c,j⟩;refine ag (λm=>?_) (λm=>?_)
  ·have d:i<b.length:=by have x:(i:Int)<(l.len:Int):=m;omega
   obtain⟨⟨_,w,_⟩,_⟩:=B i i5 d;refine(Seq.up z j.ae).cU (g:=bc) i i4 i5 (r[i]'(by omega)) i4 (dT lb ?_);refine(Ke (r[i]'(by omega)) a (R:=λv h'=>v=xJ (b[i].object==e.2.1)/\Sp n h' []) ?_).mono ?_
   ·skip
    refine(Sp.refl n).boxed λF s f=>?_;have k:=q.ae (up j.ae f.ae) q.lt;exact⟨b[i].object,by rw[<-w];exact(f.box 0 i4).cell i4,e.2.1,k.cell i4,i4,.zip f.ae⟩
   ·rintro _ s ⟨rfl,A⟩;have f:=j.up A.ae;refine⟨_,i4,cH (λe2=>?_) λe2=>?_⟩
    ·refine⟨⟨i,i4,?_⟩,f⟩;rw[hY (show(i:Int)>=0 by omega)];exact(wg.2 ⟨_,qf d,oa⟩).symm
    ·refine⟨i+1,j1,⟨i5,?_,f⟩,i5⟩;rw[aD _ _ d,y0,c];simpa using e2
  ·have x:¬(i:Int)<(l.len:Int):=m;refine⟨⟨-1,i4,?_⟩,j⟩;rw[qg i5]at c;rw[c];rfl
 ·rintro _ n ⟨⟨i,rfl,o⟩,t⟩;exact⟨i,i4,by rw[o],t⟩
theorem Cg(x:bm)(m:av)(h:g0)(k:dh h x m)(M:cF m):an xP 100 #[dz x] h λv h'=>v=xJ (bf m)/\Sp h h' []:=by
 refine ts Tryz.func100 ?_ (.two .n (.two (.join [] [(2,3),(5,27)] .n) (.two (.join [] [(2,3),(27,37)] .n) (.two (.two .n (.inn (.loop [(40,aQ)] [(2,5),(40,72)] (.two .n (.two .n (.two (.inn (.two .n (.two (.join [] [(2,3),(45,65)] .n) .n))) .n)))))) .n)))) (args:=[x]);refine(Sp.refl h).boxed λR h1 H=>?_;have u:=H.box 0 i4;have S:x.2.2.1=m.p.1:=congrArg (·.1) k.p;have O:x.2.2.2.1=m.p.2.1:=congrArg (·.2.1) k.p;have L:x.2.2.2.2.1=m.p.2.2:=congrArg (·.2.2) k.p;have A:∀{h':g0} {As:List HP},Sp h h' As->bf m=fz->Value.bool fz=xJ (bf m)/\Sp h h' []:=λ{h' As} H' u=>⟨by rw[u],.zip H'.ae⟩
 refine aW ⟨m.seq,by rw[<-k.seq];exact u.cell0 i4,(pZ m.seq 1 2147483647 h1).mono ?_⟩;rintro _ _ ⟨rfl,rfl⟩;refine⟨_,i4,aR (λb=>A H (by unfold bf kX;rw[b];rfl)) λF=>?_⟩;refine⟨m.next,by rw[<-k.next];exact u.cell i4,(pZ m.next 0 16777216 _).mono ?_⟩;rintro _ _ ⟨rfl,rfl⟩;refine⟨_,i4,aR (λb=>A H (by unfold bf kX;rw[F,b];rfl)) λQ=>?_⟩;refine⟨m.p,by rw[<-S,<-O,<-L];exact u.Aa 2 i4 i4 i4,(dZ m.p _).mono ?_⟩;rintro _ h2 ⟨rfl,R2⟩;have o:=H.up R2.ae;refine⟨_,i4,aR (λb=>A o (by unfold bf kX;rw[F,Q,b];rfl)) λb3=>?_⟩;refine⟨m.extra,by rw[<-k.extra];exact(o.box 0 i4).cell i4,(pZ m.extra 0 16 _).mono ?_⟩;rintro _ _ ⟨rfl,rfl⟩;refine⟨_,i4,aR (λb=>A o (by unfold bf kX;rw[F,Q,b3,b];rfl)) λb4=>?_⟩;have G:kX m=eX:=by unfold kX;rw[F,Q,b3,b4];rfl
 have P:=k.up o.ae;have s:=o.box 0 i4;have ah:=M.dr;have al:=M.ob;refine aW ⟨_,s.cell i4,(Xi _ m.drives 63 _ P.drives i5).mono ?_⟩;rintro _ _ ⟨rfl,rfl⟩;refine⟨_,i4,aR (λb=>A o (by unfold bf;rw[G,b];rfl)) λZ=>?_⟩;have W:=bC.len k.objs;refine⟨x.2.2.2.2.2.2.2,s.cell i4,ag (λe=>A o ?_) λad=>?_⟩
 ·unfold bf;rw[G,Z,hZ i5];rfl
 have N:i0 m.objs<=12:=i5
 refine⟨x.2.2.2.2.2.2.2,s.cell i4,?_⟩;obtain⟨l,E⟩:=bC.fix k.objs;have ab:=E.2.1;refine aq (λi:Nat=>(i:Int)) (λi h'=>i<=i0 m.objs/\(∀j,j<i->pc m j=eX)/\Sp h h' [ac R 39 (aA x)]) (λi=>i0 m.objs-i) 0 i4 ⟨i5,i5,o⟩ ?_;rintro i h3 ⟨hi,r,T⟩;refine ag (λe=>?_) (λe=>?_)
 ·have c:i<i0 m.objs:=by have e':(i:Int)<(x.2.2.2.2.2.2.2.len:Int):=e;omega
  have D:=M.nm _ (qf c);have f:oY m.objs i=m.objs[i]:=ow c;have z:∀{h':g0} {As:List HP},Sp h h' As->pc m i=fz->Value.bool fz=xJ (bf m)/\Sp h h' []:=λ{h' As} H' u=>A H' (by unfold bf;rw[DC c u];simp);have F3:=nQ.up E T.ae;refine F3.1.cU (g:=bc) i i4 i5 (l[i]'(by omega)) i4 ?_;refine T.alloc aj i4 λy h4 H4=>?_;refine H4.storeAll aj 1 i4 i4 (bc (l[i]'(by omega))) i4 i4 i4 i4 λh5 B=>?_;have B:Sp h h5 [ac R 39 (aA x),ac y 88 (bc (l[i]'(by omega)))]:=B;have F5:=nQ.up E B.ae;obtain⟨⟨y1,y2,y3⟩,y4⟩:=Fix.row F5 c;obtain⟨b6,d⟩:∃b,b=(decide (i=0)||fm (oY m.objs (i-1)).name (oY m.objs i).name):=⟨_,rfl⟩
  refine bL (λ_ h'=>gE m m.objs[i]=eX/\b6=eX/\Sp h h' [ac R 39 (aA x),ac y 88 (bc (l[i]'(by omega)))]) ?_ ?_
  ·refine⟨x,(B.box 0 i4).aF _ i4,l[i]'(by omega),(B.box 1 i4).aF _ i4,?_⟩;refine(Uu x m (l[i]'(by omega)) m.objs[i] h5 (k.up B.ae) (Fix.row F5 c) G D.1 D.2).mono ?_;rintro _ X ⟨rfl,R6⟩;have a:=B.up R6.ae;have I:=nQ.up E a.ae;refine⟨_,i4,trivial,aR (λb=>z a (by unfold pc;rw[f,b];rfl)) λb=>ag (λe2=>?_) λe2=>⟨b,by rw[d,hY (show i=0 by omega)];rfl,a⟩⟩;rw[ai ((i:Int)-1)];obtain⟨U,ha,zz,hc,rfl⟩:=I.1.cU (g:=bc) (i:=(i:Int)-1) (i-1) i5 i5 (l[i-1]'(by omega)) rfl (K:=λt=>t=l[i-1]'(by omega)) rfl;refine⟨x.2.2.2.2.2.2.2,(a.box 0 i4).cell i4,U,ha,m.objs[i-1].name,?_,m.objs[i].name,?_,?_⟩
   ·rw[<-(Fix.row I (show i-1<i0 m.objs by omega)).1.1];exact hc.1
   ·rw[<-y1];exact(a.box 1 i4).cell0 i4
   ·have q:oY m.objs (i-1)=m.objs[i-1]:=ow;rw[f,q]at d;refine aR (λw=>z a ?_) (λw=>⟨b,?_,a⟩)
    ·unfold pc;rw[f,q,b,hZ (show¬i=0 by omega)];unfold fm;rw[w];rfl
    ·rw[d];unfold fm;rw[w];simp
  ·rintro _ X ⟨b,J,a⟩;have I:=nQ.up E a.ae;refine⟨x.2.2.2.2.2.2.2,(a.box 0 i4).cell i4,⟨i5,by have:=k.ocap;omega⟩,?_⟩;rw[qj];refine(Qy y (l[i]'(by omega)) ⟨x.2.2.2.2.2.2.2.ptr,i,x.2.2.2.2.2.2.2.cap⟩ (m.objs.take i) X (a.box 1 i4) (bC.take I.elt i i5) i9).mono ?_;rintro _ h7 ⟨rfl,R7⟩;have Y:=a.up R7.ae;rw[y2];refine⟨_,i4,bo (λw=>z Y ?_) λw=>?_⟩
   ·unfold pc;rw[f,w];simp
   ·refine⟨i+1,j1,⟨i5,λj hj=>?_,Y.bA [0]⟩,i5⟩;by_cases V:j=i
    ·subst V;rw[J]at d;unfold pc;rw[<-d,f,b,w];rfl
    ·exact r j i5
 ·have e':¬(i:Int)<(x.2.2.2.2.2.2.2.len:Int):=e;refine⟨?_,.zip T.ae⟩;unfold bf;rw[G,Z,hY N,sv λj hj=>r j i5];rfl
theorem rF(s:Sl)(l:aL)(n:Int)(k:Nat)(x:k<=4)(r:i0 l<=2^20)(H:aa B h0 h (af 5 s 1 az l::As)):
  an xP 152 #[s,xF xL n,xF xL k] h λv h'=>∃b:Sl,v=b/\aa B h0 h' (af 5 b 1 az (l++bE n k)::As):=by
 refine ts Tryz.func152 ?_ (.two .n (.two (.two .n (.inn (.loop [(0,cL),(7,aQ)] [(0,1),(7,8),(10,22)] .n))) .n));have p:=cA n k;refine aq (λt:Sl×Nat=>(t.1,(k:Int)-1-t.2)) (λt h'=>t.2<=k/\aa B h0 h' (af 5 t.1 1 az (l++(bE n k).take t.2)::As)) (λt=>k-t.2) (s,0) (by rw[ai _];simp) ⟨jj,l0⟩ ?_;rintro⟨o,j⟩ u ⟨q,a⟩;dsimp only at*;refine ag (λe=>?_) (λe=>?_)
 ·have m:j<k:=i5
  rw[ai ((8:Int)*((k:Int)-1-j))];refine⟨i5,?_⟩;have g:((8:Int)*((k:Int)-1-j)).toNat=8*(k-1-j):=i5
  have i:min (8*(k-1-j)) (qH xL)=8*(k-1-j):=by have:qH xL=64:=rfl;omega
  rw[g,i,eV];have c:b8 (zN n (2^(8*(k-1-j))))=(bE n k)[j]'(by omega):=by simp[bE]
  rw[c];refine a.push aj 0 i4 gz i4 i6 (λ_=>rfl) gU ((bE n k)[j]'(by omega)) i4 i6 i9 λf w d=>?_;refine⟨(f,j+1),by dsimp only;rw[ai _];congr 1;omega,⟨i7,?_⟩,i7⟩
  try dsimp only
  rw[aD _ _ (show j<i0 (bE n k) by omega),<-qn];exact d
 ·rw[qg i5]at a;exact⟨o,i4,a⟩
theorem Iq(b:Sl)(l:aB)(o:Sl)(c:aL)(H:aa B h0 h (af 5 o 1 az c::As))(r:St B h0 As λh=>Rd h b 1 ak l)(F:i0 c<=2^30)(E:i0 l<=2^30){K:Sl×Int->g0->Prop}
  (y:∀q h',aa B h0 h' (af 5 q 1 az (c++l.map b8)::As)->K (q,(i0 l:Int)) h'):
  gK (σ:=Sl×Int) (λa v h8=>
 Br (decide (a.2<((b.len:Nat):Int)))
 (∃j:f8,(b.ptr=dB j/\0<=a.2/\a.2<((b.len:Nat):Int))/\
 ∃k:Int,f9 h8 (j.add (a.2.toNat*1))=dB (xF xL k)/\
 bz xP (Instr.buildSlice 58 1 #[(0,(xF xM (qe xM k)))]) (.one (.sc .slc)) h8 λf z=>
 bz xP (Builtin.append_ #[58,58] 58 #[(xG a.1.ptr a.1.len a.1.cap),(xG f.ptr f.len f.cap)]) (.one (.sc .slc)) z λd p=>
 v ((⟨d.ptr,d.len,d.cap⟩:Sl),qe xL (a.2+(1:Int))) p)
 (K a h8)) (o,(0:Int)) h:=by
 have A:b.len=i0 l:=(r.at [_] H).len;refine aq (λt:Sl×Nat=>(t.1,(t.2:Int))) (λt h'=>t.2<=i0 l/\aa B h0 h' (af 5 t.1 1 az (c++(l.take t.2).map b8)::As)) (λt=>i0 l-t.2) (o,0) i4 ⟨jj,l0⟩ ?_;rintro⟨u,i⟩ x ⟨D,m⟩;dsimp only at*;refine ag (λe=>?_) (λe=>?_)
 ·have g:i<i0 l:=i5
  refine(r.at [_] m).bt i i4 g l[i] i4 ?_;rw[eV];refine m.push aj 0 i4 gz i4 i6 (λ_=>rfl) gU (b8 l[i]) i4 i6 i9 λw G s=>?_;refine⟨(w,i+1),j0,⟨i7,?_⟩,i7⟩
  try dsimp only
  rw[aD _ _ g,qL,<-qn];exact s
 ·have n:i=i0 l:=i5
  subst n;rw[qN]at m;exact y u x m
theorem adK{m:av}(a:bf m=eX){i:Nat}(b:i<i0 m.objs):gE m m.objs[i]=eX:=by
 unfold bf at a;simp only[qy]at a;have:=qJ.1 a.2.2.2 i (qA.2 b);unfold pc at this;simp only[qy]at this;have c:=this.1
 rwa [ow b]at c
theorem Xj{m:av}(d:bf m=eX){i:Nat}(g:i<m.objs.length):m.objs[i].name.size<=12/\m.objs[i].tries.length<=3073:=by
 have b:=adK d g;unfold gE kW at b;simp only[qy,decide_eq_true_eq]at b;obtain⟨⟨_,_,h⟩,_,h3,_,c⟩:=b;refine⟨h,?_⟩;obtain⟨_,_,a,_⟩:=Nz (Wx d);have e:=(bT m.p).1 a;unfold fy at h3;simp only[qy,decide_eq_true_eq]at h3;have j:m.p.1*m.p.2.2<=16*24:=w7 i5 i5 i5 i5;unfold countP at c;split at c
 ·have:(m.objs[i].length-1)/(m.p.1*m.p.2.2)<=m.objs[i].length-1:=xd _ (by rename_i f;simp at f;omega);omega
 ·omega
theorem Xk{m:av}(b:bf m=eX){i:Nat}(a:i<i0 m.objs):i0 (fQ m.objs[i])<=4000:=by have:=Xj b a;unfold fQ;simp[cA];have:m.objs[i].name.data.size=m.objs[i].name.size:=rfl;omega
theorem Ei{m:av}(a:bf m=eX):∀n,n<=i0 m.objs->i0 ((m.objs.take n).flatMap fQ)<=n*4000
 |0,_=>jj
 |n+1,hn=>by
  rw[aD _ _ (show n<i0 m.objs by omega),qY,qw];have b:=Ei a n i5;have c:=Xk a (show n<i0 m.objs by omega);have h3:i0 ([m.objs[n]].flatMap fQ)=i0 (fQ m.objs[n]):=by rw[za,zS,qE]
  omega
theorem GY{m:av}(a:bf m=eX):i0 m.objs<=12:=by unfold bf at a;simp only[qy,decide_eq_true_eq]at a;exact a.2.2.1
theorem GZ(m:av)(k:cF m):i0 (bK m)<=100000:=by
 unfold bK;split
 ·rename_i c;have e:=c;unfold bf at e;simp only[qy,decide_eq_true_eq]at e;have h:i0 m.drives<=64:=by
   have a:=e.2.1;unfold oZ at a;rw[qJ]at a;by_cases g:i0 m.drives<=64
   ·exact g
   ·exfalso;have f:∀i,i<i0 m.drives->(i:Int)<=m.drives.getD i 0:=λi=>by
     induction i with
     |zero=>
      intro d;have:=a 0 (qA.2 d);unfold jS fy at this;simp at this;simpa using this.1
     |succ i ih=>
      intro d;have:=a (i+1) (qA.2 d);have h3:=ih i5;unfold jS fy at this;simp at this;have b:=this.2;simp only[qd]at h3⊢;omega
    have h3:=f 64 i5;have b:=a 64 (qA.2 i5);unfold jS fy at b;simp at b;simp only[qd]at h3;omega
  have j:i0 (m.objs.flatMap fQ)<=12*4000:=by have a:=Ei c m.objs.length (ql _);rw[qN]at a;have:=zD 4000 (GY c);omega
  simp only[qw,ze,yo,qq,cA];omega
 ·simp
theorem Ej(x:bm)(m:av)(h:g0)(d:dh h x m)(W:cF m):an xP 103 #[dz x] h λv h'=>∃r:Sl,v=r/\Sp h h' [af 5 r 1 az (bK m)]:=by
 refine ts Tryz.func103 ?_ (.two .n (.two .n (.two (.join [(3,cL)] [(3,4),(13,19)] .n) (.two .n (.two (.two .n (.inn (.loop [(3,cL),(44,aQ)] [(3,4),(5,6),(44,54)] .n))) (.two .n (.two (.two .n (.inn (.loop [(3,cL),(64,aQ)] [(3,4),(7,8),(9,10),(64,99)] (.two .n (.two .n (.two (.inn (.two .n (.two (.join [(3,cL)] [(3,4),(68,78)] .n) (.two (.join [(3,cL)] [(3,4),(78,85)] .n) (.two .n (.inn (.loop [(3,cL),(88,aQ)] [(3,4),(9,10),(88,98)] .n))))))) .n)))))) .n))))))) [(3,(.l [0,1,3,4,2,5,6])),(14,(.l [0,1,2,3,4,7,8,5,6,9,10])),(15,(.l [0,1,2,4,5,3,6,7]))] (args:=[x]);refine(Sp.refl h).boxed λa1 h1 H1=>?_;refine⟨x,(H1.box 0 i4).aF _ i4,(Cg x m h1 (d.up H1.ae) W).mono ?_⟩;rintro _ h2 ⟨rfl,R2⟩;have U:=H1.up R2.ae;refine⟨_,i4,aR (λe=>?_) λB=>?_⟩
 ·unfold bK;rw[e];exact⟨⟨eH,0,0⟩,i4,((U.nil 5 1 az).bA [1])⟩
 have ay:x.2.2.1=m.p.1:=congrArg (·.1) d.p;have Z:x.2.2.2.1=m.p.2.1:=congrArg (·.2.1) d.p;have V:x.2.2.2.2.1=m.p.2.2:=congrArg (·.2.2) d.p;have F:=U.box 0 i4;have c:=GZ m W;unfold bK at c;rw[B,g9 rfl]at c;have hM:∀{h':g0} {As:List HP},Sp h h' As->dh h' x m:=λ{h' As} P=>d.up P.ae;refine aW ⟨m.seq,by rw[<-d.seq];exact F.cell0 i4,m.next,by rw[<-d.next];exact F.cell i4,?_⟩;have H3:=(U.nil 5 1 az).be;refine(rF ⟨eH,0,0⟩ [] m.seq 4 i6 jj H3).mono ?_;rintro _ h4 ⟨s4,rfl,H4⟩;refine⟨s4,i4,⟨by rw[<-d.next];exact(H4.box 1 i4).cell i4,trivial⟩,?_⟩;refine(rF s4 _ m.next 4 i6 pt H4).mono ?_;rintro _ h5 ⟨s5,rfl,H5⟩;refine⟨s5,i4,trivial,?_⟩;have f:=H5.box 1 i4;refine⟨m.p.1,by rw[<-ay];exact f.cell i4,m.p.2.1,by rw[<-Z];exact f.uv 2 1 i4,m.p.2.2,by rw[<-V];exact f.uv 2 2 i4,m.extra,by rw[<-d.extra];exact f.cell i4,x.2.2.2.2.2.2.1,f.cell i4,?_⟩;have ao:=d.drives.len;have a2:=bC.len d.objs
 try dsimp only
 rw[eV,eV,eV,eV,eV,ao];refine H5.lit aj az gz i4 [b8 m.p.1,b8 m.p.2.1,b8 m.p.2.2,b8 m.extra,b8 (m.drives.length:Nat)] i4 (show 5*1<=2^20 by decide) i4 λbb h6 H6=>?_;refine H6.append aj 0 i4 gz ⟨_,_,i4,i4⟩ i4 i6 (λ_=>rfl) (H6.seq 2 i4 λ_=>rfl) gU pt λs7 h7 S=>?_;have S:=S.bA [0,1];refine⟨x.2.2.2.2.2.2.1,(S.box 1 i4).cell i4,?_⟩;have a3:(([]++bE m.seq 4)++bE m.next 4++[b8 m.p.1,b8 m.p.2.1,b8 m.p.2.2,b8 m.extra,b8 (m.drives.length:Nat)]).length=13:=pt
 have a4:=W.dr;refine Iq x.2.2.2.2.2.2.1 m.drives s7 _ S (St.mk' λh' P=>(hM P).drives) i5 i5 λs8 h8 H8=>?_
 try dsimp only
 refine⟨x.2.2.2.2.2.2.2,(H8.box 1 i4).cell i4,?_⟩
 try dsimp only
 rw[eV,a2];obtain⟨a,b⟩:∃a,a=([]++bE m.seq 4)++bE m.next 4++[b8 m.p.1,b8 m.p.2.1,b8 m.p.2.2,b8 m.extra,b8 (m.drives.length:Nat)]++m.drives.map b8:=⟨_,rfl⟩
 rw[<-b]at H8;have a0:a.length=13+m.drives.length:=by rw[b];simp[cA];omega
 simp only[qw,ze,yo,qq,cA]at c;refine H8.push aj 0 i4 gz i4 i6 (λ_=>rfl) gU (b8 (m.objs.length:Nat)) i4 i6 i5 λs9 h9 R=>?_;have R:Sp h h9 [af 5 s9 1 az (a++[b8 (m.objs.length:Nat)]),ac a1 39 (aA x)]:=R;refine⟨x.2.2.2.2.2.2.2,(R.box 1 i4).cell i4,?_⟩;obtain⟨G,T⟩:=bC.fix d.objs;have a7:=T.2.1;refine aq (λt:Sl×Nat=>(t.1,(t.2:Int))) (λt h'=>t.2<=m.objs.length/\Sp h h' [af 5 t.1 1 az (a++[b8 (m.objs.length:Nat)]++(m.objs.take t.2).flatMap fQ),ac a1 39 (aA x)]) (λt=>m.objs.length-t.2) (s9,0) i4 ⟨jj,by simpa using R⟩ ?_;rintro⟨o,i⟩ bd ⟨hi,q⟩;dsimp only at*;refine ag (λe=>?_) (λe=>?_)
 ·have s:i<m.objs.length:=i5
  have al:=nQ.up T q.ae;have Y:=Xj B s;have y:((m.objs.take i).flatMap fQ).length<=50000:=by have h1:=Ei B i hi;have:=GY B;have:i*4000<=12*4000:=zD _ i5;omega
  refine al.1.cU (g:=bc) i i4 i5 (G[i]'(by omega)) i4 ?_;refine q.alloc aj i4 λax a6 am=>?_;refine am.storeAll aj 2 i4 i4 (bc (G[i]'(by omega))) i4 i4 i4 i4 λX k=>?_;have ar:=nQ.up T k.ae;obtain⟨⟨z,y2,y3⟩,y4⟩:=Fix.row ar s;obtain⟨E,hE⟩:∃E,E=m.objs[i]:=⟨_,rfl⟩
  rw[<-hE]at z y2 y3 y4 Y;have u:=k.box 2 i4;refine aW ⟨E.name,n5,E.name,n5,?_⟩;rw[eV];refine k.nt aj az gz i4 [b8 (E.name.size:Nat)] i4 (show 1*1<=2^20 by decide) i4 ⟨n5,n5,trivial⟩ ?_;have L:(a++[b8 (m.objs.length:Nat)]++(m.objs.take i).flatMap fQ).length<=160000:=by rw[qw,qw,a0];simp;simp at y;omega
  obtain⟨j,J⟩:∃j,j=a++[b8 (m.objs.length:Nat)]++(m.objs.take i).flatMap fQ:=⟨_,rfl⟩
  rw[<-J]at k L;refine k.push aj 0 i4 gz i4 i6 (λ_=>rfl) gU (b8 (E.name.size:Nat)) i4 i6 i5 λa5 bk K=>?_;have Q:=K.box 2 i4;refine⟨⟨by rw[<-z];exact Q.cell0 i4,by rw[<-z];exact Q.cell0 i4,trivial⟩,?_⟩;refine K.Ww aj 0 i4 gz ⟨_,i4,i4⟩ i4 i6 E.name i9 λD ab w=>?_;have A:=w.box 2 i4;refine⟨⟨by rw[<-z];exact A.cell0 i4,trivial⟩,?_⟩;have w:Sp h ab [af 5 D 1 az (j++[b8 (E.name.size:Nat)]++jl E.name),ac a1 39 (aA x),ac ax 88 (bc (G[i]'(by omega)))]:=w;refine aW ⟨E.object,by rw[<-y2];exact A.cell i4,E.length,by rw[<-y3];exact A.cell i4,?_⟩;have bq:=BH E.name;refine(rF D _ E.object 3 i6 i9 w).mono ?_;rintro _ a9 ⟨O,rfl,H⟩;have ap:=H.box 2 i4;refine⟨O,i4,⟨by rw[<-y3];exact ap.cell i4,trivial⟩,?_⟩;refine(rF O _ E.length 2 i6 m5 H).mono ?_;rintro _ a8 ⟨M,rfl,I⟩;have ad:=I.box 2 i4;refine⟨M,i4,trivial,(G[i]'(by omega)).2.2.2,ad.cell i4,?_⟩;refine Iq (G[i]'(by omega)).2.2.2 E.tries M _ I (St.mk' λh' P=>by rw[hE];exact(Fix.row (nQ.up T P.ae) s).2) m5 i5 λah bl N=>?_
  try dsimp only
  have X:=GY B;refine⟨(ah,i+1),j0,⟨i7,?_⟩,i7⟩
  try dsimp only
  rw[aD _ _ s,qY,<-qn,<-J,za,zS,qE,<-hE];have e3:j++[b8 (E.name.size:Nat)]++jl E.name++bE E.object 3++bE E.length 2++E.tries.map b8=j++fQ E:=by unfold fQ jl;simp[qn]
  rw[e3]at N;exact N.bA [0,1]
 ·rw[qg i5]at q;refine⟨o,i4,?_⟩;have e2:a++[b8 (m.objs.length:Nat)]++m.objs.flatMap fQ=bK m:=by rw[b];unfold bK;rw[B,g9 rfl];simp[qn]
  rw[e2]at q;exact q.bA [0]
def cw{α:Type}(k:Nat)(f:α->aT)(L:List (Sl×List α)):HP:=⟨λh q=>∀y∈L,Seq h q y.1 k f y.2,λa d y b=>(a y b).ae d,λa c y b=>(a y b).mono c⟩
variable {α:Type} {k:Nat} {L:List (Sl×List α)} {s:Sl} {l:List α}
section
variable {f:α->aT}
theorem aa.Kh(H:aa B h0 h As)(k:Nat)(f:α->aT):aa B h0 h (cw k f []::As):=
 (H.comp (.one (A:=cw k f []) (aP.refl _ _) λy a=>by cases a)).be
theorem aa.Ki(H:aa B h0 h (cw k f L::lm s k f l::As)):aa B h0 h (cw k f ((s,l)::L)::As):=by
 have g:aa B h0 h ((lm s k f l).sep (cw k f L)::As):=H.jd;refine g.eJ 0 i4 λq ⟨j,i,_,b,c,d,e⟩ y a=>?_;rcases qX.1 a with rfl|a
 ·exact d.mono b
 ·exact(e y a).mono c
theorem aa.adL(H:aa B h0 h (cw k f L::As)){y:Sl×List α}(a:y∈L):Rd h y.1 k f y.2:=H.at 0 i4 y a
end
theorem afN(n:Int):bE n 4=[b8 (zN n (2^24)),b8 (zN n (2^16)),b8 (zN n (2^8)),b8 n]:=by
 have e:zN n (2^0)=n:=jj
 show[b8 (zN n (2^24)),b8 (zN n (2^16)),b8 (zN n (2^8)),b8 (zN n (2^0))]=_;rw[e]
theorem Xl(seq a c:Int)(b:Sl)(l:aL)(h:g0)(n:Rd h b 1 az l)(w:i0 l<=2^20):an xP 104 #[xF xL seq,xF xL a,xF xL c,b] h λv h'=>∃r:Sl,v=r/\Sp h h' [af 5 r 1 az (km seq a c l)]:=by
 refine ts Tryz.func104 ?_;refine⟨i6,i6,i6,?_⟩;have g:min (24:Int).toNat (qH xL)=24:=rfl;have i:min (16:Int).toNat (qH xL)=16:=rfl;have s:min (8:Int).toNat (qH xL)=8:=rfl;rw[g,i,s,eV,eV,eV,eV,eV,eV,eV];have d:=afN seq;generalize b8 (zN seq (2^24))=c1 at d⊢;generalize b8 (zN seq (2^16))=c2 at d⊢;generalize b8 (zN seq (2^8))=c3 at d⊢;generalize b8 seq=c4 at d⊢;have e:km seq a c l=eI 2 ([c1,c2,c3,c4]++([b8 a,b8 c,b8 (b.len:Nat)]++l)):=by unfold km;rw[d,n.len]
 generalize b8 a=c5 at e⊢;generalize b8 c=c6 at e⊢;generalize b8 (b.len:Nat)=c7 at e⊢;refine(Sp.refl h).lit aj az gz i4 [c1,c2,c3,c4,c5,c6,c7] i4 (show 7*1<=2^20 by decide) j4 λu x q=>?_;refine q.append aj 0 i4 gz ⟨_,_,i4,i4⟩ i4 i6 (λ_=>rfl) (Seq.up n q.ae) gU i9 λo m k=>?_;have p:Rd m o 1 az ([c1,c2,c3,c4,c5,c6,c7]++l):=k.seq 0 i4 λ_=>rfl;have f:i0 ([c1,c2,c3,c4,c5,c6,c7]++l)<=2^40:=i9
 rw[e];have j:[c1,c2,c3,c4,c5,c6,c7]++l=[c1,c2,c3,c4]++([c5,c6,c7]++l):=rfl;rw[<-j];generalize [c1,c2,c3,c4,c5,c6,c7]++l=ll at p f⊢;refine(Eh 2 o ll m p f).mono ?_;rintro _ h3 ⟨r,rfl,t⟩;exact⟨r,i4,r,i4,(aa.comp (Sp.zip k.ae) t)⟩
theorem lT(x:bm)(m:av)(h:g0)(D:dh h x m)(E:cF m):an xP 52 #[dz x] h λv h'=>∃r:Sl,v=r/\Sp h h' [dI r (aM m)]:=by
 refine ts Tryz.func52 ?_ (.two .n (.two .n (.two .n (.two .n (.two (.two .n (.inn (.loop [(5,cL),(16,aQ)] [(5,8),(16,39)] .n))) .n))))) (args:=[x]);refine(Sp.refl h).boxed λz I w=>?_;refine⟨x,(w.box 0 i4).aF _ i4,(Ej x m I (D.up w.ae) E).mono ?_⟩;rintro _ J ⟨b,rfl,Q⟩;have j:=w.comp Q;have u:=GZ m E;obtain⟨l,q⟩:∃l,l=bK m:=⟨_,rfl⟩
 rw[<-q]at j u;have N:=(j.own 1 i4).len;have s:=(j.own 1 i4).cap;refine⟨b,i4,i6,?_⟩;have d:qe xL (vm (qe xL ((qe xL (((b.len:Nat):Int)+(48:Int)))-(1:Int))) (48:Int))=(dE l:Int):=by rw[ai ((b.len:Int)+48),ai ((b.len:Int)+48-1),Int.tdiv_eq_ediv_of_nonneg i5];unfold dE;rw[ai (((b.len:Int)+48-1)/48)];omega
 have P:dE l<=3000:=by unfold dE;omega
 rw[d];obtain⟨f,c⟩:∃f:bP,f=aM m:=⟨_,rfl⟩
 have F:i0 f=dE l:=by rw[c,q];simp[aM]
 have a:Sp h J [dI ⟨eH,0,0⟩ (f.take 0),ac z 39 (aA x),af 5 b 1 az l]:=j.BE 58 5 1 az;refine aq (λt:Sl×Nat=>(t.1,(t.2:Int))) (λt h'=>t.2<=dE l/\Sp h h' [dI t.1 (f.take t.2),ac z 39 (aA x),af 5 b 1 az l]) (λt=>dE l-t.2) (⟨eH,0,0⟩,0) i4 ⟨jj,a⟩ ?_;rintro⟨o,i⟩ h3 ⟨S,a⟩;dsimp only at*;refine ag (λe=>?_) (λe=>?_)
 ·have p:i<dE l:=i5
  have A:48*i<i0 l:=by unfold dE at p;omega
  rw[ai ((i:Int)*48),ai ((i:Int)+1),ai (((i:Int)+1)*48)];obtain⟨g,M⟩:∃g:Nat,g=min (48*i+48) l.length:=⟨_,rfl⟩
  have k:(if((i:Int)+1)*48<((b.len:Nat):Int)then((i:Int)+1)*48 else((b.len:Nat):Int))=(g:Int):=by split<;>omega
  rw[k];refine⟨m.seq,by rw[<-D.seq];exact(a.box 1 i4).cell0 i4,⟨i5,i5,i5⟩,?_⟩;have H:((i:Int)*48).toNat=48*i:=i5
  rw[H,qj];have y:=((a.seq 2 i4 λ_=>rfl).drop (48*i) s).take (g-48*i) l9;have e2:(l.drop (48*i)).take (g-48*i)=(l.drop (48*i)).take 48:=by
   by_cases T:48*i+48<=i0 l
   ·rw[show g-48*i=48 by omega]
   ·rw[qg l9,qg l9]
  rw[e2,wN]at y;refine(Xl m.seq i (dE l) ⟨_,g-48*i,b.cap-48*i⟩ _ h3 (by rw[wN];exact y) i9).mono ?_;rintro _ U ⟨r,rfl,O⟩;have B:=(a.cb O).aO 4 [1,0,2,3];refine⟨r,i4,trivial,?_⟩;refine B.nt aj bg fv i4 [r] i4 (show 1*1<=2^20 by decide) i4 trivial ?_;refine B.BF aj fv i9 λG R K=>⟨trivial,?_⟩
  refine⟨(G,i+1),i4,⟨i7,?_⟩,i7⟩
  try dsimp only
  rw[aD _ _ (show i<i0 f by omega)];have L:f[i]'(by omega)=km m.seq i (dE l) ((l.drop (48*i)).take 48):=by subst c;subst q;simp[aM]
  rw[L];exact K
 ·rw[qg i5,c]at a;exact⟨o,i4,a.bA [0]⟩
theorem Qz(s:Sl)(a:List dN)(h:g0)(c:Rd h s 4 bc a)(g:i0 a<=2^30):an xP 102 #[s] h λv h'=>∃r:Sl,v=r/\Sp h h' [af 88 r 4 bc a]:=by
 refine ts Tryz.func102 ?_;refine bo (λe=>?_) (λe=>?_)
 ·have:=c.isNil e;subst this;exact⟨⟨eH,0,0⟩,i4,(Sp.refl h).nil 88 4 bc⟩
 ·refine(Sp.refl h).lit aj bc Kg i4 ([]:List dN) i4 i6 i4 λj i b=>?_;refine b.append aj 0 i4 Kg ⟨_,_,i4,i4⟩ i4 i6 (λ_=>rfl) (Seq.up c b.ae) FE i9 λd k f=>?_;exact⟨d,i4,f⟩
def Ch(pool:List (Sl×aB))(p:dN×Qw.cu):Prop:=(p.1.1=p.2.name/\p.1.2.1=p.2.object/\p.1.2.2.1=p.2.length)/\(p.1.2.2.2,p.2.tries)∈pool
theorem aa.Ci{B:aw}{n h:g0}{As:List HP}{y:bm}{m:av}{L:List (dN×Qw.cu)}{pool:List (Sl×aB)}(d:y.1=m.seq/\y.2.1=m.next/\(y.2.2.1,y.2.2.2.1,y.2.2.2.2.1)=m.p/\y.2.2.2.2.2.1=m.extra)(l:L.map zh=m.objs)(u:∀p∈L,Ch pool p)
  (H:aa B n h (cw 1 ak pool::af 3 y.2.2.2.2.2.2.1 1 ak m.drives::af 88 y.2.2.2.2.2.2.2 4 bc (L.map qt)::As)):aa B n h (bh y m::As):=by
 have g:=(H.own 2 i4)
 have i:=(H.own 1 i4)
 have v:=((H.freeze 1 i4 λ_=>rfl).freeze 2 i4 λ_=>rfl).jd.jd;refine v.eJ 0 i4 λq ⟨G,E,_,b,c,o,t⟩=>?_;obtain⟨I,F,_,D,s,z3,z4⟩:=t;refine⟨d.1,d.2.1,d.2.2.1,d.2.2.2,z3.mono λx k=>c x (D x k),⟨L.map qt,o.mono b,by rw[<-l];simp,λj r e a f=>?_⟩,i.cap,g.cap⟩;rw[<-l]at f;rw[qP]at a f;cases hj:L[j]? with
 |none=>rw[hj]at a;cases a
 |some p=>
  rw[hj]at a f;have w:=zW.inj (show dB p.1=dB r from a);have e2:=zW.inj (show dB p.2=dB e from f);subst w;subst e2;obtain⟨z,A⟩:=u p (zY hj);exact⟨z,(z4 _ A).mono λx k=>c x (s x k)⟩
theorem nz(x:bm)(m:av)(h:g0)(B:dh h x m)(I:cF m):an xP 49 #[dz x] h λv h'=>∃(y:bm) (L:List (dN×Qw.cu)) (pool:List (Sl×aB)),v=dz y/\(y.1=m.seq/\y.2.1=m.next/\(y.2.2.1,y.2.2.2.1,y.2.2.2.2.1)=m.p/\y.2.2.2.2.2.1=m.extra)/\L.map zh=m.objs/\(∀p∈L,Ch pool p)/\
  Sp h h' [cw 1 ak pool,af 3 y.2.2.2.2.2.2.1 1 ak m.drives,af 88 y.2.2.2.2.2.2.2 4 bc (L.map qt)]:=by
 refine ts Tryz.func49 ?_ (.two .n (.two (.join [] [(4,12)] .n) (.two (.two .n (.inn (.loop [(15,aQ)] [(3,4),(15,31)] .n))) .n))) [(1,(.l [0,1,3,4,2,6,5,7,8,9]))] (args:=[x]);refine(Sp.refl h).boxed λU k H1=>?_;refine H1.alloc aj i4 λT w H=>?_;have D:=H.box 0 i4;have hM:∀{h':g0} {As:List HP},Sp h h' As->dh h' x m:=λ{h' As} H'=>B.up H'.ae;obtain⟨b,R⟩:=bC.fix B.objs;have Z:=R.2.1;have V:=I.dr;have al:=I.ob;refine aW ⟨x.2.2.2.2.2.2.1,D.cell i4,x.2.2.2.2.2.2.2,D.cell i4,?_⟩;refine(jL _ m.drives w (hM H).drives i5).mono ?_;rintro _ h3 ⟨d,rfl,R3⟩;have Q:=H.comp R3;refine⟨d,i4,⟨(Q.box 0 i4).cell i4,trivial⟩,?_⟩;refine(Qz _ b h3 (nQ.up R Q.ae).1 i5).mono ?_;rintro _ h4 ⟨o,rfl,R4⟩;have H4:=Q.comp R4;refine⟨o,i4,trivial,?_⟩;refine H4.store aj 0 i4 i4 6 [d] i4 i4 i4 kt λh5 H5=>⟨trivial,?_⟩
 refine H5.store aj 0 i4 i4 7 [o] i4 i4 i4 kt λh6 z=>⟨trivial,?_⟩
 obtain⟨y,u⟩:∃y:bm,y=(x.1,x.2.1,x.2.2.1,x.2.2.2.1,x.2.2.2.2.1,x.2.2.2.2.2.1,d,o):=⟨_,rfl⟩
 have z:Sp h h6 [ac U 39 (aA y),ac T 39 [xF xL 0,xF xL 0,xF xL 0,xF xL 0,xF xL 0,xF xL 0,xG eH 0 0,xG eH 0 0],af 3 d 1 ak m.drives,af 88 o 4 bc b]:=by rw[u];exact z
 have c:y.2.2.2.2.2.2.2=o:=by rw[u]
 have S:y.2.2.2.2.2.2.1=d:=by rw[u]
 refine⟨o,by rw[<-c];exact(z.box 0 i4).cell i4,?_⟩;have ah:=(z.own 3 i4).len;have z:=z.Kh 1 ak;refine aq (λt:List dN×List (Sl×aB)=>(t.1.length:Int)) (λt h'=>t.1.length<=m.objs.length/\(∀(j:Nat) r e,t.1[j]?=dB r->m.objs[j]?=dB e->(r.1=e.name/\r.2.1=e.object/\r.2.2.1=e.length)/\(r.2.2.2,e.tries)∈t.2)/\Sp h h' [cw 1 ak t.2,ac U 39 (aA y),ac T 39 [xF xL 0,xF xL 0,xF xL 0,xF xL 0,xF xL 0,xF xL 0,xG eH 0 0,xG eH 0 0],af 3 d 1 ak m.drives,af 88 o 4 bc (t.1++b.drop t.1.length)]) (λt=>m.objs.length-t.1.length) ([],[]) i4 ⟨jj,λj r e k=>by simp at k,z⟩ ?_;rintro⟨a,pool⟩ h7 ⟨hi,F,q⟩;dsimp only at*;refine ag (λe=>?_) (λe=>?_)
 ·have s:a.length<m.objs.length:=i5
  have F7:=nQ.up R q.ae;obtain⟨⟨y1,y2,y3⟩,Y⟩:=Fix.row F7 s;have f:(a++b.drop a.length)[a.length]'(by simp;omega)=b[a.length]'(by omega):=jj
  obtain⟨J,ha,zz,hc,rfl⟩:=(q.seq 4 rfl λ_=>rfl).cU (g:=bc) (i:=(a.length:Int)) a.length rfl i9 (b[a.length]'(by omega)) (by rw[f]) (K:=λt=>t=b[a.length]'(by omega)) i4;refine⟨o,by rw[<-c];exact(q.box 1 i4).cell i4,o,by rw[<-c];exact(q.box 1 i4).cell i4,J,ha,_,hc.2.2.2.1,?_⟩;have ab:=(I.nm _ (qf s)).2;refine(jL _ m.objs[a.length].tries h7 Y i5).mono ?_;rintro _ h8 ⟨t,rfl,R8⟩;have A:=q.cb R8;refine⟨t,i4,⟨by rw[<-c];exact(A.box 2 i4).cell i4,by rw[<-c];exact(A.box 2 i4).cell i4,trivial⟩,?_⟩;refine A.ZR aj 5 i4 (λ_=>rfl) i4 a.length i4 i9 3 [t] jj ((b[a.length]'(by omega)).1,(b[a.length]'(by omega)).2.1,(b[a.length]'(by omega)).2.2.1,t) i4 i4 i4 (by rw[f];simp[bc]) λh9 E=>⟨trivial,?_⟩
  have E:=(E.freeze 0 i4 λ_=>rfl).aO 6 [1,0,2,3,4,5];have E:=E.Ki;refine⟨(a++[((b[a.length]'(by omega)).1,(b[a.length]'(by omega)).2.1,(b[a.length]'(by omega)).2.2.1,t)],(t,m.objs[a.length].tries)::pool),by simp only[qw,List.length_singleton];rw[ai _];rfl,⟨i9,λj r e k w=>?_,?_⟩,i9⟩
  ·dsimp only at k⊢;by_cases N:j<a.length
   ·rw[qm N]at k;obtain⟨W,X⟩:=F j r e k w;exact⟨W,List.mem_cons_of_mem _ X⟩
   ·have O:j=a.length:=by have:=(qk.1 k).1;simp at this;omega
    subst O;rw[qh (ql _),qW]at k;simp at k;rw[qc s]at w;injection w with w
    subst k;subst w;exact⟨⟨y1,y2,y3⟩,List.mem_cons_self⟩
  ·try dsimp only
   have e4:(a++b.drop a.length).set a.length ((b[a.length]'(by omega)).1,(b[a.length]'(by omega)).2.1,(b[a.length]'(by omega)).2.2.1,t)=a++[((b[a.length]'(by omega)).1,(b[a.length]'(by omega)).2.1,(b[a.length]'(by omega)).2.2.1,t)]++b.drop (a++[((b[a.length]'(by omega)).1,(b[a.length]'(by omega)).2.1,(b[a.length]'(by omega)).2.2.1,t)]).length:=by rw[qV _ _ (ql _),qW,qK (show a.length<b.length by omega),zp];simp
   rw[<-e4];exact E
 ·have ad:a.length=m.objs.length:=i5
  rw[zc i5,qE]at q;refine⟨y,(q.box 1 i4).aF _ i4,?_⟩;refine q.storeAll aj 2 i4 i4 (aA y) i4 i4 i4 i4 λh8 A=>?_;have P:(a.zip m.objs).map qt=a:=List.map_fst_zip i5;have M:(a.zip m.objs).map zh=m.objs:=List.map_snd_zip i5;refine⟨y,(A.box 2 i4).aF _ i4,y,a.zip m.objs,pool,i4,⟨by rw[u];exact B.seq,by rw[u];exact B.next,by rw[u];exact B.p,by rw[u];exact B.extra⟩,M,λp hp=>?_,?_⟩
  ·obtain⟨j,N,rfl⟩:=qB hp;have G:j<a.length/\j<m.objs.length:=by simp at N;omega
   have:=F j _ _ (qc G.1) (qc G.2);rw[yS];exact this
  ·rw[P,S,c];exact A.bA [0,3,4]
theorem Cj(x:bm)(m:av)(h:g0)(b:dh h x m)(d:cF m):an xP 49 #[dz x] h λv h'=>∃y:bm,v=dz y/\Sp h h' [bh y m]:=by refine(nz x m h b d).mono ?_;rintro _ h' ⟨y,L,pool,rfl,a,c,e,H⟩;exact⟨y,i4,aa.Ci a c e H⟩
abbrev bF:=Int×Int×Int×Int×Int×Int×Int×Sl
abbrev bS(x:bF):aT:=[xF xL x.1,xF xL x.2.1,xF xL x.2.2.1,xF xL x.2.2.2.1,xF xL x.2.2.2.2.1,xF xL x.2.2.2.2.2.1,xF xN x.2.2.2.2.2.2.1,x.2.2.2.2.2.2.2]
abbrev recv(x:bF):Value:=xK #[xF xL x.1,xF xL x.2.1,xF xL x.2.2.1,xF xL x.2.2.2.1,xF xL x.2.2.2.2.1,xF xL x.2.2.2.2.2.1,xF xN x.2.2.2.2.2.2.1,x.2.2.2.2.2.2.2]
theorem adM:∀x,∀c∈bS x,c.oneCell'=eX:=by intro x c a;simp[bS]at a;rcases a with rfl|rfl|rfl|rfl|rfl|rfl|rfl|rfl<;>rfl
def iu(x y:Int):Int:=if x<y then-1 else if x>y then 1 else 0
def lU(a b:bF):Int:=if iu a.1 b.1≠0 then iu a.1 b.1 else if iu a.2.1 b.2.1≠0 then iu a.2.1 b.2.1 else iu a.2.2.1 b.2.2.1
def cE(a b:bF):Bool:=decide (lU a b<=0)
theorem jx(x y:Int):(x<y/\iu x y=-1)∨(x>y/\iu x y=1)∨(x=y/\iu x y=0):=by
 unfold iu;by_cases a:x<y
 ·exact .inl ⟨a,g9 a⟩
 ·by_cases b:x>y
  ·exact .inr (.inl ⟨b,by rw[hU a,g9 b]⟩)
  ·exact .inr (.inr ⟨i5,by rw[hU a,hU b]⟩)
theorem AZ(a b:bF):lU a b<=0↔a.1<b.1∨(a.1=b.1/\(a.2.1<b.2.1∨(a.2.1=b.2.1/\a.2.2.1<=b.2.2.1))):=by
 unfold lU;rcases jx a.1 b.1 with⟨h1,e1⟩|⟨h1,e1⟩|⟨h1,e1⟩
 ·rw[e1,g9 i6];omega
 ·rw[e1,g9 i6];omega
 ·rw[e1,hU i6];rcases jx a.2.1 b.2.1 with⟨h2,e2⟩|⟨h2,e2⟩|⟨h2,e2⟩
  ·rw[e2,g9 i6];omega
  ·rw[e2,g9 i6];omega
  ·rw[e2,hU i6];rcases jx a.2.2.1 b.2.2.1 with⟨h3,e3⟩|⟨h3,e3⟩|⟨h3,e3⟩<;>rw[e3]<;>omega
theorem rc(a b:bF):lU a b<0↔¬cE b a=eX:=by
 unfold cE;rw[decide_eq_true_eq,AZ];unfold lU;rcases jx a.1 b.1 with⟨h1,e1⟩|⟨h1,e1⟩|⟨h1,e1⟩
 ·rw[e1,g9 i6];omega
 ·rw[e1,g9 i6];omega
 ·rw[e1,hU i6];rcases jx a.2.1 b.2.1 with⟨h2,e2⟩|⟨h2,e2⟩|⟨h2,e2⟩
  ·rw[e2,g9 i6];omega
  ·rw[e2,g9 i6];omega
  ·rw[e2,hU i6];rcases jx a.2.2.1 b.2.2.1 with⟨h3,e3⟩|⟨h3,e3⟩|⟨h3,e3⟩<;>rw[e3]<;>omega
theorem Xm(a b:bF):lU a b=0↔(a.1=b.1/\a.2.1=b.2.1/\a.2.2.1=b.2.2.1):=by
 unfold lU;rcases jx a.1 b.1 with⟨h1,e1⟩|⟨h1,e1⟩|⟨h1,e1⟩
 ·rw[e1,g9 i6];omega
 ·rw[e1,g9 i6];omega
 ·rw[e1,hU i6];rcases jx a.2.1 b.2.1 with⟨h2,e2⟩|⟨h2,e2⟩|⟨h2,e2⟩
  ·rw[e2,g9 i6];omega
  ·rw[e2,g9 i6];omega
  ·rw[e2,hU i6];rcases jx a.2.2.1 b.2.2.1 with⟨h3,e3⟩|⟨h3,e3⟩|⟨h3,e3⟩<;>rw[e3]<;>omega
theorem eu:Ord cE:=⟨λa b c d e=>by
 unfold cE at*;rw[decide_eq_true_eq,AZ]at*;omega,λa b=>by
 unfold cE;rw[Bool.or_eq_true,decide_eq_true_eq,decide_eq_true_eq,AZ,AZ];omega⟩
theorem Kj{α:Type}(A B C:List α)(x y:α){i j:Nat}(b:i=i0 A)(c:j=i0 A+1+i0 B):
  (A++x::(B++y::C))[i]?=dB x/\(A++x::(B++y::C))[j]?=dB y/\((A++x::(B++y::C)).set i y).set j x=A++y::(B++x::C)/\((A++x::(B++y::C)).set j x).set i y=A++y::(B++x::C):=by
 subst b;subst c;have a:i0 A+1+i0 B-i0 A=i0 B+1:=i5
 refine⟨by rw[qh (ql _),qW];rfl,?_,?_,?_⟩
 ·rw[qh i5,a,qp,qh (ql _),qW];rfl
 ·rw[qV _ _ (ql _),qW,zp,qV _ _ i5,a,zw,qV _ _ (ql _),qW,zp]
 ·rw[qV _ _ (show A.length<=i0 A+1+i0 B by omega),a,zw,qV _ _ (ql _),qW,zp,qV _ _ (ql _),qW,zp]
abbrev afO:bG C.toAQ 164 167 8 [xF xL 0,xF xL 0,xF xL 0,xF xL 0,xF xL 0,xF xL 0,xF xN 0,xG eH 0 0] 80:=⟨_,_,i4,i4,i4,i4,i4,i4⟩
theorem oc(x y:Int)(h:g0):an xP 172 #[xF xL x,xF xL y] h λv h'=>v=xF xL (iu x y)/\h'=h:=by
 refine ts Tryz.func172 ?_;have a:∀z:Int,an xP 235 #[xF xL z] h λv h'=>v=xJ fz/\h'=h:=λz=>by
  refine ts Tryz.func235 ?_;exact⟨jj,i4⟩
 refine(a x).mono ?_;rintro _ _ ⟨rfl,rfl⟩;refine⟨_,i4,(a y).mono ?_⟩;rintro _ _ ⟨rfl,rfl⟩;refine⟨_,i4,bo (λe=>j3) λ_=>bo (λe=>j3) λ_=>?_⟩;refine ag (λe=>⟨by rw[iu,g9 e],i4⟩) λe=>ag (λe2=>⟨by rw[iu,hU e,g9 e2],i4⟩) λe2=>⟨by rw[iu,hU e,hU e2],i4⟩
theorem py(a b:bF)(h:g0):an xP 156 #[recv a,recv b] h λv h'=>v=xF xL (lU a b)/\Sp h h' []:=by
 refine ts Tryz.func156 ?_ .n [(1,(.l [0,1,2,3,5,6,7,8,10,11,12,13,4,9,14,15,16,17]))] (args:=[a,b]);refine(Sp.refl h).boxed λs O I=>I.boxed λw k f=>?_;have f:Sp h k [ac s 167 (bS a),ac w 167 (bS b)]:=f;have r:=f.box 0 i4;have z:=f.box 1 i4;have B:f9 k (s.add 1)=dB (xF xL a.2.1):=r.cell i4;have D:f9 k (w.add 1)=dB (xF xL b.2.1):=z.cell i4;have c3:f9 k (s.add 2)=dB (xF xL a.2.2.1):=r.cell i4;have q:f9 k (w.add 2)=dB (xF xL b.2.2.1):=z.cell i4;refine⟨a.1,r.cell0 i4,b.1,z.cell0 i4,a.2.1,B,b.2.1,D,a.2.2.1,c3,b.2.2.1,q,(oc _ _ k).mono ?_⟩;rintro _ _ ⟨rfl,rfl⟩;refine⟨_,i4,⟨q,c3,D,B,trivial⟩,(oc _ _ _).mono ?_⟩;rintro _ _ ⟨rfl,rfl⟩;refine⟨_,i4,⟨q,c3,trivial⟩,(oc _ _ _).mono ?_⟩;rintro _ K ⟨rfl,rfl⟩;refine⟨_,i4,trivial,?_⟩;refine f.nt aj ak ⟨_,_,i4,i4,i4,i4,i4,i4⟩ i4 [iu a.1 b.1,iu a.2.1 b.2.1,iu a.2.2.1 b.2.2.1] i4 (show 3*1<=2^20 by decide) i4 trivial ?_;refine f.lit aj ak ⟨_,_,i4,i4,i4,i4,i4,i4⟩ i4 [iu a.1 b.1,iu a.2.1 b.2.1,iu a.2.2.1 b.2.2.1] i4 (show 3*1<=2^20 by decide) i4 λc A x=>?_;refine(AY c (R:=λv h'=>v=xF xL (lU a b)/\h'=A) ?_).mono ?_
 ·skip
  have E:=x.seq 2 i4 λ_=>rfl;have F:=(x.own 2 i4).len;obtain⟨L,g⟩:∃L,L=[iu a.1 b.1,iu a.2.1 b.2.1,iu a.2.2.1 b.2.2.1]:=⟨_,rfl⟩
  rw[<-g]at E F;have G:i0 L=3:=by rw[g];rfl
  refine aq (λi:Nat=>(i:Int)) (λi h'=>i<=3/\(∀j,j<i->L[j]?=dB 0)/\h'=A) (λi=>3-i) 0 i4 ⟨i5,i5,i4⟩ ?_;rintro i H ⟨M,p,rfl⟩;have d:0<i->iu a.1 b.1=0:=λh0=>by have:=p 0 h0;rw[g]at this;simpa using this
  have o:1<i->iu a.2.1 b.2.1=0:=λh0=>by have:=p 1 h0;rw[g]at this;simpa using this
  have y:2<i->iu a.2.2.1 b.2.2.1=0:=λh0=>by have:=p 2 h0;rw[g]at this;simpa using this
  refine ag (λe=>?_) (λe=>?_)
  ·have m:i<i0 L:=by have J:(i:Int)<(c.len:Int):=e;omega
   refine E.bt i i4 m L[i] i4 ?_;refine bx (λe2=>⟨?_,i4⟩) (λe2=>?_)
   ·congr 1;unfold lU;have:i=0∨i=1∨i=2:=i5
    subst g;rcases this with rfl|rfl|rfl
    ·exact(g9 (show iu a.1 b.1≠0 from e2)).symm
    ·rw[hU (by rw[d i5];simp)];exact(g9 (show iu a.2.1 b.2.1≠0 from e2)).symm
    ·rw[hU (by rw[d i5];simp),hU (by rw[o i5];simp)];rfl
   ·refine⟨i+1,j1,⟨i5,λj N=>?_,i4⟩,i5⟩;by_cases t:j=i
    ·subst t;rw[qc m,e2]
    ·exact p j i5
  ·have u:i=3:=by have J:¬(i:Int)<(c.len:Int):=e;omega
   subst u;refine⟨?_,i4⟩;unfold lU;rw[d i5,o i5,y i5];rfl
 ·rintro _ H ⟨rfl,rfl⟩;exact⟨_,i4,trivial,i4,.zip x.ae⟩
abbrev cQ(s:Sl)(d:List bF):HP:=af 167 s 8 bS d
section
variable {d:List bF}
theorem rf(X U M V Y:List bF)(n:Nat)(a b:Int)(S:i0 U=n)(P:i0 V=n)(K:a=(i0 X:Int))(N:b=(i0 X+n+i0 M:Nat))(I:i0 X+n+i0 M+n+i0 Y<=2^40)(H:aa B h0 h (cQ s (X++(U++(M++(V++Y))))::As)):
  an xP 341 #[s,xF xL a,xF xL b,xF xL n,.func (.func 156) #[] #[]] h λv h'=>v=.tuple #[]/\aa B h0 h' (cQ s (X++(V++(M++(U++Y))))::As):=by
 refine ts Tryz.func341 ?_ (.two .n (.inn (.loop [(10,aQ)] [(10,38)] .n))) (args:=[s,(a:Int),(b:Int),(n:Int),(.func (.func 156) #[] #[])]);subst K;subst N;refine aq (λk:Nat=>(k:Int)) (λk h'=>k<=n/\aa B h0 h' (cQ s (X++(V.take k++U.drop k++(M++(U.take k++V.drop k++Y))))::As)) (λk=>n-k) 0 i4 ⟨i5,l0⟩ ?_;rintro k Q ⟨T,f⟩;refine ag (λe=>?_) (λe=>?_)
 ·have O:k<n:=i5
  have p:k<i0 U:=i5
  have q:k<i0 V:=i5
  have d:X++(V.take k++U.drop k++(M++(U.take k++V.drop k++Y)))=(X++V.take k)++U[k]::((U.drop (k+1)++(M++U.take k))++V[k]::(V.drop (k+1)++Y)):=by rw[qK p,qK q];simp only[qn,zu,zV]
  have c:X++(V.take (k+1)++U.drop (k+1)++(M++(U.take (k+1)++V.drop (k+1)++Y)))=(X++V.take k)++V[k]::((U.drop (k+1)++(M++U.take k))++U[k]::(V.drop (k+1)++Y)):=by rw[aD V k q,aD U k p];simp only[qn,zu,zV]
  rw[d]at f;obtain⟨y,x,z,L⟩:=Kj (X++V.take k) (U.drop (k+1)++(M++U.take k)) (V.drop (k+1)++Y) U[k] V[k] (i:=i0 X+k) (j:=i0 X+n+i0 M+k) i9 i9;obtain⟨D,J⟩:∃D,D=(X++V.take k)++U[k]::((U.drop (k+1)++(M++U.take k))++V[k]::(V.drop (k+1)++Y)):=⟨_,rfl⟩
  rw[<-J]at f y x z L;have t:=(qk.1 y)
  have u:=(qk.1 x)
  obtain⟨o,r⟩:=t;obtain⟨m,w⟩:=u;have G:qe xL ((i0 X:Int)+k)=((i0 X+k:Nat):Int):=j6
  have F:qe xL (((i0 X+n+i0 M:Nat):Int)+k)=((i0 X+n+i0 M+k:Nat):Int):=j6
  rw[G,F];refine(f.seq 0 i4 λ_=>rfl).cU (g:=bS) _ i4 m V[k] (by rw[w]) ?_;refine(f.seq 0 i4 λ_=>rfl).cU (g:=bS) _ i4 o U[k] q6 ?_;refine f.set aj 0 i4 (λ_=>rfl) i4 (i0 X+k) i4 o V[k] i4 i4 i4 λR E=>⟨trivial,?_⟩
  refine E.set aj 0 i4 (λ_=>rfl) i4 (i0 X+n+i0 M+k) i4 m0 U[k] i4 i4 i4 λh3 A=>⟨trivial,?_⟩
  refine⟨k+1,j1,⟨i5,?_⟩,i5⟩;rw[c,<-z];exact A
 ·have:k=n:=i5
  subst this;rw[qg (l:=V) i5,zc (l:=U) i5,qg (l:=U) i5,zc (l:=V) i5]at f;refine⟨i4,?_⟩;simpa using f
theorem QA(X U V Y:List bF)(a m b:Int)(J:0<i0 U)(z:0<i0 V)(E:a=(i0 X:Int))(y:m=(i0 X+i0 U:Nat))(K:b=(i0 X+i0 U+i0 V:Nat))(D:i0 X+i0 U+i0 V+i0 Y<=2^40)(H:aa B h0 h (cQ s (X++(U++(V++Y)))::As)):
  an xP 328 #[s,xF xL a,xF xL m,xF xL b,.func (.func 156) #[] #[]] h λv h'=>v=.tuple #[]/\aa B h0 h' (cQ s (X++(V++(U++Y)))::As):=by
 refine ts Tryz.func328 ?_ (.two .n (.two .n (.two (.inn (.loop [(10,aQ),(11,aQ)] [(10,12),(18,50)] .n)) .n))) (args:=[s,(a:Int),(m:Int),(b:Int),(.func (.func 156) #[] #[])]);subst E;subst y;subst K;have F:qe xL (((i0 X+i0 U:Nat):Int)-i0 X)=(i0 U:Int):=j6
 have e2:qe xL (((i0 X+i0 U+i0 V:Nat):Int)-(i0 X+i0 U:Nat))=(i0 V:Int):=j6
 rw[F,e2];refine aq (λt:List bF×List bF×List bF×List bF=>((i0 t.2.1:Int),(i0 t.2.2.1:Int))) (λt h'=>0<i0 t.2.1/\0<i0 t.2.2.1/\X.length+i0 t.1+i0 t.2.1=i0 X+i0 U/\V++U=t.1++((t.2.2.1++t.2.1)++t.2.2.2)/\aa B h0 h' (cQ s (X++(t.1++(t.2.1++(t.2.2.1++(t.2.2.2++Y)))))::As)) (λt=>i0 t.2.1+i0 t.2.2.1) ([],U,V,[]) i4 ⟨J,z,jj,jj,l0⟩ ?_;rintro⟨P,A,c,Q⟩ u ⟨O,R,y,p,w⟩;dsimp only at*;have i:=congrArg vw p;simp only[qw]at i;refine bx (λe=>ag (λL=>?_) λL=>?_) (λe=>?_)
 ·--the left one is longer
  have r:i0 c<i0 A:=i5
  have I:A=A.take c.length++A.drop c.length:=(qC _ _).symm;have l:i0 (A.take c.length)=i0 c:=i9
  have g:qe xL (((i0 X+i0 U:Nat):Int)-i0 A)=(i0 (X++P):Int):=by rw[ai _];simp;omega
  rw[g];have d:aa B h0 u (cQ s ((X++P)++(A.take c.length++(A.drop c.length++(c++(Q++Y)))))::As):=by
   have:(X++P)++(A.take c.length++(A.drop c.length++(c++(Q++Y))))=X++(P++(A++(c++(Q++Y)))):=by
    conv=>rhs;rw[I]
    simp only[qn,zu,zV]
   rw[this];exact w
  refine(rf (X++P) (A.take c.length) (A.drop c.length) c (Q++Y) c.length _ _ l i4 i4 i9 i9 d).mono ?_;rintro _ x ⟨rfl,f⟩;refine⟨(),i4,(P++c,A.drop c.length,A.take c.length,Q),?_,⟨l5,i7,l5,?_,?_⟩,l5⟩
  ·try dsimp only
   rw[l,ai _];simp;omega
  ·try dsimp only
   rw[p,qC];simp
  ·try dsimp only
   have:X++((P++c)++(A.drop c.length++(A.take c.length++(Q++Y))))=(X++P)++(c++(A.drop c.length++(A.take c.length++(Q++Y)))):=jj
   rw[this];exact f
 ·have r:i0 A<i0 c:=i5
  obtain⟨j,N⟩:∃j,j=i0 c-i0 A:=⟨_,rfl⟩
  have G:c=c.take j++c.drop j:=(qC _ _).symm;have o:i0 (c.drop j)=i0 A:=i9
  have k:i0 (c.take j)=j:=i9
  have g:qe xL (((i0 X+i0 U:Nat):Int)-i0 A)=(i0 (X++P):Int):=by rw[ai _];simp;omega
  have M:qe xL ((qe xL (((i0 X+i0 U:Nat):Int)+i0 c))-i0 A)=((i0 (X++P)+i0 A+i0 (c.take j):Nat):Int):=by rw[ai (((i0 X+i0 U:Nat):Int)+i0 c),ai _,k];simp;omega
  rw[g,M];have d:aa B h0 u (cQ s ((X++P)++(A++(c.take j++(c.drop j++(Q++Y)))))::As):=by
   have:(X++P)++(A++(c.take j++(c.drop j++(Q++Y))))=X++(P++(A++(c++(Q++Y)))):=by
    conv=>rhs;rw[G]
    simp only[qn,zu,zV]
   rw[this];exact w
  refine(rf (X++P) A (c.take j) (c.drop j) (Q++Y) A.length _ _ i4 o i4 i4 i9 d).mono ?_;rintro _ x ⟨rfl,f⟩;refine⟨(),i4,(P,c.drop j,c.take j,A++Q),?_,⟨i7,i7,i7,?_,?_⟩,i7⟩
  ·try dsimp only
   rw[k,o,ai _];congr 1;omega
  ·try dsimp only
   rw[p,qC];simp
  ·try dsimp only
   have:X++(P++(c.drop j++(c.take j++((A++Q)++Y))))=(X++P)++(c.drop j++(c.take j++(A++(Q++Y)))):=jj
   rw[this];exact f
 ·have q:i0 A=i0 c:=i5
  have g:qe xL (((i0 X+i0 U:Nat):Int)-i0 A)=(i0 (X++P):Int):=by rw[ai _];simp;omega
  rw[g];have d:aa B h0 u (cQ s ((X++P)++(A++([]++(c++(Q++Y)))))::As):=by
   have:(X++P)++(A++([]++(c++(Q++Y))))=X++(P++(A++(c++(Q++Y)))):=jj
   rw[this];exact w
  refine(rf (X++P) A [] c (Q++Y) A.length _ _ i4 q.symm i4 i9 i9 d).mono ?_;rintro _ x ⟨rfl,f⟩;refine⟨(),i4,i4,?_⟩;have:X++(V++(U++Y))=(X++P)++(c++([]++(A++(Q++Y)))):=by
   have:V++(U++Y)=(V++U)++Y:=jj
   rw[this,p];simp
  rw[this];exact f
end
theorem Uv(l:aL)(x:UInt8):dv (l++[x])=dv l*256+x.toNat:=by unfold dv;rw[List.foldl_append];rfl
theorem Ck:∀l:aL,i0 l<=4->0<=dv l/\dv l<4294967296/\(i0 l<=3->dv l<16777216)
 |[],_=>by simp[dv]
 |[a],_=>by have:=a.toNat_lt;simp only[dv,zy,wQ];omega
 |[a,b],_=>by have:=a.toNat_lt;have:=b.toNat_lt;simp only[dv,zy,wQ];omega
 |[a,b,c],_=>by have:=a.toNat_lt;have:=b.toNat_lt;have:=c.toNat_lt;simp only[dv,zy,wQ];omega
 |[a,b,c,d],_=>by have:=a.toNat_lt;have:=b.toNat_lt;have:=c.toNat_lt;have:=d.toNat_lt;simp only[dv,zy,wQ,ze,yo];omega
 |_::_::_::_::_::_,h=>mn
theorem Ol(n x:Nat)(f:n<2^32)(e:x<256):qe xL (((qO (qH xL) (qe xL ((n:Int)*2^min (8:Int).toNat (qH xL)))|||qO (qH xL) (qe xL (x:Int))).toNat:Nat):Int)=(n:Int)*256+x:=by
 have d:min (8:Int).toNat (qH xL)=8:=rfl;rw[d];have c:qe xL ((n:Int)*2^8)=((n*256:Nat):Int):=by rw[Qw.ai _];omega
 have e2:qe xL (x:Int)=((x:Nat):Int):=Qw.ai _;rw[c,e2];have a:(qO (qH xL) ((n*256:Nat):Int)|||qO (qH xL) ((x:Nat):Int)).toNat=n*256+x:=by show((qO 64 ((n*256:Nat):Int)|||qO 64 ((x:Nat):Int):BitVec 64)).toNat=n*256+x;rw[BitVec.toNat_or,yc,yc,BitVec.toNat_ofNat,BitVec.toNat_ofNat,vD i5,vD i5];have:=Nat.shiftLeft_add_eq_or_of_lt (b:=x) (i:=8) i5 n;rw[Nat.shiftLeft_eq,show(2:Nat)^8=256 from rfl]at this;omega
 rw[a,Qw.ai _];omega
def fq:iK bF dm:=⟨λh q a b=>(a.1=b.object/\a.2.1=b.block/\a.2.2.1=b.id/\(a.2.2.2.1,a.2.2.2.2.1,a.2.2.2.2.2.1)=b.p/\a.2.2.2.2.2.2.1=b.seed/\0<=b.seed/\b.seed<4294967296)/\Seq h q a.2.2.2.2.2.2.2 1 az b.data,λa d=>⟨a.1,a.2.ae d⟩,λa c=>⟨a.1,a.2.mono c⟩⟩
theorem jY{p q:aw}(a b:Sl)(d c:aL)(h:g0)(e:Seq h p a 1 az d)(f:Seq h q b 1 az c):
  an xP 46 #[a,b] h λv h'=>v=xJ (decide (d=c))/\h'=h:=by
 refine ts Tryz.func46 ?_;refine Fs aj ⟨_,i4,i4⟩ ⟨_,i4,i4⟩ ⟨_,i4,i4⟩ e (Fs aj ⟨_,i4,i4⟩ ⟨_,i4,i4⟩ ⟨_,i4,i4⟩ f ⟨?_,i4⟩);rw[ByteArray.toList_mk,ByteArray.toList_mk];have:(d==c)=decide (d=c):=by rw[Bool.eq_iff_iff];simp
 rw[this]
theorem Ir(b:Sl)(c:aL)(h:g0)(g:Rd h b 1 az c)(z:i0 c<=2^30)(d:b.len<=b.cap):
  an xP 34 #[b] h λv h'=>(jw c=eH->v=.tuple #[xF xL 0,xG eH 0 0,xJ fz]/\Sp h h' [])/\
   ∀k x,jw c=dB (k,x)->∃r:Sl,v=.tuple #[xF xL k,r,xJ eX]/\Sp h h' [af 5 r 1 az x]:=by
 refine ts Tryz.func34 ?_;have y:=g.len;refine bx (λe=>?_) (λe=>?_)
 ·have:jw c=eH:=by unfold jw;rw[hU λa=>e i5]
  rw[this];exact⟨λ_=>⟨i4,Sp.refl h⟩,λk x h=>k9⟩
 have o:i0 c=64:=i5
 have h3:3<i0 c:=i5
 refine g.mE 3 i4 h3 ((c.getD 3 0).toNat:Int) (by rw[getD_lt h3];rfl) λw j=>⟨⟨i6,i6,i5⟩,?_⟩
 have f:=(g.drop 4 d).take 55 i9;have q:i0 ((c.drop 4).take 55)=55:=i9
 refine(fw ⟨_,55,b.cap-4⟩ ((c.drop 4).take 55) h f i5).mono ?_;rintro _ s ⟨r,rfl,l⟩;refine⟨r,i4,lI l.ae ⟨j,trivial⟩,?_⟩;have A:=(c.getD 3 0).toNat_lt;rw[ai ((c.getD 3 0).toNat:Int)];refine(Eh ((c.getD 3 0).toNat:Int) r ((c.drop 4).take 55) s (l.seq 0 i4 λ_=>rfl)).mono ?_;rintro _ t ⟨p,rfl,u⟩;have i:=l.comp u;refine⟨p,i4,(jY b p c _ t (g.up i.ae) (i.seq 1 i4 λ_=>rfl)).mono ?_⟩;rintro _ h3 ⟨rfl,rfl⟩;refine⟨_,i4,aR (λe2=>?_) λe2=>?_⟩
 ·have n:c≠eI ((c.getD 3 0).toNat:Int) ((c.drop 4).take 55):=of_decide_eq_false e2;have:jw c=eH:=by unfold jw;rw[hU λa=>n a.2.symm]
  rw[this];exact⟨λ_=>⟨i4,.zip i.ae⟩,λk x h=>k9⟩
 ·have m:c=eI ((c.getD 3 0).toNat:Int) ((c.drop 4).take 55):=ii e2;have:jw c=dB (((c.getD 3 0).toNat:Int),(c.drop 4).take 55):=by unfold jw;rw[g9 ⟨o,m.symm⟩]
  rw[this];refine⟨λh=>k9,λk x a=>?_⟩;injection a with a
  injection a with hh1 hh2
  subst hh1;subst hh2;exact⟨r,i4,i.bA [0]⟩
theorem Lk(b:Sl)(l:aL)(h:g0)(d:Rd h b 1 az l)(m:i0 l<=4):an xP 219 #[b] h λv h'=>v=xF xL (dv l)/\h'=h:=by
 refine ts Tryz.func219 ?_ (.two .n (.two .n (.two (.two .n (.inn (.loop [(3,aQ),(8,aQ)] [(3,4),(5,6),(8,18)] .n))) .n)));have g:=d.len;refine aq (λi:Nat=>(dv (l.take i),(i:Int))) (λi h'=>i<=i0 l/\h'=h) (λi=>i0 l-i) 0 i4 ⟨i5,i4⟩ ?_;rintro i o ⟨k,rfl⟩
 try dsimp only
 refine ag (λe=>?_) (λe=>?_)
 ·have a:i<i0 l:=i5
  refine d.bt i i4 a (l[i].toNat:Int) i4 ⟨i6,?_⟩;have c:=(Ck (l.take i) i9)
  have f:=c.2.2 i9;have p:=l[i].toNat_lt;obtain⟨n,j⟩:∃n:Nat,dv (l.take i)=(n:Int):=⟨(dv (l.take i)).toNat,i5⟩
  refine⟨i+1,?_,⟨i5,i4⟩,i5⟩;rw[aD _ _ a,Uv,j,Ol n _ i5 i5,ai ((i:Int)+1)];rfl
 ·rw[qg i5];exact⟨i4,i4⟩
theorem FY(x:bF)(r:dm)(h:g0)(I:dQ fq h x r):an xP 159 #[recv x] h λv h'=>v=xJ (iV r)/\Sp h h' []:=by
 refine ts Tryz.func159 ?_ (.two .n (.two (.join [(3,sM)] [(3,32)] .n) .n)) (args:=[x]);obtain⟨⟨F,e2,J,t,K,_⟩,D⟩:=I;have m:x.2.2.2.1=r.p.1:=congrArg (·.1) t;have q:x.2.2.2.2.1=r.p.2.1:=congrArg (·.2.1) t;have i:x.2.2.2.2.2.1=r.p.2.2:=congrArg (·.2.2) t;have c:=Seq.len D;refine(Sp.refl h).boxed λa d j=>?_;have j:Sp h d [ac a 167 (bS x)]:=j;have l:=j.box 0 i4;have u:f9 d a=dB (xF xL r.object):=by rw[<-F];exact l.cell0 i4
 have w:f9 d (a.add 1)=dB (xF xL r.block):=by rw[<-e2];exact l.cell i4
 have z:f9 d (a.add 2)=dB (xF xL r.id):=by rw[<-J];exact l.cell i4
 have y:∀{h':g0},Sp h h' [ac a 167 (bS x)]->(iV r=eX->False)->Value.bool fz=xJ (iV r)/\Sp h h' []:=λ{h'} H' hn=>⟨by cases hq:iV r with|false=>rfl|true=>exact absurd hq hn,.zip H'.ae⟩
 refine bL (λb h'=>b=decide ((0<=r.object/\r.object<=16777215)/\(0<=r.block/\r.block<=7)/\(0<=r.id/\r.id<=65535))/\h'=d) ?_ ?_
 ·refine⟨_,u,ag (λH=>⟨_,u,ag (λf=>⟨_,w,ag (λB=>⟨_,w,ag (λE=>⟨_,z,ag (λA=>⟨_,z,?_,i4⟩) λA=>⟨?_,i4⟩⟩) λE=>⟨?_,i4⟩⟩) λB=>⟨?_,i4⟩⟩) λf=>⟨?_,i4⟩⟩) λH=>⟨?_,i4⟩⟩
  ·rw[decide_eq_decide];omega
  all_goals (symm;rw[decide_eq_false_iff_not];omega)
 ·rintro _ _ ⟨rfl,rfl⟩;refine ag (λg=>?_) λg=>y j λs=>g (by have:=(kO r).1 s;omega);refine⟨r.p,by rw[<-m,<-q,<-i];exact l.Aa 3 i4 i4 i4,(dZ r.p _).mono ?_⟩;rintro _ h3 ⟨rfl,G⟩;have o:Sp h h3 [ac a 167 (bS x)]:=j.up G.ae;have e:=o.box 0 i4;refine⟨_,i4,bo (λf=>?_) λf=>y o λs=>by have:=((kO r).1 s).2.2.2.1;rw[f]at this;cases this⟩;refine⟨x.2.2.2.2.2.2.2,e.cell i4,r.p.2.2,by rw[<-i];exact e.uv 3 2 i4,?_,.zip o.ae⟩;congr 1;by_cases k:(r.data.length:Int)=r.p.2.2
  ·have:iV r=eX:=(kO r).2 ⟨i5,i5,i5,f,k⟩;rw[this,c];simpa using k
  ·have:iV r=fz:=by
    cases hq:iV r with
    |false=>rfl
    |true=>exact absurd ((kO r).1 hq).2.2.2.2 k
   rw[this,c];simpa using k
theorem nA(s:Sl)(l:aL)(n:Int)(k:Nat)(q:k<=4)(j:i0 l<=2^30)(H:aa B h0 h (af 5 s 1 az l::As)):
  an xP 160 #[s,xF xL n,xF xL k] h λv h'=>∃r:Sl,v=r/\aa B h0 h' (af 5 r 1 az (l++bE n k)::As):=by
 refine ts Tryz.func160 ?_ (.two .n (.two (.two .n (.inn (.loop [(0,cL),(7,aQ)] [(0,1),(7,8),(10,22)] .n))) .n));rw[ai ((k:Int)-1)];refine aq (λt:Sl×Nat=>(t.1,(k:Int)-1-t.2)) (λt h'=>t.2<=k/\aa B h0 h' (af 5 t.1 1 az (l++(bE n k).take t.2)::As)) (λt=>k-t.2) (s,0) jj ⟨jj,l0⟩ ?_;rintro⟨r,t⟩ o ⟨m,b⟩;dsimp only at*;refine ag (λe=>?_) (λe=>?_)
 ·have a:t<k:=i5
  have f:qe xL ((8:Int)*((k:Int)-1-t))=((8*(k-1-t):Nat):Int):=by rw[ai _];omega
  rw[f,qj];have e2:min (8*(k-1-t)) (qH xL)=8*(k-1-t):=by have:qH xL=64:=rfl;omega
  rw[e2,eV];refine⟨i5,?_⟩;refine b.push aj 0 i4 gz i4 i6 (λ_=>rfl) gU (b8 (zN n (2^(8*(k-1-t))))) i4 i6 m5 λd p c=>?_;refine⟨(d,t+1),?_,⟨i7,?_⟩,i7⟩
  ·try dsimp only
   have i:qe xL ((k:Int)-1-t-1)=(k:Int)-1-((t+1:Nat):Int):=by rw[ai _];omega
   rw[i]
  ·try dsimp only
   have g:(bE n k).take t++[b8 (zN n (2^(8*(k-1-t))))]=(bE n k).take (t+1):=by rw[aD _ _ (by rw[cA];exact a)];congr 2;simp[bE]
   rw[<-g,<-qn];exact c
 ·have:t=k:=i5
  subst this;rw[qg (by rw[cA];omega)]at b;exact⟨r,i4,b⟩
theorem rG(x:bF)(r:dm)(h:g0)(G:dQ fq h x r):an xP 106 #[recv x] h λv h'=>∃s:Sl,v=s/\Sp h h' [af 5 s 1 az (cW r)]:=by
 refine ts Tryz.func106 ?_ (args:=[x]);obtain⟨⟨N,e2,T,q,X,e7,e8⟩,M⟩:=id G;have i:x.2.2.2.1=r.p.1:=congrArg (·.1) q;have l:x.2.2.2.2.1=r.p.2.1:=congrArg (·.2.1) q;have u:x.2.2.2.2.2.1=r.p.2.2:=congrArg (·.2.2) q;refine(Sp.refl h).boxed λd B b=>?_;have b:Sp h B [ac d 167 (bS x)]:=b;refine⟨x,(b.box 0 i4).aF _ i4,(FY x r B (fq.mono (fq.loc G b.ae) λ_ S=>qZ S b.ae.1)).mono ?_⟩;rintro _ O ⟨rfl,Y⟩;have j:Sp h O [ac d 167 (bS x)]:=b.up Y.ae;refine⟨_,i4,aR (λg=>?_) λg=>?_⟩
 ·unfold cW;rw[g];exact⟨⟨eH,0,0⟩,i4,(j.nil 5 1 az).bA [1]⟩
 have P:=oE g;have m:=j.box 0 i4;refine⟨r.object,by rw[<-N];exact m.cell0 i4,(nA ⟨eH,0,0⟩ [] r.object 3 i6 jj (j.nil 5 1 az).be).mono ?_⟩;rintro _ h3 ⟨H,rfl,z⟩;have o:=z.box 1 i4;refine⟨H,i4,r.block,by rw[<-e2];exact o.cell i4,(nA H _ r.block 1 i6 pt z).mono ?_⟩;rintro _ h4 ⟨D,rfl,E⟩;have w:=E.box 1 i4;refine⟨D,i4,r.id,by rw[<-T];exact w.cell i4,(nA D _ r.id 2 i6 pt E).mono ?_⟩;rintro _ Z ⟨V,rfl,F⟩;have a:=F.box 1 i4;refine⟨V,i4,r.p.1,by rw[<-i];exact a.cell i4,r.p.2.1,by rw[<-l];exact a.uv 3 1 i4,r.p.2.2,by rw[<-u];exact a.uv 3 2 i4,?_⟩
 try dsimp only
 rw[eV,eV,eV];refine F.lit aj az gz i4 [b8 r.p.1,b8 r.p.2.1,b8 r.p.2.2] i4 (show 3*1<=2^20 by decide) i4 λW h6 K=>?_;refine K.append aj 0 i4 gz ⟨_,_,i4,i4⟩ i4 i6 (λ_=>rfl) (K.seq 2 i4 λ_=>rfl) gU pt λA Q e=>?_;have e:Sp h Q [af 5 A 1 az ([]++bE r.object 3++bE r.block 1++bE r.id 2++[b8 r.p.1,b8 r.p.2.1,b8 r.p.2.2]),ac d 167 (bS x)]:=e.bA [0,1];have n:=e.box 1 i4;refine⟨r.seed,by rw[<-X];exact n.cell i4,?_⟩
 try dsimp only
 rw[ai r.seed];refine(nA A _ r.seed 4 i6 pt e).mono ?_;rintro _ h8 ⟨R,rfl,k⟩;have y:=k.box 1 i4;refine⟨R,i4,x.2.2.2.2.2.2.2,y.cell i4,?_⟩;refine k.append aj 0 i4 gz ⟨_,_,i4,i4⟩ i4 i6 (λ_=>rfl) (Seq.up M k.ae) gU m5 λI J f=>?_;have U:[]++bE r.object 3++bE r.block 1++bE r.id 2++[b8 r.p.1,b8 r.p.2.1,b8 r.p.2.2]++bE r.seed 4++r.data=jf r:=by unfold jf;simp[qn]
 have f:Sp h J [af 5 I 1 az (jf r),ac d 167 (bS x)]:=by rw[<-U];exact f
 refine(Eh 1 I (jf r) J (f.seq 0 i4 λ_=>rfl)).mono ?_;rintro _ L ⟨c,rfl,t⟩;refine⟨c,i4,c,i4,?_⟩;unfold cW;rw[g,g9 rfl];exact(f.comp t).bA [2]
theorem Om(b:Sl)(c:aL)(h:g0)(hb:Rd h b 1 az c)(hc:c.length<=2^30)(W:b.len<=b.cap):
  an xP 153 #[b] h λv h'=>∃x:bF,v=.tuple #[recv x,xJ (dO c).isSome]/\(dO c=eH->Sp h h' [])/\∀r,dO c=dB r->Sp h h' [EA fq x r]:=by
 refine ts Tryz.func153 ?_ (.two .n (.two .n (.two (.join [] [(3,4),(14,21)] .n) (.two (.join [(7,(.sc .adr))] [(7,8),(21,31)] .n) (.two (.join [] [(31,42)] .n) .n))))) [(4,(.y [0,1,3,4,6,7] (.y [2] (.y [5] (.l [8,9,10,11]) (.l [10,8,9,11])) (.l [10,5,8,9,11])) (.l [10,2,5,8,9,11]))),(5,(.l [0,1,3,4,6,7,2,5,8,9,10,11]))];refine(Sp.refl h).alloc aj i4 λd h1 H1=>?_;have H1:Sp h h1 [ac d 167 (bS (0,0,0,0,0,0,0,⟨eH,0,0⟩))]:=H1;have B:∀{h':g0} {Bs:List HP},Sp h h' (ac d 167 (bS (0,0,0,0,0,0,0,⟨eH,0,0⟩))::Bs)->dO c=eH->
   au xP (qG 167 (xH (dB d)) (recv (0,0,0,0,0,0,0,⟨eH,0,0⟩))) h' λ_ H=>∃ad:bF,bn H d 0 (bS ad)/\∃x:bF,Value.tuple #[recv ad,xJ fz]=.tuple #[recv x,xJ (dO c).isSome]/\(dO c=eH->Sp h H [])/\∀r,dO c=dB r->Sp h H [EA fq x r]:=λ{h' Bs} H' J=>by
  refine H'.storeAll aj 0 i4 i4 (bS (0,0,0,0,0,0,0,⟨eH,0,0⟩)) i4 i4 i4 i4 λH H4=>?_;exact⟨(0,0,0,0,0,0,0,⟨eH,0,0⟩),(H4.box 0 i4).aF _ i4,(0,0,0,0,0,0,0,⟨eH,0,0⟩),by rw[J];rfl,λ_=>.zip H4.ae,λr Q=>by rw[J]at Q;cases Q⟩
 refine(Ir b c h1 (hb.up H1.ae) hc W).mono ?_;rintro _ h2 ⟨Q0,Q1⟩;cases htc:jw c with
 |none=>
  obtain⟨rfl,R2⟩:=Q0 htc;have J:dO c=eH:=by unfold dO;rw[htc]
  exact⟨(0,⟨eH,0,0⟩,fz),i4,aW (aR (λ_=>B (H1.up R2.ae) J) λe=>j3)⟩
 |some kx=>
  obtain⟨k,x⟩:=kx;obtain⟨r,rfl,R2⟩:=Q1 k x htc;have t:Sp h h2 [ac d 167 (bS (0,0,0,0,0,0,0,⟨eH,0,0⟩)),af 5 r 1 az x]:=H1.comp R2;have a2:x.length=55:=by
   unfold jw at htc;split at htc
   ·rename_i o;injection htc with htc
    injection htc with _ htc
    rw[<-htc];simp;omega
   ·cases htc
  have a8:=(t.own 1 i4).len;have Y:=(t.own 1 i4).cap;refine⟨(k,r,eX),i4,aW (aR (λe=>j3) λ_=>bx (λe=>B t ?_) λM=>?_)⟩
  ·unfold dO;rw[htc];exact hU λo=>e o.1
  try dsimp only
  have M:k=1:=M;obtain⟨R,w⟩:∃R,R=sW x:=⟨_,rfl⟩
  have L:dO c=if bJ R.p=eX/\cW R=c then dB R else eH:=by
   unfold dO;rw[htc]
   try dsimp only
   rw[<-w];by_cases o:bJ R.p=eX/\cW R=c
   ·rw[g9 o];exact g9 ⟨M,o⟩
   ·rw[hU o];exact hU λh=>o h.2
  have tA:∀{h':g0},Rd h' r 1 az x->an xP 219 #[xG r.ptr 3 r.cap] h' λv O=>v=xF xL R.object/\O=h':=λ{h'} Q=>by
   rw[w];exact Lk ⟨r.ptr,3,r.cap⟩ (x.take 3) h' (Q.take 3 i5) i9
  have P:∀{h':g0} (j n:Nat),j+n<=55->n<=4->Rd h' r 1 az x->an xP 219 #[.slice (if r.cap=j then r.ptr else r.ptr.map (·.add (j*1))) n (r.cap-j)] h' λv O=>v=xF xL (dv ((x.drop j).take n))/\O=h':=λ{h'} j n hjn J Q=>
   Lk ⟨if r.cap=j then r.ptr else r.ptr.map (·.add (j*1)),n,r.cap-j⟩ ((x.drop j).take n) h' ((Q.drop j Y).take n l9) i9
  have rd:∀{h':g0} {A:HP} {Bs:List HP},Sp h h' (A::af 5 r 1 az x::Bs)->Rd h' r 1 az x:=λ{h' A Bs} H'=>H'.seq 1 i4 λ_=>rfl;have Dt:∀{h':g0} {A A2:HP} {Bs:List HP},Sp h h' (A::A2::af 5 r 1 az x::Bs)->Rd h' r 1 az x:=λ{h' A A2 Bs} H'=>H'.seq 2 i4 λ_=>rfl;refine bL (λ(a:f8) h'=>Sp h h' [ac a 167 (bS (R.object,R.block,R.id,0,0,0,0,⟨eH,0,0⟩)),ac d 167 (bS (0,0,0,0,0,0,0,⟨eH,0,0⟩)),af 5 r 1 az x]) ?_ ?_
  ·have eb:dv ((x.drop 3).take 1)=R.block:=p7
   have ei:dv ((x.drop 4).take 2)=R.id:=p7
   have fin:∀{h':g0} {a:f8},Sp h h' [ac d 167 (bS (0,0,0,0,0,0,0,⟨eH,0,0⟩)),af 5 r 1 az x,ac a 167 (bS (0,0,0,0,0,0,0,⟨eH,0,0⟩))]->
     au xP (qG 167 (xH (dB a)) (recv (R.object,R.block,R.id,0,0,0,0,⟨eH,0,0⟩))) h' λ_ H=>bR.ok [] H/\Sp h H [ac a 167 (bS (R.object,R.block,R.id,0,0,0,0,⟨eH,0,0⟩)),ac d 167 (bS (0,0,0,0,0,0,0,⟨eH,0,0⟩)),af 5 r 1 az x]:=λ{h' a} H'=>
    H'.storeAll aj 2 i4 i4 (bS (R.object,R.block,R.id,0,0,0,0,⟨eH,0,0⟩)) i4 i4 i4 i4 λH H4=>⟨trivial,H4.bA [2,0,1]⟩
   have A_:∀{h':g0} {Bs:List HP} {K:Int->g0->Prop},Sp h h' (ac d 167 (bS (0,0,0,0,0,0,0,⟨eH,0,0⟩))::af 5 r 1 az x::Bs)->K R.object h'->oU xP 219 #[xG r.ptr 3 r.cap] (.one (.sc (.int .i64))) h' K:=λ{h' Bs K} H' hK=>by
    refine(tA (rd H')).mono ?_;rintro _ _ ⟨rfl,rfl⟩;exact⟨_,i4,hK⟩
   have B_:∀{h':g0} {Bs:List HP} {K:Int->g0->Prop},Sp h h' (ac d 167 (bS (0,0,0,0,0,0,0,⟨eH,0,0⟩))::af 5 r 1 az x::Bs)->K R.block h'->oU xP 219 #[.slice (if r.cap=3 then r.ptr else r.ptr.map (·.add (3*1))) 1 (r.cap-3)] (.one (.sc (.int .i64))) h' K:=λ{h' Bs K} H' hK=>by
    refine(P 3 1 i6 i6 (rd H')).mono ?_;rintro _ _ ⟨rfl,rfl⟩;exact⟨_,i4,by rw[eb];exact hK⟩
   have C_:∀{h':g0} {Bs:List HP} {K:Int->g0->Prop},Sp h h' (ac d 167 (bS (0,0,0,0,0,0,0,⟨eH,0,0⟩))::af 5 r 1 az x::Bs)->K R.id h'->oU xP 219 #[.slice (if r.cap=4 then r.ptr else r.ptr.map (·.add (4*1))) 2 (r.cap-4)] (.one (.sc (.int .i64))) h' K:=λ{h' Bs K} H' hK=>by
    refine(P 4 2 i6 i6 (rd H')).mono ?_;rintro _ _ ⟨rfl,rfl⟩;exact⟨_,i4,by rw[ei];exact hK⟩
   refine⟨⟨i6,i5⟩,⟨i6,i6,i5⟩,⟨i6,i6,i5⟩,A_ t ⟨trivial,B_ t ⟨trivial,C_ t ⟨trivial,?_⟩,?_⟩,?_⟩,?_⟩
   ·refine t.alloc aj i4 λa9 h9 i=>⟨trivial,?_⟩
    exact fin i
   ·refine t.alloc aj i4 λa9 h9 i=>⟨trivial,?_⟩
    exact C_ i ⟨trivial,fin i⟩
   ·refine t.alloc aj i4 λa9 h9 i=>⟨trivial,?_⟩
    exact B_ i ⟨trivial,C_ i ⟨trivial,fin i⟩⟩
   ·refine t.alloc aj i4 λa9 h9 i=>⟨trivial,?_⟩
    exact A_ i ⟨trivial,B_ i ⟨trivial,C_ i ⟨trivial,fin i⟩⟩⟩
  ·rintro a9 h5 H5;have N:0<=R.seed/\R.seed<4294967296:=by have:=Ck ((x.drop 9).take 4) i9;rw[w];exact⟨this.1,this.2.1⟩
   have e6:dv ((x.drop 6).take 1)=R.p.1:=p7
   have e7:dv ((x.drop 7).take 1)=R.p.2.1:=p7
   have e8:dv ((x.drop 8).take 1)=R.p.2.2:=p7
   have e9:dv ((x.drop 9).take 4)=R.seed:=p7
   refine aW ⟨⟨i6,i6,i5⟩,⟨i6,i6,i5⟩,⟨i6,i6,i5⟩,(P 6 1 i6 i6 (Dt H5)).mono ?_⟩;rintro _ _ ⟨rfl,rfl⟩;refine⟨_,i4,trivial,(P 7 1 i6 i6 (Dt H5)).mono ?_⟩;rintro _ _ ⟨rfl,rfl⟩;refine⟨_,i4,trivial,(P 8 1 i6 i6 (Dt H5)).mono ?_⟩;rintro _ a3 ⟨rfl,rfl⟩;refine⟨_,i4,trivial,?_⟩
   try dsimp only
   rw[e6,e7,e8];refine H5.store aj 0 i4 i4 3 [xF xL R.p.1,xF xL R.p.2.1,xF xL R.p.2.2] i4 i4 i4 jj λax F=>⟨trivial,?_⟩
   have F:Sp h ax [ac a9 167 (bS (R.object,R.block,R.id,R.p.1,R.p.2.1,R.p.2.2,0,⟨eH,0,0⟩)),ac d 167 (bS (0,0,0,0,0,0,0,⟨eH,0,0⟩)),af 5 r 1 az x]:=F;refine⟨⟨i6,i6,i5⟩,(P 9 4 i6 i6 (Dt F)).mono ?_⟩;rintro _ a5 ⟨rfl,rfl⟩;refine⟨_,i4,?_⟩
   try dsimp only
   have ew:qe xN (dv ((x.drop 9).take 4))=R.seed:=by rw[e9];unfold qe;simp[qH,va];omega
   rw[ew];refine F.store aj 0 i4 i4 6 [xF xN R.seed] i4 i4 i4 jj λZ D=>?_;have D:Sp h Z [ac a9 167 (bS (R.object,R.block,R.id,R.p.1,R.p.2.1,R.p.2.2,R.seed,⟨eH,0,0⟩)),ac d 167 (bS (0,0,0,0,0,0,0,⟨eH,0,0⟩)),af 5 r 1 az x]:=D;refine⟨R.p,(D.box 0 i4).Aa 3 i4 i4 i4,(dZ R.p Z).mono ?_⟩;rintro _ U ⟨rfl,al⟩;have E:Sp h U [ac a9 167 (bS (R.object,R.block,R.id,R.p.1,R.p.2.1,R.p.2.2,R.seed,⟨eH,0,0⟩)),ac d 167 (bS (0,0,0,0,0,0,0,⟨eH,0,0⟩)),af 5 r 1 az x]:=D.up al.ae;refine⟨_,i4,aR (λg=>B (E.aO 2 [1,0]) (by rw[L,hU λo=>by rw[g]at o;cases o.1])) λg=>?_⟩;have a4:=(bT R.p).1 g;refine⟨R.p.2.2,(E.box 0 i4).uv 3 2 i4,?_⟩
   try dsimp only
   rw[ai ((13:Int)+R.p.2.2)];refine⟨⟨i6,i5,i5⟩,?_⟩;have ao:((13:Int)+R.p.2.2).toNat-(13:Int).toNat=R.p.2.2.toNat:=i5
   rw[ao];have G:(x.drop 13).take R.p.2.2.toNat=R.data:=p7
   have I:=((Dt E).drop 13 Y).take R.p.2.2.toNat l9;rw[G]at I;have a6:R.data.length=R.p.2.2.toNat:=by rw[<-G];simp;omega
   refine(fw ⟨if r.cap=13 then r.ptr else r.ptr.map (·.add (13*1)),R.p.2.2.toNat,r.cap-13⟩ R.data U I i5).mono ?_;rintro _ a7 ⟨u,rfl,ap⟩;have ah:=E.comp ap;refine⟨u,i4,?_⟩;refine ah.store aj 0 i4 i4 7 [u] i4 i4 i4 jj λS m=>?_;have m:Sp h S [ac a9 167 (bS (R.object,R.block,R.id,R.p.1,R.p.2.1,R.p.2.2,R.seed,u)),ac d 167 (bS (0,0,0,0,0,0,0,⟨eH,0,0⟩)),af 5 r 1 az x,af 5 u 1 az R.data]:=m;obtain⟨X,hX⟩:∃X:bF,X=(R.object,R.block,R.id,R.p.1,R.p.2.1,R.p.2.2,R.seed,u):=⟨_,rfl⟩
   rw[<-hX]at m;have ab:∀{h':g0} {q:aw},Seq h' q u 1 az R.data->fq.p h' q X R:=λ{h' q} hs=>by rw[hX];exact⟨⟨i4,i4,i4,i4,i4,N⟩,hs⟩
   refine⟨X,(m.box 0 i4).aF _ i4,(rG X R S (ab (m.seq 3 i4 λ_=>rfl))).mono ?_⟩;rintro _ a0 ⟨s5,rfl,am⟩;have s:=m.comp am;refine⟨s5,i4,(jY b s5 c (cW R) a0 (hb.up s.ae) (s.seq 4 i4 λ_=>rfl)).mono ?_⟩;rintro _ bb ⟨rfl,rfl⟩;refine⟨_,i4,aR (λV=>B (s.aO 2 [1,0]) (by rw[L,hU λo=>(of_decide_eq_false V) o.2.symm])) λV=>?_⟩;have V:c=cW R:=ii V;refine⟨X,(s.box 0 i4).aF _ i4,?_⟩;refine s.storeAll aj 1 i4 i4 (bS X) i4 i4 i4 i4 λar T=>?_;have f:dO c=dB R:=by rw[L,g9 ⟨g,V.symm⟩]
   refine⟨X,(T.box 1 i4).aF _ i4,X,by rw[f];rfl,λJ=>(by rw[f]at J;cases J),λr' z=>?_⟩;rw[f]at z;injection z with z
   subst z;have ay:Sp h ar [af 5 u 1 az R.data]:=T.bA [3];exact ay.eJ 0 i4 λq hq=>ab (hq.1.seq (λ_=>rfl) hq.2)
variable {X Y Z:HP}
section
variable {L:List HP}
theorem aa.agO(H:aa B h0 h (X::Y::(L++As))):aa B h0 h (L++(X::Y::As)):=
 H.pick (λi=>if i<i0 L then i+2 else if i=i0 L then 0 else if i=i0 L+1 then 1 else i) (λa b c=>by(try dsimp only at c);split at c<;>split at c<;>(try split at c)<;>(try split at c)<;>(try split at c)<;>(try split at c)<;>omega) λi A d=>by
  try dsimp only
  by_cases g:i<i0 L
  ·rw[qm g]at d;rw[g9 g,qp,qp,qm g];exact d
  ·rw[qh i5]at d;rw[hU g];by_cases e:i=i0 L
   ·subst e;rw[g9 rfl];rw[qW]at d;exact d
   ·rw[hU e];by_cases f:i=i0 L+1
    ·subst f;rw[g9 rfl];rw[show L.length+1-i0 L=1 by omega]at d;exact d
    ·rw[hU f];obtain⟨j,rfl⟩:∃j,i=i0 L+(j+2):=⟨i-i0 L-2,i5⟩
     rw[zn,qp,qp]at d;rw[show L.length+(j+2)=(i0 L+j)+1+1 by omega,qp,qp,qh i5,zn];exact d
theorem aa.SJ(n:Nat)(c:L[n]?=dB X)(H:aa B h0 h (Y::Z::(L++As))):aa B h0 h (X::Z::Y::(L.set n emp++As)):=by
 have a:=(qk.1 c).1;have b:=H.cons (n+2) (A:=X) (by rw[qp,qp,qm a];exact c);have e:(Y::Z::(L++As)).set (n+2) emp=Y::Z::(L.set n emp++As):=by rw[zw,zw,List.set_append_left _ _ a]
 rw[e]at b;exact b.aO 3 [0,2,1]
theorem aa.FF(n:Nat)(g:n<i0 L)(H:aa B h0 h (X::Z::Y::(L.set n emp++As))):aa B h0 h (Y::Z::(L.set n X++As)):=
 H.pick (λi=>if i=0 then 2 else if i=1 then 1 else if i=n+2 then 0 else i+1) (λa b c=>by(try dsimp only at c);split at c<;>split at c<;>(try split at c)<;>(try split at c)<;>(try split at c)<;>(try split at c)<;>omega) λi A d=>by
  try dsimp only
  match i,d with
  |0,d=>exact d
  |1,d=>exact d
  |i+2,d=>
   rw[hU i5,hU i5];rw[qp,qp]at d;by_cases e:i=n
   ·subst e;rw[qm l4,zk g]at d;rw[g9 rfl];exact d
   ·rw[hU i5,qp,qp,qp];by_cases f:i<i0 L
    ·rw[qm pb,zF i5]at d;rw[qm pb,zF i5];exact d
    ·rw[qh i9,zC]at d;rw[qh i9,zC];exact d
end
structure Kit where
 tS:Nat
 tP:Nat
 tD:Nat
 f:f8->aZ->Sl->Sl->aT
def aay(k:Kit)(pw:f8)(a:cj)(d:Option aZ):HP:=match a,d with
 |some a,dB d=>gG k.tD (k.f pw) a d
 |_,_=>emp
abbrev bQ(a:aT)(pw:f8)(offs:Int)(b:List cj):aT:=a++(xH (dB pw)::xF xL offs::b.map .pointer)
structure fG (mc:aT) (da:List cj) (ds:aE):Prop where
 l8:i0 mc=8
 la:i0 da=64
 ls:i0 ds=64
 same:∀i:Nat,(da.getD i eH).isSome=(ds.getD i eH).isSome
abbrev dq(k:Kit)(pw:f8)(a:List cj)(ds:aE):List HP:=List.zipWith (aay k pw) a ds
def aY(k:Kit)(a pw:f8)(c:aT)(offs:Int)(b:List cj)(w:Pow)(ds:aE):HP:=
 (HP.all (ac a k.tS (bQ c pw offs b)::bV k.tP pw w::dq k pw b ds)).and (fG c b ds)
variable {mc:aT} {offs:Int} {da:List cj} {w':Pow} {ds:aE} {d':aZ} {n:Nat}
section
variable {k:Kit} {pw:f8}
theorem Cl(ok:fG mc da ds):i0 (dq k pw da ds)=64:=by simp[dq,ok.la,ok.ls]
theorem aa.oz(H:aa B h0 h (aY k a pw mc offs da w ds::As)):fG mc da ds/\aa B h0 h (ac a k.tS (bQ mc pw offs da)::bV k.tP pw w::(dq k pw da ds++As)):=by obtain⟨H,ok⟩:=H.oX;exact⟨ok,H.lp⟩
theorem aa.oJ(ok:fG mc da ds)(H:aa B h0 h (ac a k.tS (bQ mc pw offs da)::bV k.tP pw w::(dq k pw da ds++As))):aa B h0 h (aY k a pw mc offs da w ds::As):=
 (aa.closeAll (ac a k.tS (bQ mc pw offs da)::bV k.tP pw w::dq k pw da ds) H).tooX ok
theorem fG.addr(ok:fG mc da ds)(c:ds[n]?=dB (dB d)):∃b,da[n]?=dB (dB b):=by
 have g:n<64:=by have:=(qk.1 c).1;rw[ok.ls]at this;exact this
 have a:=ok.same n;rw[qd,qd,c]at a;have f:n<i0 da:=by rw[ok.la];exact g
 rw[qc f]at a⊢;simp at a;obtain⟨b,e⟩:=yz.1 a;exact⟨b,by rw[e]⟩
theorem fG.Ba(ok:fG mc da ds)(d:n<64)(b:ds[n]?=dB eH):da[n]?=dB eH:=by
 have a:=ok.same n;rw[qd,qd,b]at a;have c:n<i0 da:=by rw[ok.la];exact d
 rw[qc c]at a⊢;simp at a;rw[a]
theorem fG.set(ok:fG mc da ds){b:f8}(c:da[n]?=dB (dB b)):fG mc da (ds.set n (dB d')):=by
 refine⟨ok.l8,ok.la,by rw[zC];exact ok.ls,λi=>?_⟩;by_cases a:n=i
 ·subst a;have d:n<i0 ds:=by have:=(qk.1 c).1;rw[ok.la]at this;rw[ok.ls];exact this
  rw[qd,c,qd,zk d];rfl
 ·rw[qd (l:=ds.set n _),zF a,<-qd];exact ok.same i
theorem aaz{b:f8}(c:da[n]?=dB (dB b))(d:n<i0 ds):(dq k pw da ds).set n (gG k.tD (k.f pw) b d')=dq k pw da (ds.set n (dB d')):=by
 apply zq;intro j;have e:n<i0 da:=(qk.1 c).1;simp only[dq,qU,zH,yN];by_cases a:n=j
 ·subst a;rw[g9 i4,g9 i5,g9 i4,g9 d,c];rfl
 ·simp[a]
def MI(k:Kit)(a pw:f8)(c:aT)(offs:Int)(b:List cj)(ds:aE)(n:Nat):HP:=
 (HP.all (ac a k.tS (bQ c pw offs b)::(dq k pw b ds).set n emp)).and (fG c b ds)
theorem aa.kC(H:aa B h0 h (aY k a pw mc offs da w ds::As))(e:ds[n]?=dB (dB d)):∃b,da[n]?=dB (dB b)/\aa B h0 h (gG k.tD (k.f pw) b d::bV k.tP pw w::MI k a pw mc offs da ds n::As):=by
 obtain⟨ok,i⟩:=H.oz;obtain⟨b,c⟩:=ok.addr e;refine⟨b,c,?_⟩;have l:(dq k pw da ds)[n]?=dB (gG k.tD (k.f pw) b d):=by simp only[dq,zH,c,e];rfl
 have j:=i.SJ n l;have g:aa B h0 h (gG k.tD (k.f pw) b d::bV k.tP pw w::((ac a k.tS (bQ mc pw offs da)::(dq k pw da ds).set n emp)++As)):=j;exact(((aa.closeAll _ g.agO).tooX ok).aO 3 [1,2,0]:aa B h0 h (gG k.tD (k.f pw) b d::bV k.tP pw w::MI k a pw mc offs da ds n::As))
theorem aa.uw{b:f8}(j:da[n]?=dB (dB b))(H:aa B h0 h (gG k.tD (k.f pw) b d'::bV k.tP pw w'::MI k a pw mc offs da ds n::As)):aa B h0 h (aY k a pw mc offs da w' (ds.set n (dB d'))::As):=by
 have l:aa B h0 h (MI k a pw mc offs da ds n::bV k.tP pw w'::gG k.tD (k.f pw) b d'::As):=H.aO 3 [2,1,0];obtain⟨l,ok⟩:=l.oX;have o:=l.lp;have r:n<i0 ds:=by have:=(qk.1 j).1;rw[ok.la]at this;rw[ok.ls];exact this
 have t:=Cl (k:=k) (pw:=pw) ok;have g:n<i0 (dq k pw da ds):=by rw[t,<-ok.ls];exact r
 obtain⟨L,p⟩:∃L,L=dq k pw da ds:=⟨_,rfl⟩
 rw[<-p]at o g;have s:aa B h0 h (gG k.tD (k.f pw) b d'::bV k.tP pw w'::ac a k.tS (bQ mc pw offs da)::(L.set n emp++As)):=by
  refine o.pick (λi=>if i=0 then 1+i0 L+1 else if i=1 then 1+i0 L else if i=2 then 0 else if i<3+i0 L then i-2 else i) (λx y c=>by(try dsimp only at c);split at c<;>split at c<;>(try split at c)<;>(try split at c)<;>(try split at c)<;>(try split at c)<;>(try split at c)<;>(try split at c)<;>omega) λi A e=>?_
  try dsimp only
  have d:i0 (ac a k.tS (bQ mc pw offs da)::L.set n emp)=1+i0 L:=i9
  match i,e with
  |0,e=>rw[g9 i4,qh i5,d,show 1+i0 L+1-(1+i0 L)=1 by omega];exact e
  |1,e=>rw[hU i5,g9 i4,qh i5,d,qW];exact e
  |2,e=>rw[hU i5,hU i5,g9 rfl];exact e
  |i+3,e=>
   rw[hU i5,hU i5,hU i5];rw[qp,qp,qp]at e;by_cases m:i<i0 L
   ·rw[g9 i5,show i+3-2=i+1 by omega,qm (by rw[d];omega),qp];rw[qm m0]at e;exact e
   ·rw[hU i5,qh (by rw[d];omega),d,show i+3-(1+i0 L)=(i-i0 L)+2 by omega,qp,qp];rw[qh i9,zC]at e;exact e
 have q:=aa.FF n g s;rw[p,aaz j r]at q;exact q.oJ (ok.set j)
end
def jm:iK (Int×Sl) (Int×aL):=⟨λh q a b=>a.1=b.1/\Seq h q a.2 1 az b.2,λa d=>⟨a.1,a.2.ae d⟩,λa c=>⟨a.1,a.2.mono c⟩⟩
def piv(x:Int×Sl):aT:=[xF xL x.1,x.2]
theorem Kk:∀x,∀c∈piv x,c.oneCell'=eX:=by intro x c a;simp[piv]at a;rcases a with rfl|rfl<;>rfl
def iG(a:List cj)(slot:Int):cj:=if 0<=slot/\slot<64 then(a[slot.toNat]?).join else eH
theorem oA{g:aT}{c:List cj}{ds:aE}(ok:fG g c ds)(slot:Int):
  (aV ds slot=eH/\iG c slot=eH)∨∃(n:Nat) (d:aZ) (b:f8),slot=n/\n<64/\ds[n]?=dB (dB d)/\aV ds slot=dB d/\c[n]?=dB (dB b)/\iG c slot=dB b:=by
 unfold aV iG;by_cases h:0<=slot/\slot<64
 ·rw[g9 h,g9 h];have f:slot.toNat<i0 ds:=by rw[ok.ls];omega
  cases hd:ds[slot.toNat]with
  |none=>
   have a:ds[slot.toNat]?=dB eH:=by rw[qc f,hd]
   exact .inl ⟨by rw[a];rfl,by rw[ok.Ba i5 a];rfl⟩
  |some d=>
   have a:ds[slot.toNat]?=dB (dB d):=by rw[qc f,hd]
   obtain⟨b,e⟩:=ok.addr a;exact .inr ⟨slot.toNat,d,b,i5,i5,a,by rw[a];rfl,e,o8⟩
 ·rw[hU h,hU h];exact .inl ⟨i4,i4⟩
theorem rZ{a:aT}{pw:f8}{offs:Int}{b:List cj}(h8:i0 a=8)(n:Nat):(bQ a pw offs b)[10+n]?=(b[n]?).map .pointer:=by unfold bQ;rw[qh i5,h8,show 10+n-8=n+1+1 by omega,qp,qp,qP]
theorem On{a:aT}{pw:f8}{offs:Int}{b:List cj}(h8:i0 a=8):(bQ a pw offs b)[8]?=dB (xH (dB pw)):=by unfold bQ;rw[qh i5,h8];rfl
theorem Uw{a:aT}{pw:f8}{offs:Int}{b:List cj}(h8:i0 a=8):(bQ a pw offs b)[9]?=dB (xF xL offs):=by unfold bQ;rw[qh i5,h8];rfl
abbrev ba:Qw.Kit:=⟨92,104,102,λpw=>gr pw⟩
theorem Oo{e:TypeId}(s:Sl)(l:aB)(h:g0)(c:Own h e s 1 ak l)(a:i0 l<2^40):an xP 144 #[s] h λv h'=>v=xG s.ptr (Lib.compact l).length s.cap/\Own h' e ⟨s.ptr,i0 (Lib.compact l),s.cap⟩ 1 ak (Lib.compact l)/\aP (λb=>¬s.on b) h h':=
 Ic Tryz.slices_Compact_int Tryz.slices_Compact_int_empty c a
section
variable {pw:f8}
theorem my(slot:Int)(ok:fG mc da ds)(d:bY h a 92 (bQ mc pw offs da)):an xP 13 #[xH (dB a),xF xL slot] h λv h'=>v=.pointer (iG da slot)/\h'=h:=by
 refine ts Tryz.func13 ?_ (.two .n (.two (.join [] [(4,15)] .n) .n));have c:¬(0<=slot/\slot<64)->Value.pointer eH=.pointer (iG da slot)/\h=h:=λe=>by unfold iG;rw[hU e];exact⟨i4,i4⟩
 refine aW (bo (λe=>j3) λ_=>ag (λe=>c i5) λf=>ag (λe=>c i5) λe2=>?_);have b:slot.toNat<i0 da:=rb
 refine⟨a,i4,⟨i5,i5⟩,da[slot.toNat],?_,?_,i4⟩
 ·rw[wN];refine d.uv 10 slot.toNat ?_;rw[rZ ok.l8,qc b];rfl
 ·unfold iG;rw[g9 i5,qc b];rfl
theorem aa.cK(H:aa B h0 h (aY ba a pw mc offs da w ds::As)):fG mc da ds/\bY h a 92 (bQ mc pw offs da):=by obtain⟨ok,b⟩:=Qw.aa.oz H;exact⟨ok,b.box 0 i4⟩
theorem Is(s:Sl)(l:aB)(x:Rd h s 1 ak l)(I:i0 l<=2^30)(H:aa B h0 h (aY ba a pw mc offs da w ds::As)):
  an xP 50 #[.func (.func 13) #[xH (dB a)] #[],s] h λv h'=>∃r:Sl,v=r/\Sp h h' [af 3 r 1 ak (aU ds l)]:=by
 refine ts Tryz.func50 ?_ (.two .n (.two .n (.two (.two .n (.inn (.loop [(5,cL),(11,aQ)] [(5,6),(7,9),(11,30)] .n))) .n))) (args:=[(.func (.func 13) #[xH (dB a)] #[]),s]);have F:=x.len;obtain⟨ok,u⟩:=aa.cK H;refine aq (λt:Sl×Nat=>(t.1,(t.2:Int))) (λt h'=>t.2<=i0 l/\Sp h h' [af 3 t.1 1 ak (aU ds (l.take t.2))]) (λt=>i0 l-t.2) (⟨eH,0,0⟩,0) i4 ⟨jj,by simpa[aU]using(Sp.refl h).nil 3 1 ak⟩ ?_;rintro⟨o,i⟩ J ⟨G,j⟩;dsimp only at*;refine ag (λe=>?_) (λe=>?_)
 ·have p:i<i0 l:=i5
  have c:aU ds (l.take (i+1))=aU ds (l.take i)++(if isLive ds l[i]then[l[i]]else[]):=by unfold aU;rw[aD _ _ p,zl,zo,vl]
  have E:i0 (aU ds (l.take i))<=i0 l:=by have:=qS (isLive ds) (l.take i);unfold aU;simp at this⊢;omega
  have next:∀{h':g0} {k:Sl},Sp h h' [af 3 k 1 ak (aU ds (l.take (i+1)))]->∃m:Sl×Nat,((⟨k.ptr,k.len,k.cap⟩:Sl),qe xL ((i:Int)+1))=(m.1,(m.2:Int))/\(m.2<=i0 l/\Sp h h' [af 3 m.1 1 ak (aU ds (l.take m.2))])/\l.length-m.2<i0 l-i:=λ{h' k} H'=>
   ⟨(k,i+1),j0,⟨i7,H'⟩,i7⟩
  refine(Seq.up x j.ae).bt i i4 p l[i] i4 (dT lb ?_);refine(my l[i] ok (u.ae j.ae u.lt)).mono ?_;rintro _ K ⟨rfl,rfl⟩;refine⟨_,i4,?_⟩;rcases oA ok l[i]with⟨c1,c2⟩|⟨n,d,b,c0,c1,c2,c3,c4,c5⟩
  ·rw[c2];have g:isLive ds l[i]=fz:=by unfold isLive;rw[c1]
   rw[g]at c;refine aR (λe=>j3) λ_=>next (by rw[c];simpa using j)
  ·rw[c5];have g:isLive ds l[i]=!d.lost:=by unfold isLive;rw[c3]
   refine aR (λ_=>?_) λe=>j3
   obtain⟨M,f,z⟩:=Qw.aa.kC (aa.up H j.ae) c2;rw[c4]at f;injection f with f
   injection f with f
   subst f;obtain⟨A,y,q,_,_⟩:=jX.box z;refine(rY A y q).mono ?_;rintro _ h3 ⟨rfl,rfl⟩;refine⟨_,i4,aR (λe=>?_) λe=>?_⟩
   ·rw[g,e]at c;refine j.push aj 0 i4 fN i4 i6 (λ_=>rfl) eS l[i] i4 i6 i5 λk L D=>next ?_
    rw[c];exact D
   ·rw[g,e]at c;exact next (by rw[c];simpa using j)
 ·rw[qg i5]at j;exact⟨o,i4,j⟩
theorem It(s:Sl)(l:aB)(W:St B h0 As λh=>Rd h s 1 ak l)(Z:i0 l<=2^30)(E:∀x∈l,0<=x/\x<64)(H:aa B h0 h (aY ba a pw mc offs da w ds::As)):
  an xP 95 #[.func (.func 13) #[xH (dB a)] #[],s] h λv h'=>v=xF xL (gM (dK l) w ds).1/\aa B h0 h' (aY ba a pw mc offs da (gM (dK l) w ds).2.1 (gM (dK l) w ds).2.2::As):=by
 refine ts Tryz.func95 ?_ (.two .n (.two .n (.two .n (.two (.two .n (.inn (.loop [(15,aQ)] [(4,5),(6,8),(15,27)] .n))) .n)))) (args:=[(.func (.func 13) #[xH (dB a)] #[]),s]);refine(jL s l h (W.at [_] H) i5).mono ?_;rintro _ R ⟨r,rfl,U⟩;have L:=H.cb U;refine⟨r,i4,(Ed r l R (L.own 0 i4) i5).mono ?_⟩;rintro _ S ⟨rfl,K,T⟩;have N:=L.nr 0 i4 T K;refine⟨(),i4,(Oo r (iH l) S K (by rw[Dy];omega)).mono ?_⟩;rintro _ h3 ⟨rfl,O,G⟩;have m:=N.step (D:=af 3 ⟨r.ptr,i0 (Lib.compact (iH l)),r.cap⟩ 1 ak (Lib.compact (iH l))) 0 i4 λq y F=>⟨G.mono λb _ j A=>j (y.2 b A),O,λb j=>⟨qZ (F b (y.2 b j)) G.1,.inl (y.2 b j)⟩⟩
 rw[TY l E]at m⊢;obtain⟨u,I⟩:∃u,u=dK l:=⟨_,rfl⟩
 rw[<-I]at m⊢;have m:aa B h0 h3 (af 3 ⟨r.ptr,i0 u,r.cap⟩ 1 ak u::aY ba a pw mc offs da w ds::As):=m;have P:i0 u<=64:=by have:=qS (λi=>decide (i∈l)) ((qx 64).map λi:Nat=>(i:Int));rw[I];unfold dK;simpa using this
 refine⟨⟨r.ptr,i0 u,r.cap⟩,i4,?_⟩;refine aq (λt:Nat×Pow×aE=>(t.1:Int)) (λt h'=>t.1<=i0 u/\gM u w ds=gM (u.drop t.1) t.2.1 t.2.2/\aa B h0 h' (af 3 ⟨r.ptr,i0 u,r.cap⟩ 1 ak u::aY ba a pw mc offs da t.2.1 t.2.2::As)) (λt=>i0 u-t.1) (0,w,ds) i4 ⟨jj,i4,m⟩ ?_;rintro⟨i,g,ds1⟩ h4 ⟨Y,c,p⟩;dsimp only at*;refine ag (λe=>?_) (λe=>?_)
 ·have o:i<i0 u:=i5
  obtain⟨ok,j⟩:=aa.cK p.rest;rw[qK o,sT]at c;refine(p.seq 0 i4 λ_=>rfl).bt i i4 o u[i] i4 (dT lb ?_);refine(my u[i] ok j).mono ?_;rintro _ M ⟨rfl,rfl⟩;refine⟨_,i4,?_⟩;rcases oA ok u[i]with⟨c1,c2⟩|⟨n,d,b,c0,c1,c2,c3,c4,c5⟩
  ·rw[c2];refine(Oj M).mono ?_;rintro _ Q ⟨rfl,rfl⟩;have z:gW g ds1 u[i]=(5,g,ds1):=by unfold gW;rw[c1]
   rw[z]at c;refine⟨5,i4,bx (λ_=>?_) λe=>absurd e i6⟩;have:gM u w ds=(5,g,ds1):=c;rw[this];exact⟨i4,p.rest⟩
  ·rw[c5];obtain⟨b',f,V⟩:=Qw.aa.kC (p.aO 2 [1,0]) c2;rw[c4]at f;injection f with f
   injection f with f
   subst f;refine(Xh V).mono ?_;rintro _ Q ⟨rfl,X⟩;have J:=Qw.aa.uw (k:=ba) (n:=n) c4 X;have z:gW g ds1 u[i]=((d.sync g).1,(d.sync g).2.1,ds1.set n (dB (d.sync g).2.2)):=by unfold gW;rw[c3];simp only[ck,c0,qj]
   rw[z]at c;refine⟨_,i4,bx (λe2=>?_) λe2=>?_⟩
   ·have:gM u w ds=((d.sync g).1,(d.sync g).2.1,ds1.set n (dB (d.sync g).2.2)):=by rw[c];exact hU e2
    rw[this];exact⟨i4,J.oV⟩
   ·refine⟨(i+1,(d.sync g).2.1,ds1.set n (dB (d.sync g).2.2)),j0,⟨i7,?_,J.aO 2 [1,0]⟩,i7⟩;rw[c];exact g9 e2
 ·rw[zc i5]at c;rw[c];exact⟨i4,p.rest⟩
end
theorem HP.Bb{h:g0}:∀{L:List HP} {q:aw} {i:Nat} {A:HP},(HP.all L).p h q->L[i]?=dB A->A.p h q
 |A::L,q,0,A',⟨q1,q2,_,b,_,d,_⟩,hi=>by simp at hi;subst hi;exact A.mono d b
 |A::L,q,i+1,A',⟨q1,q2,_,_,c,_,e⟩,hi=>A'.mono (HP.Bb e (by simpa using hi)) c
 |[],_,i,_,_,hi=>by simp at hi
variable {β:Type} {e e2:Nat} {ll:List (List α)}
section
variable {f:α->aT}
theorem aa.Oq(H:aa B h0 h (dH e s e2 k f ll::As))(j:∀x,i0 (f x)=k):∃rs,aa B h0 h (cM (cm k f) 1 bg s rs ll::As):=by
 obtain⟨rs,H⟩:=H.oW;obtain⟨H,c⟩:=H.oX;refine⟨rs,H.eJ 0 i4 λq g=>⟨?_,c,λi r l d a=>?_⟩⟩
 ·have:=HP.Bb (i:=0) g i4;exact this.1.seq (λ_=>rfl) this.2
 ·have b:i<i0 ll:=(qk.1 a).1;have m:=ie (e:=e2) (k:=k) (f:=f) c i b;have:=HP.Bb (i:=i+1) g m0;have n:rs[i]'(by omega)=r:=by rw[qc i5]at d;simpa using d
  have e2:ll[i]=l:=by rw[qc b]at a;simpa using a
  rw[n,e2]at this;exact this.1.seq j this.2
end
def bI(m:av)(cg:aB):List (Int×aL):=cg.flatMap λn=>(aM m).map λc=>(n,c)
theorem kR{m:av}{cg:aB}{x:Int×aL}(h:x∈bI m cg):x.1∈cg/\x.2.length=64:=by unfold bI at h;obtain⟨n,d,a⟩:=zE.1 h;obtain⟨c,b,rfl⟩:=qo.1 a;exact⟨d,sV b⟩
theorem jI(m:av)(a:cF m):i0 (aM m)<=3000:=by have:=GZ m a;unfold aM dE;simp;omega
abbrev Ot:bG C.toAQ 114 124 2 [xF xL 0,xG eH 0 0] 32:=⟨_,_,i4,i4,i4,i4,i4,i4⟩
section
variable {pw:f8}
theorem Ek(s:Sl)(r:List (Int×Sl))(P:List (Int×aL))(G:St B h0 As λh=>nQ jm 2 piv h s r P)(hl:i0 P<=2^30)(F:∀x∈P,(0<=x.1/\x.1<64)/\x.2.length<=2^20)(H:aa B h0 h (aY ba a pw mc offs da w ds::As)):
  an xP 61 #[.func (.func 13) #[xH (dB a)] #[],s] h λv h'=>v=xF xL (layAll P w ds).1/\aa B h0 h' (aY ba a pw mc offs da (layAll P w ds).2.1 (layAll P w ds).2.2::As):=by
 refine ts Tryz.func61 ?_ (.two .n (.two .n (.two (.two .n (.inn (.loop [(5,cL),(11,aQ)] [(4,6),(7,9),(11,31)] (.two .n (.two .n (.two (.inn (.two .n (.two (.join [] [(4,5),(8,9),(15,25)] (.two (.join [(8,aQ)] [(8,9),(15,22)] .n) .n)) .n))) .n)))))) .n))) [(5,(.l [0,1,2,4,5,3,6,7]))] (args:=[(.func (.func 13) #[xH (dB a)] #[]),s]);have Z:=(G.at [_] H).1.len;have Q:=(G.at [_] H).2.1;have R:=(H.nil 3 1 ak).be;refine aq (λt:Sl×Nat×Pow×aE=>(t.1,(t.2.1:Int))) (λt h'=>t.2.1<=i0 P/\lq P w ds=lq (P.drop t.2.1) t.2.2.1 t.2.2.2/\aa B h0 h' (af 3 t.1 1 ak ((P.take t.2.1).map qt)::aY ba a pw mc offs da t.2.2.1 t.2.2.2::As)) (λt=>i0 P-t.2.1) (⟨eH,0,0⟩,0,w,ds) i4 ⟨jj,i4,by simpa using R⟩ ?_;rintro⟨o,i,u,ds1⟩ h1 ⟨hi,f,I⟩;dsimp only at*;refine ag (λe=>?_) (λe=>?_)
 ·have q:i<i0 P:=i5
  rw[qK q,ue]at f;have F1:=G.at [_,_] I;have M:=F _ (qf q);refine F1.1.cU (g:=piv) i i4 i5 (r[i]'(by omega)) i4 ?_;refine I.alloc aj i4 λa4 V z=>?_;have z:=z.be;refine z.storeAll aj 0 i4 i4 (piv (r[i]'(by omega))) i4 i4 i4 i4 λh3 j=>?_;obtain⟨N,O⟩:=Fix.row (G.at [_,_,_] j) q;have j:aa B h0 h3 (ac a4 124 (piv (r[i]'(by omega)))::af 3 o 1 ak ((P.take i).map qt)::aY ba a pw mc offs da u ds1::As):=j;have j:=j.aO 3 [2,0,1];obtain⟨ok,X⟩:=aa.cK j;obtain⟨c,p⟩:∃c,c=fT u ds1 P[i].1 P[i].2:=⟨_,rfl⟩
  rw[<-p]at f;refine bL (λ_ h'=>c.1=0/\aa B h0 h' (aY ba a pw mc offs da c.2.1 c.2.2::ac a4 124 (piv (r[i]'(by omega)))::af 3 o 1 ak ((P.take i).map qt)::As)) ?_ ?_
  ·refine bL (λe h'=>e=c.1/\aa B h0 h' (aY ba a pw mc offs da c.2.1 c.2.2::ac a4 124 (piv (r[i]'(by omega)))::af 3 o 1 ak ((P.take i).map qt)::As)) ?_ ?_
   ·refine⟨P[i].1,by rw[<-N];exact(j.box 1 i4).cell0 i4,(r[i]'(by omega)).2,(j.box 1 i4).cell i4,dT lb ?_⟩;refine(my P[i].1 ok X).mono ?_;rintro _ L ⟨rfl,rfl⟩;refine⟨_,i4,⟨(j.box 1 i4).cell i4,trivial⟩,?_⟩;rcases oA ok P[i].1 with⟨c1,c2⟩|⟨n,d,b,c0,c1,c2,c3,c4,c5⟩
    ·rw[c2];refine(Kf (r[i]'(by omega)).2 P[i].2 L O).mono ?_;rintro _ S ⟨rfl,rfl⟩;have E:c=(if P[i].2.length≠64 then 1 else 5,u,ds1):=by rw[p];unfold fT;rw[c1]
     refine⟨_,i4,trivial,by rw[E],?_⟩;rw[E];exact j
    ·rw[c5];obtain⟨b',m,K⟩:=Qw.aa.kC j c2;rw[c4]at m;injection m with m
     injection m with m
     subst m;refine(FX (r[i]'(by omega)).2 P[i].2 K O M.2).mono ?_;rintro _ h6 ⟨rfl,H6⟩;have T:=Qw.aa.uw (k:=ba) (n:=n) c4 H6;have E:c=((d.append u P[i].2).1,(d.append u P[i].2).2.1,ds1.set n (dB (d.append u P[i].2).2.2)):=by rw[p];unfold fT;rw[c3];simp only[ck,c0,qj]
     refine⟨_,i4,trivial,by rw[E],?_⟩;rw[E];exact T
   ·rintro e4 L ⟨rfl,A⟩;refine bx (λe2=>?_) λe2=>⟨e2,A⟩
    rw[hU e2]at f;have:layAll P w ds=c:=by unfold layAll;rw[f];exact hU e2
    rw[this];exact⟨i4,A.oV.oV⟩
  ·rintro _ L ⟨e2,A⟩;rw[g9 e2]at f;refine⟨P[i].1,by rw[<-N];exact(A.box 1 i4).cell0 i4,?_⟩;refine A.push aj 2 i4 fN i4 i6 (λ_=>rfl) eS P[i].1 i4 i6 i9 λU S K=>?_;refine⟨(U,i+1,c.2.1,c.2.2),j0,⟨i7,f,?_⟩,i7⟩
   try dsimp only
   rw[aD _ _ q,qL];exact K.aO 3 [2,0]
 ·have J:i=i0 P:=i5
  subst J;rw[List.drop_length]at f;rw[qN]at I;have z:=(I.freeze 0 i4 λ_=>rfl).aO 2 [1,0];have D:layAll P w ds=gM (dK (P.map qt)) u ds1:=by unfold layAll;rw[f];rfl
  refine(It o (P.map qt) (St.eG 0 i4 λh' W=>W) i9 (λx Y=>?_) z).mono ?_
  ·obtain⟨y,hy,rfl⟩:=qo.1 Y;exact(F y hy).1
  ·rintro _ V ⟨rfl,j⟩;refine⟨_,i4,by rw[D],?_⟩;rw[D];exact j.oV
theorem FZ(x:bm)(m:av)(s:Sl)(cg:aB)(h:g0)(hx:dh h x m)(G:cF m)(S:Rd h s 1 ak cg)(ab:i0 cg<=2^10):
  an xP 62 #[dz x,s] h λv h'=>∃(r:Sl) (Y:List (Int×Sl)),v=r/\Sp h h' [cM jm 2 piv r Y (bI m cg)]:=by
 refine ts Tryz.func62 ?_ (.two .n (.two .n (.two .n (.two (.two .n (.inn (.loop [(6,cL),(15,aQ)] [(6,7),(8,9),(10,11),(15,33)] (.two .n (.two .n (.two (.inn (.two .n (.two .n (.inn (.loop [(6,cL),(21,aQ)] [(6,7),(10,11),(21,32)] .n))))) .n)))))) .n)))) (args:=[x,s]);refine(Sp.refl h).boxed λa1 V P=>?_;refine⟨x,(P.box 0 i4).aF _ i4,(lT x m V (hx.up P.ae) G).mono ?_⟩;rintro _ W ⟨r,rfl,R2⟩;have y:=P.cb R2;refine⟨r,i4,?_⟩;obtain⟨rs,y⟩:=y.Oq λ_=>rfl;have N:=jI m G;obtain⟨a,w⟩:∃a,a=aM m:=⟨_,rfl⟩
 rw[<-w]at y N;have Q:=y.fa 0 i4;have ah:=Q.1.len;have ad:=Q.2.1;have X:=S.len;obtain⟨T,H⟩:∃T:Int->List ((Int×Sl)×(Int×aL)),T=λn=>(rs.zip a).map λz=>((n,z.1),(n,z.2)):=⟨_,rfl⟩
 have d:∀n,i0 (T n)=i0 a:=λn=>by rw[H];simp;omega
 have L:∀n,(T n).map zh=a.map λc=>(n,c):=λn=>by
  have G:=List.map_snd_zip (l₁:=rs) (l₂:=a) i5
  conv=>rhs;rw[<-G]
  rw[H];simp[wL,Function.comp_def]
 have O:∀n j (J:j<i0 a),(T n)[j]'(by rw[d];exact J)=((n,rs[j]'(by omega)),(n,a[j])):=λn j J=>by subst H;simp
 have g:Sp h W [af 124 ⟨eH,0,0⟩ 2 piv (((cg.take 0).flatMap T).map qt),cM (cm 1 az) 1 bg r rs a]:=(y.nil 124 2 piv).bA [2,0];have D:∀i,i<=i0 cg->i0 ((cg.take i).flatMap T)<=i*3000:=λi=>by
  induction i with
  |zero=>simp
  |succ i ih=>
   intro R;rw[aD _ _ (show i<i0 cg by omega),qY,qw];have V:=ih i5;have W:i0 ([cg[i]].flatMap T)=i0 a:=by rw[za,zS,qE,d]
   omega
 refine aq (λt:Sl×Nat=>(t.1,(t.2:Int))) (λt h'=>t.2<=i0 cg/\Sp h h' [af 124 t.1 2 piv (((cg.take t.2).flatMap T).map qt),cM (cm 1 az) 1 bg r rs a]) (λt=>i0 cg-t.2) (⟨eH,0,0⟩,0) i4 ⟨jj,g⟩ ?_;rintro⟨o,i⟩ h3 ⟨R,g⟩;dsimp only at*;refine ag (λe=>?_) (λe=>?_)
 ·have A:i<i0 cg:=i5
  have ht:=D i R;have hb:i*3000<=2^10*3000:=zD _ i5;refine(Seq.up S g.ae).bt i i4 A cg[i] i4 ?_;refine aq (λt:Sl×Nat=>(t.1,(t.2:Int))) (λt h'=>t.2<=i0 a/\Sp h h' [af 124 t.1 2 piv (((cg.take i).flatMap T).map qt++((T cg[i]).take t.2).map qt),cM (cm 1 az) 1 bg r rs a]) (λt=>i0 a-t.2) (o,0) i4 ⟨jj,l4⟩ ?_;rintro⟨u,j⟩ h4 ⟨J,p⟩;dsimp only at*;refine ag (λe2=>?_) (λe2=>?_)
  ·have B:j<i0 a:=i5
   refine(p.fa 1 i4).1.mC j i4 i5 ?_;refine p.push aj 0 i4 Ot i4 i6 (λ_=>rfl) Kk (cg[i],rs[j]'(by omega)) i4 i6 (by simp only[qw,qq,qR,d];omega) λZ h5 H5=>?_;refine⟨(Z,j+1),j0,⟨i7,?_⟩,i7⟩
   try dsimp only
   rw[aD (T cg[i]) j (by rw[d];exact B),qL,O _ _ B,<-qn];exact H5
  ·have K:j=i0 a:=i5
   subst K;rw[qg (l:=T cg[i]) (by rw[d];exact ql _)]at p;refine⟨(u,i+1),j0,⟨i7,?_⟩,i7⟩
   try dsimp only
   rw[aD _ _ A,qY,qL,za,zS,qE];exact p
 ·have I:i=i0 cg:=i5
  subst I;rw[qN]at g;refine⟨o,(cg.flatMap T).map qt,i4,?_⟩;have p:=(g.freeze 0 i4 λ_=>rfl).jd;refine p.eJ 0 i4 λq ⟨q1,q2,_,b,c,z1,z2⟩=>?_;have E:(cg.flatMap T).map zh=bI m cg:=by unfold bI;rw[List.map_flatMap,<-w];congr 1;funext n;exact L n
  rw[<-E];refine⟨z2.mono c,jj,λj r' l' f F=>?_⟩;rw[qP]at f F;cases g3:(cg.flatMap T)[j]? with
  |none=>rw[g3]at f;cases f
  |some t=>
   rw[g3]at f F;simp at f F;subst f;subst F;obtain⟨n,_,U⟩:=zE.1 (zY g3);rw[H]at U;obtain⟨z,M,rfl⟩:=qo.1 U;obtain⟨k,hk,rfl⟩:=List.mem_iff_getElem.1 M;rw[yS];exact⟨i4,(z1.2.2 k _ _ (qc _) (qc _)).mono b⟩
end
section
variable {d:List bF}
theorem Ux{b d:List bF}{y:bF}(c:Sd cE (b++d))(f:∀z∈b,cE z y=eX)(g:∀z∈d,¬cE z y=eX):Sd cE (b++y::d):=
 Sd.app eu c.left (zK.2 ⟨λz a=>eu.AV (g z a),c.right⟩) λx e z a=>by
  rcases qX.1 a with rfl|a
  ·exact f x e
  ·exact c.wi x e z a
theorem Bc(X M Y:List bF)(a b:Int)(ha:a=(i0 X:Int))(hb:b=(i0 X+i0 M:Nat))(ab:i0 X+i0 M+i0 Y<=2^40)(H:aa B h0 h (cQ s (X++(M++Y))::As)):
  an xP 287 #[s,xF xL a,xF xL b,.func (.func 156) #[] #[]] h λv h'=>v=.tuple #[]/\∃M',Sd cE M'/\co cE M M'/\aa B h0 h' (cQ s (X++(M'++Y))::As):=by
 refine ts Tryz.func287 ?_ (.two .n (.inn (.loop [(8,aQ)] [(8,10),(12,53)] (.two .n (.two (.inn (.two .n (.inn (.loop [(9,aQ)] [(9,10),(18,53)] (.two (.join [] [(18,35)] .n) .n))))) .n))))) (args:=[s,(a:Int),(b:Int),(.func (.func 156) #[] #[])]);subst ha;subst hb;rw[ai ((i0 X:Int)+1)];refine aq (λt:Nat×List bF=>((i0 X+1+t.1:Nat):Int)) (λt h'=>(t.1+1<=i0 M∨t.1=0)/\Sd cE t.2/\co cE (M.take (t.1+1)) t.2/\t.2.length=i0 (M.take (t.1+1))/\aa B h0 h' (cQ s (X++(t.2++(M.drop (t.1+1)++Y)))::As)) (λt=>i0 M-t.1) (0,M.take 1) i4 ?_ ?_
 ·refine⟨.inr i4,?_,co.refl _,i4,?_⟩
  ·cases M with
   |nil=>exact List.Pairwise.nil
   |cons x M=>exact zK.2 ⟨λ_ h=>mn,jj⟩
  ·rw[<-qn (M.take (0+1)),qC];exact H
 rintro⟨t,P⟩ h1 ⟨ht,A,E,V,U⟩;dsimp only at*;refine ag (λe=>?_) (λe=>?_)
 ·have J:t+1<i0 M:=i5
  obtain⟨y,hy⟩:∃y,y=M[t+1]:=⟨_,rfl⟩
  have K:i0 P=t+1:=by rw[V];simp;omega
  have eD:M.drop (t+1)=y::M.drop (t+1+1):=by rw[qK J,hy]
  rw[eD]at U;refine aq (λu:List bF×List bF=>((i0 X+i0 u.1:Nat):Int)) (λu h'=>u.1++u.2=P/\(∀z∈u.2,¬cE z y=eX)/\aa B h0 h' (cQ s (X++(u.1++(y::(u.2++(M.drop (t+1+1)++Y)))))::As)) (λu=>i0 u.1) (P,[]) (by dsimp only;rw[K];congr 1;omega) ⟨jj,jj,by simpa using U⟩ ?_;rintro⟨c,d⟩ h2 ⟨L,k,I⟩;dsimp only at*;have ad:i0 c+i0 d=t+1:=by rw[<-K,<-L,qw]
  have f:∀{h':g0},(∀z∈c,cE z y=eX)->aa B h0 h' (cQ s (X++(c++(y::(d++(M.drop (t+1+1)++Y)))))::As)->
    ∃l:Nat×List bF,qe xL (((i0 X+1+t:Nat):Int)+1)=((i0 X+1+l.1:Nat):Int)/\((l.1+1<=i0 M∨l.1=0)/\Sd cE l.2/\co cE (M.take (l.1+1)) l.2/\l.2.length=i0 (M.take (l.1+1))/\aa B h0 h' (cQ s (X++(l.2++(M.drop (l.1+1)++Y)))::As))/\M.length-l.1<i0 M-t:=λ{h'} hle H'=>by
   refine⟨(t+1,c++y::d),by dsimp only;rw[ai _];omega,⟨.inl i7,?_,?_,?_,?_⟩,i7⟩
   ·exact Ux oj hle k
   ·try dsimp only
    rw[aD M (t+1) J,<-hy];have h1:co cE (M.take (t+1)++[y]) (P++[y]):=E.app (co.refl _);refine h1.trans ?_;rw[<-L,qn];have h2:co cE (d++[y]) ([y]++d):=co.Su eu λx hx z O=>by rw[qu.1 O];exact k x hx
    exact(co.refl _).app h2
   ·(try dsimp only);simp;omega
   ·try dsimp only
    have:X++((c++y::d)++(M.drop (t+1+1)++Y))=X++(c++(y::(d++(M.drop (t+1+1)++Y)))):=jj
    rw[this];exact H'
  obtain⟨D,S⟩:∃D,D=X++(c++(y::(d++(M.drop (t+1+1)++Y)))):=⟨_,rfl⟩
  refine bL (λ_ h'=>∃(Q:List bF) (z:bF),c=Q++[z]/\¬cE z y=eX/\aa B h0 h' (cQ s D::As)) ?_ ?_
  ·rw[<-S]at I f;refine ag (λe2=>?_) (λe2=>⟨trivial,f (λz O=>?_) I⟩)
   ·have N:c≠[]:=λh=>by rw[h]at e2;simp at e2
    obtain⟨Q,z,p⟩:∃(Q:List bF) (z:bF),c=Q++[z]:=⟨c.dropLast,c.getLast N,(List.dropLast_concat_getLast N).symm⟩
    have Z:i0 c=i0 Q+1:=qs
    have g1:D[i0 X+i0 c]?=dB y:=by rw[S,qh i5,show X.length+i0 c-i0 X=i0 c by omega,qh i5,qW];rfl
    have g2:D[i0 X+i0 c-1]?=dB z:=by rw[S,qh i5,show X.length+i0 c-1-i0 X=i0 Q by omega,p,qn,qh (ql _),qW];rfl
    obtain⟨R,F⟩:=qk.1 g1;obtain⟨T,r⟩:=qk.1 g2;refine(I.seq 0 i4 λ_=>rfl).cU (g:=bS) _ i4 R y tp ?_;have ej:qe xL (((i0 X+i0 c:Nat):Int)-1)=((i0 X+i0 c-1:Nat):Int):=j6
    rw[ej];refine(I.seq 0 i4 λ_=>rfl).cU (g:=bS) _ i4 T z q6 (dT lb ?_);refine(py y z h2).mono ?_;rintro _ h3 ⟨rfl,R3⟩;have G:=I.up R3.ae;refine⟨_,i4,trivial,ag (λW=>⟨Q,z,p,(rc y z).1 W,G⟩) λW=>f (λw m=>?_) G⟩;have o:cE z y=eX:=by
     by_cases hc:cE z y=eX
     ·exact hc
     ·exact absurd ((rc y z).2 hc) W
    rw[p]at m;rcases qz.1 m with m|m
    ·refine eu.trans _ _ _ ?_ o;have:Sd cE (Q++[z]):=by rw[<-p];exact Sd.left (v:=d) oj
     exact this.wi w m z jj
    ·rw[qu.1 m];exact o
   ·have:c=[]:=by
     cases c with
     |nil=>rfl
     |cons x P=>exfalso;simp only[ze]at e2;omega
    rw[this]at O;cases O
  ·rintro _ h3 ⟨Q,z,p,o,G⟩;have Z:i0 c=i0 Q+1:=qs
   have q:D=(X++Q)++z::([]++y::(d++(M.drop (t+1+1)++Y))):=by rw[S,p];simp
   obtain⟨q1,q2,q3,q4⟩:=Kj (X++Q) [] (d++(M.drop (t+1+1)++Y)) z y (i:=i0 X+i0 c-1) (j:=i0 X+i0 c) i9 i9;rw[<-q]at q1 q2 q3 q4;obtain⟨T,r⟩:=qk.1 q1;obtain⟨R,F⟩:=qk.1 q2;have ej:qe xL (((i0 X+i0 c:Nat):Int)-1)=((i0 X+i0 c-1:Nat):Int):=j6
   rw[ej];refine(G.seq 0 i4 λ_=>rfl).cU (g:=bS) _ i4 T z q6 ?_;refine(G.seq 0 i4 λ_=>rfl).cU (g:=bS) _ i4 R y tp ?_;refine G.set aj 0 i4 (λ_=>rfl) i4 (i0 X+i0 c) i4 R z i4 i4 i4 λh4 H4=>⟨trivial,?_⟩
   refine H4.set aj 0 i4 (λ_=>rfl) i4 (i0 X+i0 c-1) i4 (by simpa using T) y i4 i4 i4 λh5 H5=>⟨trivial,?_⟩
   refine⟨(Q,z::d),l6,⟨by dsimp only;rw[<-L,p];simp,?_,?_⟩,i7⟩
   ·try dsimp only
    intro w m;rcases qX.1 m with rfl|m
    ·exact o
    ·exact k w m
   ·try dsimp only
    have:X++(Q++(y::(z::d++(M.drop (t+1+1)++Y))))=(X++Q)++y::([]++z::(d++(M.drop (t+1+1)++Y))):=jj
    rw[this,<-q4];exact H5
 ·refine⟨i4,P,A,?_,?_⟩
  ·rw[qg i5]at E;exact E
  ·rw[zc i5]at U;simpa using U
end
theorem FG(x y:Nat)(h:x+y<=2^62:=by omega):qe xL (zN (qe xO (qe xL ((x:Int)+(y:Int)))) (2^min (1:Int).toNat (qH xO)))=(((x+y)/2:Nat):Int):=by
 rw[ai ((x:Int)+y)];have e:qe xO ((x:Int)+(y:Int))=(x:Int)+y:=by unfold qe;simp[qH,va];omega
 rw[e,show min (1:Int).toNat (qH xO)=1 from i4,Int.fdiv_eq_ediv_of_nonneg _ i6,ai _];omega
section
variable {d:List bF}
theorem AC{x y:bF}(h:¬lU x y<0):cE y x=eX:=by
 by_cases a:cE y x=eX
 ·exact a
 ·exact absurd ((rc x y).2 a) h
theorem ko{K:bF->Prop}(H:aa B h0 h (cQ s d::As)){i:Int}(n:Nat)(c:i=n){x:bF}(b:d[n]?=dB x)(j:K x):
  ∃a:f8,(s.ptr=dB a/\0<=i/\i<((s.len:Nat):Int))/\∃x:bF,bn h (a.add (i.toNat*8)) 0 (bS x)/\K x:=by
 obtain⟨e,f⟩:=qk.1 b;exact(H.seq 0 i4 λ_=>rfl).cU (g:=bS) n c e x (by rw[f]) j
theorem Kl(x:bF)(X R Y:List bF)(ab:i0 X+1+i0 R+i0 Y<=2^40)(F:Sd cE R)(H:aa B h0 h (cQ s (X++(x::(R++Y)))::As)){K:Aw}
  (d:∀h',(∃M,Sd cE M/\co cE (x::R) M/\aa B h0 h' (cQ s (X++(M++Y))::As))->K (.tuple #[]) h') (a m b:Int) (ha:a=(i0 X:Int)) (hm:m=(i0 X+1:Nat)) (hb:b=(i0 X+1+i0 R:Nat)):
  gK (σ:=Int×Int) (λc K1 g=>
   Br (decide (c.1<c.2))
   ((0<=(1:Int))/\
   ∃a2:f8,(s.ptr=dB a2/\0<=(qe xL (zN (qe xO (qe xL (c.1+c.2))) (2^min (1:Int).toNat (qH xO))))/\(qe xL (zN (qe xO (qe xL (c.1+c.2))) (2^min (1:Int).toNat (qH xO))))<((s.len:Nat):Int))/\
   ∃x3:bF,bn g (a2.add ((qe xL (zN (qe xO (qe xL (c.1+c.2))) (2^min (1:Int).toNat (qH xO)))).toNat*8)) 0 (bS x3)/\
   ∃a4:f8,(s.ptr=dB a4/\0<=a/\a<((s.len:Nat):Int))/\
   ∃x5:bF,bn g (a4.add (a.toNat*8)) 0 (bS x5)/\
   tV C 156 ((#[]:Array Value).toList++[recv x3,recv x5]++(#[]:Array Value).toList) (.one (.sc (.int .i64))) g λr6 n=>
   (bR.ok [] n)/\
   Br (decide (r6<(0:Int)))
   (K1 (qe xL ((qe xL (zN (qe xO (qe xL (c.1+c.2))) (2^min (1:Int).toNat (qH xO))))+(1:Int)),c.2) n)
   (K1 (c.1,qe xL (zN (qe xO (qe xL (c.1+c.2))) (2^min (1:Int).toNat (qH xO)))) n))
   (gK (σ:=Int) (λf K2 h3=>
   Br (decide (f<(qe xL (c.1-(1:Int)))))
   (∃a8:f8,(s.ptr=dB a8/\0<=(qe xL (f+(1:Int)))/\(qe xL (f+(1:Int)))<((s.len:Nat):Int))/\
   ∃x9:bF,bn h3 (a8.add ((qe xL (f+(1:Int))).toNat*8)) 0 (bS x9)/\
   ∃G:f8,(s.ptr=dB G/\0<=f/\f<((s.len:Nat):Int))/\
   ∃D:bF,bn h3 (G.add (f.toNat*8)) 0 (bS D)/\
   ∃E:f8,(s.ptr=dB E/\0<=f/\f<((s.len:Nat):Int))/\
   au xP (qG 167 (xH (dB (E.add (f.toNat*8)))) (recv x9)) h3 λ_ V=>
   (bR.ok [] V)/\
   ∃y:f8,(s.ptr=dB y/\0<=(qe xL (f+(1:Int)))/\(qe xL (f+(1:Int)))<((s.len:Nat):Int))/\
   au xP (qG 167 (xH (dB (y.add ((qe xL (f+(1:Int))).toNat*8)))) (recv D)) V λ_ W=>
   (bR.ok [] W)/\
   K2 (qe xL (f+(1:Int))) W)
   (K (.tuple #[]) h3)) a g)) (m,b) h:=by
 subst ha;subst hm;subst hb;refine aq (λt:Nat×Nat=>(((i0 X+1+t.1:Nat):Int),((i0 X+1+t.2:Nat):Int))) (λt h'=>t.1<=t.2/\t.2<=i0 R/\(∀k (d:k<i0 R),k<t.1->¬cE x R[k]=eX)/\(∀k (d:k<i0 R),t.2<=k->cE x R[k]=eX)/\aa B h0 h' (cQ s (X++(x::(R++Y)))::As)) (λt=>t.2-t.1) (0,i0 R) i4 ⟨jj,jj,λ_ _ h=>mn,λ_ g n=>absurd g (by simpa using n),H⟩ ?_;rintro⟨i,j⟩ g ⟨ah,hj,p,L,O⟩;dsimp only at*;refine ag (λe=>?_) (λe=>?_)
 ·have o:i<j:=i5
  rw[FG _ _];have eh:((i0 X+1+i)+(i0 X+1+j))/2=i0 X+1+(i+j)/2:=i5
  rw[eh];have d:(i+j)/2<i0 R:=i5
  refine⟨i6,ko O _ i4 (x:=R[(i+j)/2]) ?_ (ko O X.length i4 (x:=x) ?_ (dT lb ?_))⟩
  ·rw[qh i5,show X.length+1+(i+j)/2-i0 X=(i+j)/2+1 by omega,qp,qm d,qc d]
  ·rw[qh (ql _),qW];rfl
  refine(py R[(i+j)/2] x g).mono ?_;rintro _ n ⟨rfl,R2⟩;have H2:=O.up R2.ae;refine⟨_,i4,trivial,ag (λe2=>?_) λe2=>?_⟩
  ·have Z:=(rc _ _).1 e2;refine⟨((i+j)/2+1,j),j0,⟨i7,hj,λk I S=>?_,L,H2⟩,i7⟩;intro hc;exact Z (eu.trans _ _ _ hc (F.at_ eu (i:=k) (j:=(i+j)/2) (by dsimp only at S;omega) d))
  ·refine⟨(i,(i+j)/2),i4,⟨i7,i7,p,λk I Q=>?_,H2⟩,i7⟩;exact eu.trans _ _ _ (AC e2) (F.at_ eu (by dsimp only at Q;omega) I)
 ·have o:i=j:=i5
  subst o;have hM:Sd cE (R.take i++x::R.drop i):=by
   refine Sd.app eu (Sd.left (v:=R.drop i) qb) (zK.2 ⟨λz A=>?_,Sd.right (u:=R.take i) qb⟩) λz A w J=>?_
   ·obtain⟨k,d,rfl⟩:=qB A;rw[wz];exact L _ _ i5
   ·obtain⟨k,d,rfl⟩:=qB A;rw[yk];have U:k<i:=lc
    have g:=eu.AV (p k lc U);rcases qX.1 J with rfl|J
    ·exact g
    ·obtain⟨l,hl,rfl⟩:=qB J;rw[wz];exact F.at_ eu i5 (by simp at hl;omega)
  have hE:co cE (x::R) (R.take i++x::R.drop i):=by
   have g:co cE ([x]++R.take i) (R.take i++[x]):=co.Su eu λz A w J=>by
    rw[qu.1 A];obtain⟨k,d,rfl⟩:=qB J;rw[yk];exact p k lc lc
   have n:=g.app (co.refl (le:=cE) (R.drop i));have e1:([x]++R.take i)++R.drop i=x::R:=by rw[qn,qC];rfl
   have e2:(R.take i++[x])++R.drop i=R.take i++x::R.drop i:=jj
   rw[e1,e2]at n;exact n
  have el:qe xL (((i0 X+1+i:Nat):Int)-1)=((i0 X+i:Nat):Int):=j6
  rw[el];refine aq (λt:Nat=>((i0 X+t:Nat):Int)) (λt h'=>t<=i/\aa B h0 h' (cQ s (X++(R.take t++(x::(R.drop t++Y))))::As)) (λt=>i-t) 0 i4 ⟨i5,by simpa using O⟩ ?_;rintro t h3 ⟨ht,N⟩;refine ag (λe2=>?_) (λe2=>?_)
  ·have ad:t<i:=i5
   have r:t<i0 R:=i5
   have q:X++(R.take t++(x::(R.drop t++Y)))=(X++R.take t)++x::([]++R[t]::(R.drop (t+1)++Y)):=by rw[qK r];simp only[qn,zu,zV]
   obtain⟨T,P,q3,q4⟩:=Kj (X++R.take t) [] (R.drop (t+1)++Y) x R[t] (i:=i0 X+t) (j:=i0 X+t+1) i9 i9;rw[<-q]at T P q3 q4;have ek:qe xL (((i0 X+t:Nat):Int)+1)=((i0 X+t+1:Nat):Int):=j6
   rw[ek];refine ko N _ i4 P (ko N _ i4 T ?_);refine N.set aj 0 i4 (λ_=>rfl) i4 (i0 X+t) i4 (qk.1 T).1 R[t] i4 i4 i4 λV H4=>⟨trivial,?_⟩
   refine H4.set aj 0 i4 (λ_=>rfl) i4 (i0 X+t+1) i4 (by rw[zC];exact(qk.1 P).1) x i4 i4 i4 λW H5=>⟨trivial,?_⟩
   refine⟨t+1,i4,⟨i5,?_⟩,i5⟩;have e3:X++(R.take (t+1)++(x::(R.drop (t+1)++Y)))=(X++R.take t)++R[t]::([]++x::(R.drop (t+1)++Y)):=by rw[aD R t r];simp only[qn,zu,zV]
   rw[e3,<-q3];exact H5
  ·have:t=i:=i5
   subst this;refine d h3 ⟨R.take t++x::R.drop t,hM,hE,?_⟩;have:X++((R.take t++x::R.drop t)++Y)=X++(R.take t++(x::(R.drop t++Y))):=jj
   rw[this];exact N
theorem Iu(y:bF)(X L Y:List bF)(ao:i0 X+i0 L+1+i0 Y<=2^40)(F:Sd cE L)(H:aa B h0 h (cQ s (X++(L++(y::Y)))::As)){K:Aw}
  (d:∀h',(∃M,Sd cE M/\co cE (L++[y]) M/\aa B h0 h' (cQ s (X++(M++Y))::As))->K (.tuple #[]) h') (a m:Int) (ha:a=(i0 X:Int)) (hm:m=(i0 X+i0 L:Nat)):
  gK (σ:=Int×Int) (λb K3 V=>
   Br (decide (b.1<b.2))
   ((0<=(1:Int))/\
   ∃G:f8,(s.ptr=dB G/\0<=m/\m<((s.len:Nat):Int))/\
   ∃I:bF,bn V (G.add (m.toNat*8)) 0 (bS I)/\
   ∃p:f8,(s.ptr=dB p/\0<=(qe xL (zN (qe xO (qe xL (b.1+b.2))) (2^min (1:Int).toNat (qH xO))))/\(qe xL (zN (qe xO (qe xL (b.1+b.2))) (2^min (1:Int).toNat (qH xO))))<((s.len:Nat):Int))/\
   ∃N:bF,bn V (p.add ((qe xL (zN (qe xO (qe xL (b.1+b.2))) (2^min (1:Int).toNat (qH xO)))).toNat*8)) 0 (bS N)/\
   tV C 156 ((#[]:Array Value).toList++[recv I,recv N]++(#[]:Array Value).toList) (.one (.sc (.int .i64))) V λah h7=>
   (bR.ok [] h7)/\
   Br (!(decide (ah<(0:Int))))
   (K3 (qe xL ((qe xL (zN (qe xO (qe xL (b.1+b.2))) (2^min (1:Int).toNat (qH xO))))+(1:Int)),b.2) h7)
   (K3 (b.1,qe xL (zN (qe xO (qe xL (b.1+b.2))) (2^min (1:Int).toNat (qH xO)))) h7))
   (gK (σ:=Int) (λc K4 h8=>
   Br (decide (c>b.1))
   (∃O:f8,(s.ptr=dB O/\0<=(qe xL (c-(1:Int)))/\(qe xL (c-(1:Int)))<((s.len:Nat):Int))/\
   ∃E:bF,bn h8 (O.add ((qe xL (c-(1:Int))).toNat*8)) 0 (bS E)/\
   ∃D:f8,(s.ptr=dB D/\0<=c/\c<((s.len:Nat):Int))/\
   ∃R:bF,bn h8 (D.add (c.toNat*8)) 0 (bS R)/\
   ∃a25:f8,(s.ptr=dB a25/\0<=c/\c<((s.len:Nat):Int))/\
   au xP (qG 167 (xH (dB (a25.add (c.toNat*8)))) (recv E)) h8 λ_ h9=>
   (bR.ok [] h9)/\
   ∃J:f8,(s.ptr=dB J/\0<=(qe xL (c-(1:Int)))/\(qe xL (c-(1:Int)))<((s.len:Nat):Int))/\
   au xP (qG 167 (xH (dB (J.add ((qe xL (c-(1:Int))).toNat*8)))) (recv R)) h9 λ_ S=>
   (bR.ok [] S)/\
   K4 (qe xL (c-(1:Int))) S)
   (K (.tuple #[]) h8)) m V)) (a,m) h:=by
 subst ha;subst hm;refine aq (λt:Nat×Nat=>(((i0 X+t.1:Nat):Int),((i0 X+t.2:Nat):Int))) (λt h'=>t.1<=t.2/\t.2<=i0 L/\(∀k (d:k<i0 L),k<t.1->cE L[k] y=eX)/\(∀k (d:k<i0 L),t.2<=k->¬cE L[k] y=eX)/\aa B h0 h' (cQ s (X++(L++(y::Y)))::As)) (λt=>t.2-t.1) (0,i0 L) i4 ⟨jj,jj,λ_ _ h=>mn,λ_ n T=>absurd n (by simpa using T),H⟩ ?_;rintro⟨i,j⟩ n ⟨ar,hj,q,o,Z⟩;dsimp only at*;refine ag (λe=>?_) (λe=>?_)
 ·have f:i<j:=i5
  rw[FG _ _];have eh:((i0 X+i)+(i0 X+j))/2=i0 X+(i+j)/2:=i5
  rw[eh];have d:(i+j)/2<i0 L:=i5
  refine⟨i6,ko Z (i0 X+i0 L) i4 (x:=y) ?_ (ko Z _ i4 (x:=L[(i+j)/2]) ?_ (dT lb ?_))⟩
  ·rw[qh i5,show X.length+i0 L-i0 X=i0 L by omega,qh (ql _),qW];rfl
  ·rw[qh i5,show X.length+(i+j)/2-i0 X=(i+j)/2 by omega,qm d,qc d]
  refine(py y L[(i+j)/2] n).mono ?_;rintro _ T ⟨rfl,R2⟩;have H2:=Z.up R2.ae;refine⟨_,i4,trivial,?_⟩;by_cases e2:lU y L[(i+j)/2]<0
  ·have am:=(rc _ _).1 e2;refine aR (λr=>absurd r oa) λ_=>?_;refine⟨(i,(i+j)/2),i4,⟨i7,i7,q,λk P ab=>?_,H2⟩,i7⟩;intro hc;exact am (eu.trans _ _ _ (F.at_ eu (i:=(i+j)/2) (j:=k) (by dsimp only at ab;omega) P) hc)
  ·refine aR (λ_=>?_) λr=>absurd r oa;refine⟨((i+j)/2+1,j),j0,⟨i7,hj,λk P ad=>?_,o,H2⟩,i7⟩;exact eu.trans _ _ _ (F.at_ eu (by dsimp only at ad;omega) d) (AC e2)
 ·have f:i=j:=i5
  subst f;have hM:Sd cE (L.take i++y::L.drop i):=by
   refine Sd.app eu (Sd.left (v:=L.drop i) qb) (zK.2 ⟨λz A=>?_,Sd.right (u:=L.take i) qb⟩) λz A w Q=>?_
   ·obtain⟨k,d,rfl⟩:=qB A;rw[wz];exact eu.AV (o _ lc i5)
   ·obtain⟨k,d,rfl⟩:=qB A;rw[yk];have al:k<i:=lc
    have n:=q k lc al;rcases qX.1 Q with rfl|Q
    ·exact n
    ·obtain⟨l,hl,rfl⟩:=qB Q;rw[wz];exact F.at_ eu i5 (by simp at hl;omega)
  have hE:co cE (L++[y]) (L.take i++y::L.drop i):=by
   have n:co cE (L.drop i++[y]) ([y]++L.drop i):=co.Su eu λz A w Q=>by
    rw[qu.1 Q];obtain⟨k,d,rfl⟩:=qB A;rw[wz];exact o _ lc i5
   have T:=(co.refl (le:=cE) (L.take i)).app n;have e1:L.take i++(L.drop i++[y])=L++[y]:=by rw[<-qn,qC]
   rw[e1]at T;exact T
  refine aq (λt:Nat=>((i0 X+t:Nat):Int)) (λt h'=>i<=t/\t<=i0 L/\aa B h0 h' (cQ s (X++(L.take t++(y::(L.drop t++Y))))::As)) (λt=>t-i) L.length i4 ⟨i5,i5,by simpa using Z⟩ ?_;rintro t h3 ⟨ht,ap,W⟩;refine ag (λe2=>?_) (λe2=>?_)
  ·obtain⟨u,rfl⟩:∃u,t=u+1:=⟨t-1,i5⟩
   have U:u<i0 L:=i5
   have g:X++(L.take (u+1)++(y::(L.drop (u+1)++Y)))=(X++L.take u)++L[u]::([]++y::(L.drop (u+1)++Y)):=by rw[aD L u U];simp only[qn,zu,zV]
   obtain⟨q1,q2,q3,q4⟩:=Kj (X++L.take u) [] (L.drop (u+1)++Y) L[u] y (i:=i0 X+u) (j:=i0 X+(u+1)) i9 i9;rw[<-g]at q1 q2 q3 q4;have ek:qe xL (((i0 X+(u+1):Nat):Int)-1)=((i0 X+u:Nat):Int):=j6
   rw[ek];refine ko W _ i4 q1 (ko W _ i4 q2 ?_);refine W.set aj 0 i4 (λ_=>rfl) i4 (i0 X+(u+1)) i4 (qk.1 q2).1 L[u] i4 i4 i4 λh4 H4=>⟨trivial,?_⟩
   refine H4.set aj 0 i4 (λ_=>rfl) i4 (i0 X+u) i4 (by rw[zC];exact(qk.1 q1).1) y i4 i4 i4 λh5 H5=>⟨trivial,?_⟩
   refine⟨u,i4,⟨i5,i5,?_⟩,i5⟩;have r:X++(L.take u++(y::(L.drop u++Y)))=(X++L.take u)++y::([]++L[u]::(L.drop (u+1)++Y)):=by rw[qK U];simp only[qn,zu,zV]
   rw[r,<-q4];exact H5
  ·have:t=i:=i5
   subst this;refine d h3 ⟨L.take t++y::L.drop t,hM,hE,?_⟩;have:X++((L.take t++y::L.drop t)++Y)=X++(L.take t++(y::(L.drop t++Y))):=jj
   rw[this];exact W
end
theorem Xn{L R:List bF}(h:Sd cE L)(k:Sd cE R)(p q:Nat)(r:p<=i0 L)(s:q<=i0 R)
  (m:∀i j (a:i<i0 L) (c:j<i0 R),i+1=p->j=q->cE L[i] R[j]=eX)
  (o:∀i j (a:i<i0 L) (c:j<i0 R),i=p->j+1=q->¬cE L[i] R[j]=eX):
  (∀x∈L.take p,∀y∈R.drop q,cE x y=eX)/\(∀x∈L.drop p,∀y∈R.take q,¬cE x y=eX):=by
 constructor
 ·intro x f y g;obtain⟨i,a,rfl⟩:=qB f;obtain⟨j,c,rfl⟩:=qB g;rw[yk,wz];have b:i<p:=by simp at a;omega
  have d:q+j<i0 R:=by simp at c;omega
  have e:=h.at_ eu (i:=i) (j:=p-1) i5 i5;have n:=m (p-1) q i5 i5 i5 i4;have h3:=k.at_ eu (i:=q) (j:=q+j) i5 d;exact eu.trans _ _ _ e (eu.trans _ _ _ n h3)
 ·intro x f y g l;obtain⟨i,a,rfl⟩:=qB f;obtain⟨j,c,rfl⟩:=qB g;rw[yk,wz]at l;have d:j<q:=by simp at c;omega
  have b:p+i<i0 L:=by simp at a;omega
  have e:=h.at_ eu (i:=p) (j:=p+i) i5 b;have h3:=k.at_ eu (i:=j) (j:=q-1) i5 i5;exact o p (q-1) i5 i5 i4 i5 (eu.trans _ _ _ e (eu.trans _ _ _ l h3))
theorem CX:∀(N:Nat) {B:aw} {h0 h:g0} {As:List HP} {s:Sl} (X L R Y:List bF) (a m b:Int),0<i0 L->0<i0 R->i0 L+i0 R<=N->a=(i0 X:Int)->m=(i0 X+i0 L:Nat)->b=(i0 X+i0 L+i0 R:Nat)->i0 X+i0 L+i0 R+i0 Y<=2^40->Sd cE L->Sd cE R->
  aa B h0 h (cQ s (X++(L++(R++Y)))::As)->
  an xP 288 #[s,xF xL a,xF xL m,xF xL b,.func (.func 156) #[] #[]] h λv h'=>v=.tuple #[]/\∃M,Sd cE M/\co cE (L++R) M/\aa B h0 h' (cQ s (X++(M++Y))::As):=by
 intro N
 induction N with
 |zero=>intro B h0 h As s X L R Y a m b hL hR hN;omega
 |succ N ih=>
  intro B h0 h As s X L R Y a m b hL hR hN ha hm hb S U sR H;refine ts Tryz.func288 ?_ (.two (.two .n (.two (.two .n (.two .n (.two (.inn (.loop [(10,aQ),(11,aQ)] [(10,13),(31,54)] .n)) (.two (.two .n (.inn (.loop [(13,aQ)] [(13,14),(55,77)] .n))) .n)))) .n)) (.two (.two .n (.two (.two .n (.two .n (.two (.inn (.loop [(14,aQ),(15,aQ)] [(14,17),(83,107)] .n)) (.two (.two .n (.inn (.loop [(17,aQ)] [(17,18),(108,129)] .n))) .n)))) .n)) (.two .n (.two .n (.two .n (.two (.join [(20,aQ),(21,aQ)] [(20,22),(138,147)] .n) (.two .n (.two (.inn (.loop [(20,aQ),(21,aQ)] [(20,22),(23,24),(149,175)] .n)) (.two .n (.two (.join [] [(178,192)] .n) (.two (.join [] [(192,206)] .n) .n))))))))))) (args:=[s,(a:Int),(m:Int),(b:Int),(.func (.func 156) #[] #[])]);have e1:qe xL (m-a)=(i0 L:Int):=j6
  have e2:qe xL (b-m)=(i0 R:Int):=j6
  rw[e1,e2];refine cH (λc=>?_) λc=>cH (λc2=>?_) λc2=>?_
  ·obtain⟨x,hx⟩:∃x,L=[x]:=by
    match L,hL,c with
    |[x],_,_=>exact⟨x,i4⟩
    |x::y::L,_,c=>simp at c;omega
   subst hx;exact Kl (K:=λv h'=>v=.tuple #[]/\∃M,Sd cE M/\co cE ([x]++R) M/\aa B h0 h' (cQ s (X++(M++Y))::As)) x X R Y (by simp at S⊢;omega) sR H (λh' ⟨M,W,P,Q⟩=>⟨i4,M,W,P,Q⟩) a m b ha (by rw[hm];simp) (by rw[hb];simp)
  ·obtain⟨y,hy⟩:∃y,R=[y]:=by
    match R,hR,c2 with
    |[x],_,_=>exact⟨x,i4⟩
    |x::y::L,_,c=>simp at c;omega
   subst hy;exact Iu (K:=λv h'=>v=.tuple #[]/\∃M,Sd cE M/\co cE (L++[y]) M/\aa B h0 h' (cQ s (X++(M++Y))::As)) y X L Y (by simp at S⊢;omega) U H (λh' ⟨M,W,P,Q⟩=>⟨i4,M,W,P,Q⟩) a m ha hm
  ·refine⟨i6,?_⟩;subst ha;subst hm;subst hb;have c':i0 L≠1:=λF=>c i5;have bl:i0 R≠1:=λF=>c2 i5;rw[FG X.length (i0 X+i0 L+i0 R)];obtain⟨CO,V⟩:∃CO,CO=(i0 X+(i0 X+i0 L+i0 R))/2:=⟨_,rfl⟩
   rw[<-V];have en:qe xL ((CO:Int)+((i0 X+i0 L:Nat):Int))=((CO+(i0 X+i0 L):Nat):Int):=j6
   rw[en];obtain⟨n,hn⟩:∃n,n=CO+(i0 X+i0 L):=⟨_,rfl⟩
   rw[<-hn];have ep:qe xL ((n:Int)-1)=((n-1:Nat):Int):=j6
   rw[ep];obtain⟨D,hD⟩:∃D,D=X++(L++(R++Y)):=⟨_,rfl⟩
   have gL:∀i (f:i<i0 L),D[i0 X+i]?=dB L[i]:=λi f=>by
    rw[hD,qh i5,zn,qm f,qc f]
   have gR:∀i (f:i<i0 R),D[i0 X+i0 L+i]?=dB R[i]:=λi f=>by
    rw[hD,qh i5,show X.length+i0 L+i-i0 X=i0 L+i by omega,qh i5,zn,qm f,qc f]
   rw[<-hD]at H;refine bL (λ(g:Int×Int) h'=>h'=h/\∃o f:Nat,g=((o:Int),(f:Int))/\o<=f/\X.length<=o/\f<=i0 X+i0 L/\f<=CO/\n<=o+(i0 X+i0 L+i0 R)/\(o=i0 X∨n=o+(i0 X+i0 L+i0 R))/\(f=i0 X+i0 L∨f=CO)) ?_ ?_
   ·refine ag (λe=>⟨i4,n-(i0 X+i0 L+i0 R),CO,?_,i5,i5,i5,i5,i5,i5,i5⟩) λe=>⟨i4,i0 X,i0 X+i0 L,i4,i5,i5,i5,i5,i5,i5,i5⟩
    have:qe xL ((n:Int)-((i0 X+i0 L+i0 R:Nat):Int))=((n-(i0 X+i0 L+i0 R):Nat):Int):=j6
    rw[this]
   ·rintro⟨bd,bk⟩ _ ⟨rfl,o,f,a0,b1,b2,b3,b4,b5,b6,b7⟩;injection a0 with est1 est2
    subst est1;subst est2
    try dsimp only
    refine aq (λt:Nat×Nat=>((t.1:Int),(t.2:Int))) (λt h'=>o<=t.1/\t.1<=t.2/\t.2<=f/\
     (∀i j (l:i<i0 L) (T:j<i0 R),i0 X+i+1=t.1->i0 X+i+(i0 X+i0 L+j)=n-1->o<t.1->cE L[i] R[j]=eX)/\
     (∀i j (l:i<i0 L) (T:j<i0 R),i0 X+i=t.2->i0 X+i+(i0 X+i0 L+j)=n-1->t.2<f->¬cE L[i] R[j]=eX)/\
     aa B h0 h' (cQ s D::As)) (λt=>t.2-t.1) (o,f) i4 ⟨jj,by simpa using b1,jj,λ_ _ _ _ _ _ E=>absurd E jj,λ_ _ _ _ _ _ E=>absurd E jj,H⟩ ?_
    rintro⟨g,r⟩ h1 ⟨t1,t2,t3,F1,F2,H1⟩;dsimp only at*;refine ag (λe=>?_) (λe=>?_)
    ·have E:g<r:=i5
     rw[FG _ _];obtain⟨I,a1⟩:∃I,I=(g+r)/2:=⟨_,rfl⟩
     rw[<-a1];have bb:qe xL (((n-1:Nat):Int)-(I:Int))=((n-1-I:Nat):Int):=j6
     rw[bb];obtain⟨i,l⟩:∃i,I=i0 X+i:=⟨I-i0 X,i5⟩
     obtain⟨j,am⟩:∃j,n-1-I=i0 X+i0 L+j:=⟨n-1-I-(i0 X+i0 L),i5⟩
     have a2:i<i0 L:=i5
     have a3:j<i0 R:=i5
     rw[am,l];refine⟨i6,ko H1 _ i4 (gR j a3) (ko H1 _ i4 (gL i a2) (dT lb ?_))⟩;refine(py R[j] L[i] h1).mono ?_;rintro _ h2 ⟨rfl,R2⟩;have G:=H1.up R2.ae;refine⟨_,i4,trivial,?_⟩;by_cases e2:lU R[j] L[i]<0
     ·have a7:=(rc _ _).1 e2;refine aR (λe3=>absurd e3 oa) λ_=>?_;refine⟨(g,i0 X+i),i4,⟨t1,i7,i7,F1,λi2 j2 ao a4 w A _=>?_,G⟩,i7⟩;dsimp only at w;have:i2=i:=i5
      subst this;have:j2=j:=i5
      subst this;exact a7
     ·refine aR (λ_=>?_) λe3=>absurd e3 oa;refine⟨(i0 X+i+1,r),j0,⟨i7,i7,t3,λi2 j2 ao a4 w A _=>?_,F2,G⟩,i7⟩;dsimp only at w;have:i2=i:=i5
      subst this;have:j2=j:=i5
      subst this;exact AC e2
    ·have ar:g=r:=i5
     subst ar;have ay:qe xL ((n:Int)-(g:Int))=((n-g:Nat):Int):=j6
     rw[ay];obtain⟨p,hp⟩:∃p,g=i0 X+p:=⟨g-i0 X,i5⟩
     obtain⟨q,hq⟩:∃q,n-g=i0 X+i0 L+q:=⟨n-g-(i0 X+i0 L),i5⟩
     have a8:p<=i0 L:=i5
     have a5:q<=i0 R:=i5
     obtain⟨ap,ax⟩:=Xn U sR p q a8 a5 (λi j l T w A=>F1 i j l T i5 i5 (by
      by_cases al:o<g
      ·exact al
      ·exfalso;have:g=o:=i5
       omega)) (λi j l T w A=>F2 i j l T i5 i5 (by
      by_cases a9:g<f
      ·exact a9
      ·exfalso;have:g=f:=i5
       omega))
     have eL:L.take p++L.drop p=L:=qC _ _;have eR:R.take q++R.drop q=R:=qC _ _;have l1:i0 (L.take p)=p:=i9
     have l2:i0 (L.drop p)=i0 L-p:=jj
     have r1:i0 (R.take q)=q:=i9
     have r2:i0 (R.drop q)=i0 R-q:=jj
     have ab:Sd cE (L.take p):=Sd.left (v:=L.drop p) (by rw[eL];exact U);have ad:Sd cE (L.drop p):=Sd.right (u:=L.take p) (by rw[eL];exact U);have Z:Sd cE (R.take q):=Sd.left (v:=R.drop q) (by rw[eR];exact sR);have ah:Sd cE (R.drop q):=Sd.right (u:=R.take q) (by rw[eR];exact sR);rw[hq,hp];refine bL (λ_ h'=>aa B h0 h' (cQ s (X++(L.take p++(R.take q++(L.drop p++(R.drop q++Y)))))::As)) ?_ ?_
     ·have z:aa B h0 h1 (cQ s ((X++L.take p)++(L.drop p++(R.take q++(R.drop q++Y))))::As):=by
       have:(X++L.take p)++(L.drop p++(R.take q++(R.drop q++Y)))=D:=by
        rw[hD]
        conv=>rhs;rw[<-eL,<-eR]
        simp only[qn,zu,zV]
       rw[this];exact H1
      refine ag (λw=>ag (λA=>?_) λA=>?_) λw=>?_
      ·refine(QA (X++L.take p) (L.drop p) (R.take q) (R.drop q++Y) _ _ _ i5 i5 i9 i9 i9 i9 z).mono ?_;rintro _ h2 ⟨rfl,G⟩;refine⟨(),i4,?_⟩;rw[qn]at G;exact G
      ·have:R.take q=[]:=q9 i5;rw[this]at z⊢;simpa using z
      ·have:L.drop p=[]:=q9 i5;rw[this]at z⊢;simpa using z
     ·rintro _ h2 G;refine bL (λ_ h'=>∃k,Sd cE k/\co cE (L.take p++R.take q) k/\k.length=p+q/\aa B h0 h' (cQ s (X++(k++(L.drop p++(R.drop q++Y))))::As)) ?_ ?_
      ·have d:(L.take p=[]∨R.take q=[])->∃k,Sd cE k/\co cE (L.take p++R.take q) k/\k.length=p+q/\aa B h0 h2 (cQ s (X++(k++(L.drop p++(R.drop q++Y))))::As):=λJ=>by
        refine⟨L.take p++R.take q,?_,co.refl _,i9,by rw[qn];exact G⟩;rcases J with F|F
        ·rw[F];exact Z
        ·rw[F,qE];exact ab
       refine ag (λw=>ag (λA=>?_) λA=>d (.inr (q9 i5))) λw=>d (.inl (q9 i5));refine(ih X (L.take p) (R.take q) (L.drop p++(R.drop q++Y)) _ _ _ i5 i5 i5 i4 (by rw[l1]) (by rw[l1,r1];omega) i9 ab Z G).mono ?_;rintro _ h3 ⟨rfl,k,W,P,Q⟩;refine⟨(),i4,k,W,P,?_,Q⟩;have O:=tC eu P;rw[<-O];simp;omega
      ·rintro _ h3 ⟨k,m1,m2,m3,H3⟩;have fin:∀{h':g0} {M2:List bF},Sd cE M2->co cE (L.drop p++R.drop q) M2->aa B h0 h' (cQ s (X++(k++(M2++Y)))::As)->(Value.tuple #[]=.tuple #[]/\∃M,Sd cE M/\co cE (L++R) M/\aa B h0 h' (cQ s (X++(M++Y))::As)):=λ{h' M2} k1 k2 k3=>by
        obtain⟨f1,f2⟩:=WA eu (by rw[eL];exact U) (by rw[eR];exact sR) ap ax m2 m1 k2 k1;rw[eL,eR]at f2;exact⟨i4,k++M2,f1,f2,by rw[qn];exact k3⟩
       have d:(L.drop p=[]∨R.drop q=[])->(Value.tuple #[]=.tuple #[]/\∃M,Sd cE M/\co cE (L++R) M/\aa B h0 h3 (cQ s (X++(M++Y))::As)):=λJ=>by
        refine fin (M2:=L.drop p++R.drop q) ?_ (co.refl _) (by rw[qn];exact H3);rcases J with F|F
        ·rw[F];exact ah
        ·rw[F,qE];exact ad
       refine ag (λw=>ag (λA=>?_) λA=>d (.inr (q9 i5))) λw=>d (.inl (q9 i5));have a6:aa B h0 h3 (cQ s ((X++k)++(L.drop p++(R.drop q++Y)))::As):=by rw[qn];exact H3
       refine(ih (X++k) (L.drop p) (R.drop q) Y _ _ _ i5 i5 i5 i9 i9 i9 i9 ad ah a6).mono ?_;rintro _ h4 ⟨rfl,M2,k1,k2,k3⟩;refine⟨(),i4,fin k1 k2 (by rw[qn]at k3;exact k3)⟩
def Bs(k:Nat)(l:List bF):Prop:=∀q,Sd cE ((l.drop (q*k)).take k)
theorem Bs.nil(k:Nat):Bs k []:=λq=>by simp[Sd]
theorem Bs.first{k:Nat}{l:List bF}(h:Bs k l):Sd cE (l.take k):=by have:=h 0;simpa using this
theorem Bs.rest{k:Nat}{l:List bF}(h:Bs k l):Bs k (l.drop k):=λq=>by
 have:=h (q+1);rw[zI,show k+q*k=(q+1)*k by rw[zP,Nat.add_comm]];exact this
theorem Bs.snoc{k t:Nat}{l M:List bF}(h:Bs k l)(d:i0 l=t*k)(b:Sd cE M)(c:i0 M<=k:=by omega):Bs k (l++M):=λq=>by
 rcases Nat.lt_trichotomy q t with hq|hq|hq
 ·have a:(q+1)*k<=t*k:=zD _ hq;rw[zP]at a;rw[List.drop_append_of_le_length i5,yB l9];exact h q
 ·subst hq;rw[<-d,List.drop_left,qg c];exact b
 ·have a:(t+1)*k<=q*k:=zD _ hq;rw[zP]at a;rw[zc (by rw[qw];omega)];simp[Sd]
theorem Bs.whole{k:Nat}{l:List bF}(h:Bs k l)(a:i0 l<=k):Sd cE l:=by have:=h.first;rw[qg a]at this;exact this
section
variable {d:List bF}
theorem QB(d:List bF)(n:Int)(hn:n=i0 d)(hd:i0 d<=2^30)(H:aa B h0 h (cQ s d::As)):
  an xP 221 #[s,xF xL n,.func (.func 156) #[] #[]] h λv h'=>v=.tuple #[]/\aa B h0 h' (cQ s (d.mergeSort cE)::As):=by
 subst hn;refine ts Tryz.func221 ?_ (.two .n (.two .n (.two (.inn (.loop [(7,aQ),(8,aQ)] [(7,9),(11,23)] .n)) (.two .n (.inn (.loop [(6,aQ)] [(6,10),(28,63)] (.two .n (.inn (.two .n (.two (.inn (.loop [(7,aQ),(8,aQ)] [(7,9),(33,49)] .n)) .n)))))))))) (args:=[s,(i0 d:Int),(.func (.func 156) #[] #[])]);refine aq (λP:List bF=>((i0 P:Int),((i0 P+20:Nat):Int))) (λP h'=>i0 P<=i0 d/\(∃t,i0 P=t*20)/\Bs 20 P/\co cE (d.take P.length) P/\aa B h0 h' (cQ s (P++d.drop P.length)::As)) (λP=>i0 d-i0 P) [] i4 ⟨jj,⟨0,jj⟩,Bs.nil _,by simpa using co.refl _,l0⟩ ?_;rintro P h1 ⟨hP,⟨t,J⟩,T,X,R⟩
 try dsimp only
 refine ag (λe=>?_) (λe=>?_)
 ·have ab:i0 P+20<=i0 d:=i5
  have eY:(d.drop P.length).take 20++d.drop (i0 P+20)=d.drop P.length:=by rw[<-zI];exact qC _ _
  have W:i0 ((d.drop P.length).take 20)=20:=i9
  rw[<-eY]at R;refine(Bc P ((d.drop P.length).take 20) (d.drop (i0 P+20)) _ _ i4 (by rw[W]) i9 R).mono ?_;rintro _ h2 ⟨rfl,i,m,b,Z⟩;have w:i0 i=20:=by rw[<-tC eu b,W]
  have f:i0 (P++i)=i0 P+20:=by rw[qw,w]
  refine⟨(),i4,P++i,?_,⟨i5,⟨t+1,by rw[f,J,zP]⟩,T.snoc J m,?_,?_⟩,i5⟩
  ·rw[f,ai _];congr 1
  ·rw[f];have:d.take (i0 P+20)=d.take P.length++(d.drop P.length).take 20:=by rw[List.take_add]
   rw[this];exact X.app b
  ·rw[f,qn];exact Z
 ·have L:aa B h0 h1 (cQ s (P++(d.drop P.length++[]))::As):=by rw[qE];exact R
  refine(Bc P (d.drop P.length) [] _ _ i4 l9 i9 L).mono ?_;rintro _ h3 ⟨rfl,i,m,b,U⟩;have w:i0 i=i0 d-i0 P:=by rw[<-tC eu b,zb]
  have K:Bs 20 (P++i):=T.snoc J m;have c:co cE d (P++i):=by have:=X.app b;rw[qC]at this;exact this
  refine⟨(),i4,?_⟩;refine aq (λt:Nat×List bF=>(t.1:Int)) (λt h'=>0<t.1/\t.1<=2^32/\t.2.length=i0 d/\Bs t.1 t.2/\co cE d t.2/\aa B h0 h' (cQ s t.2::As)) (λt=>2^32-t.1) (20,P++i) i4 ⟨i7,i7,by dsimp only;rw[qw];omega,K,c,by rw[qE]at U;exact U⟩ ?_;rintro⟨k,l⟩ h4 ⟨Y,hk,hl,S,z,N⟩;dsimp only at*;refine ag (λe2=>?_) (λe2=>?_)
  ·have ah:k<i0 d:=i5
   have F:qe xL ((2:Int)*k)=((2*k:Nat):Int):=j6
   have I:qe xL ((k:Int)*2)=((2*k:Nat):Int):=j6
   rw[F];have next:∀{h':g0} (q:List bF),i0 q=i0 d->Bs (2*k) q->co cE l q->aa B h0 h' (cQ s q::As)->∃g:Nat×List bF,qe xL ((k:Int)*2)=(g.1:Int)/\(0<g.1/\g.1<=2^32/\g.2.length=i0 d/\Bs g.1 g.2/\co cE d g.2/\aa B h0 h' (cQ s g.2::As))/\2^32-g.1<2^32-k:=λ{h'} q q1 q2 q3 q4=>
    ⟨(2*k,q),I,⟨i7,i7,q1,q2,z.trans q3,q4⟩,i7⟩
   refine aq (λt:List bF×List bF=>((i0 t.1:Int),((i0 t.1+2*k:Nat):Int))) (λt h'=>(∃u,i0 t.1=u*(2*k))/\t.1.length+i0 t.2=i0 d/\Bs (2*k) t.1/\Bs k t.2/\co cE l (t.1++t.2)/\aa B h0 h' (cQ s (t.1++t.2)::As)) (λt=>i0 t.2) ([],l) (by dsimp only;rw[yo,Nat.zero_add];rfl) ⟨⟨0,jj⟩,by simpa using hl,Bs.nil _,S,by simpa using co.refl _,by simpa using N⟩ ?_;rintro⟨P,Q⟩ V ⟨⟨u,A⟩,ad,o,a,c,O⟩;dsimp only at*;have E:qe xL ((i0 P:Int)+k)=((i0 P+k:Nat):Int):=j6
   rw[E];have eQ:Q.take k++Q.drop k=Q:=qC _ _;refine ag (λe3=>?_) (λe3=>ag (λe4=>?_) λe4=>?_)
   ·have al:2*k<=i0 Q:=i5
    have r:Q.take k++((Q.drop k).take k++Q.drop (2*k))=Q:=by
     have:Q.drop (2*k)=(Q.drop k).drop k:=by rw[zI];congr 1;omega
     rw[this,qC,eQ]
    have l1:i0 (Q.take k)=k:=i9
    have l2:i0 ((Q.drop k).take k)=k:=i9
    have j:aa B h0 V (cQ s (P++(Q.take k++((Q.drop k).take k++Q.drop (2*k))))::As):=by rw[r];exact O
    refine(CX _ P (Q.take k) ((Q.drop k).take k) (Q.drop (2*k)) _ _ _ i5 i5 (ql _) i4 (by rw[l1]) (by rw[l1,l2];omega) i9 a.first a.rest.first j).mono ?_;rintro _ h6 ⟨rfl,M,m,b,D⟩;have x:i0 M=2*k:=by rw[<-tC eu b,qw,l1,l2];omega
    have p:i0 (P++M)=i0 P+2*k:=by rw[qw,x]
    refine⟨(),i4,(P++M,Q.drop (2*k)),?_,⟨⟨u+1,by dsimp only;rw[p,A];exact(zP u (2*k)).symm⟩,by dsimp only;rw[p,zb];omega,o.snoc A m,?_,?_,?_⟩,by dsimp only;rw[zb];omega⟩
    ·try dsimp only
     rw[p,ai _];congr 1
    ·try dsimp only
     have:Q.drop (2*k)=(Q.drop k).drop k:=by rw[zI];congr 1;omega
     rw[this];exact a.rest.rest
    ·try dsimp only
     refine c.trans ?_
     conv=>arg 2;rw[<-r]
     rw[qn];have:=(co.refl (le:=cE) P).app (b.app (co.refl (le:=cE) (Q.drop (2*k))));rw[qn]at this;exact this
    ·try dsimp only
     rw[qn];exact D
   ·have y:k<i0 Q:=i5
    have am:i0 Q<2*k:=i5
    have l1:i0 (Q.take k)=k:=i9
    have l2:i0 (Q.drop k)=i0 Q-k:=jj
    have G:Sd cE (Q.drop k):=by have:=a.rest.first;rw[qg i5]at this;exact this
    have j:aa B h0 V (cQ s (P++(Q.take k++(Q.drop k++[])))::As):=by rw[qE,eQ];exact O
    refine(CX _ P (Q.take k) (Q.drop k) [] _ _ _ i5 i5 (ql _) i4 (by rw[l1]) (by rw[l1,l2];omega) i9 a.first G j).mono ?_;rintro _ h6 ⟨rfl,M,m,b,D⟩;have x:i0 M=i0 Q:=by rw[<-tC eu b,eQ]
    rw[eQ]at b;rw[qE]at D;exact⟨(),i4,next (P++M) (by rw[qw];omega) (o.snoc A m) (c.trans ((co.refl _).app b)) D⟩
   ·have y:i0 Q<=k:=i5
    exact next (P++Q) (by rw[qw];omega) (o.snoc A (a.whole y)) c O
  ·have hs:Sd cE l:=S.whole i5;rw[ME eu hs z]at N;exact⟨i4,N⟩
theorem Iv(d:List bF)(b:i0 d<=2^30)(H:aa B h0 h (cQ s d::As)):
  an xP 155 #[s,.func (.func 156) #[] #[]] h λv h'=>v=.tuple #[]/\aa B h0 h' (cQ s (d.mergeSort cE)::As):=by
 refine ts Tryz.func155 ?_ (args:=[s,(.func (.func 156) #[] #[])]);refine(QB d _ (by rw[(H.own 0 i4).len]) b H).mono ?_;rintro _ c ⟨rfl,a⟩;exact⟨(),i4,i4,a⟩
def kh:bF:=(0,0,0,0,0,0,0,⟨eH,0,0⟩)
end
def kD(l:List bF)(k:Nat):Bool:=decide (k=0)||decide (lU (l.getD k kh) (l.getD (k-1) kh)≠0)
def kE(l:List bF)(k:Nat):List bF:=((qx k).filter (kD l)).map λi=>l.getD i kh
def Xo(l:List bF):List bF:=kE l l.length
theorem nB(l:List bF)(k:Nat):kE l (k+1)=kE l k++if kD l k then[l.getD k kh]else[]:=by unfold kE;rw[zB,zl,qL,zo,vl];split<;>rfl
section
variable {d:List bF}
theorem Iw(a b:bF)(h:g0):an xP 158 #[recv a,recv b] h λv h'=>v=xJ (decide (lU a b=0))/\Sp h h' []:=by refine ts Tryz.func158 ?_ (args:=[a,b]);refine(Sp.refl h).boxed λi j f=>f.boxed λe d c=>?_;have c:Sp h d [ac i 167 (bS a),ac e 167 (bS b)]:=c;refine⟨a,(c.box 0 i4).aF _ i4,b,(c.box 1 i4).aF _ i4,(py a b d).mono ?_⟩;rintro _ h3 ⟨rfl,g⟩;refine⟨_,i4,?_,.zip (aa.up c g.ae).ae⟩;congr 1
theorem Ha(l:List bF)(hd:i0 l<=2^30)(H:aa B h0 h (cQ s l::As)):
  an xP 157 #[s,.func (.func 158) #[] #[]] h λv h'=>∃r:Sl,v=r/\aa B h0 h' (cQ r (Xo l)::As):=by
 refine ts Tryz.func157 ?_ (.two .n (.two .n (.two (.two .n (.inn (.loop [(5,aQ)] [(4,8),(12,65)] (.two .n (.two (.inn (.two .n (.two (.two .n (.two (.two .n (.inn (.loop [(5,aQ),(7,aQ)] [(5,6),(7,8),(32,59)] .n))) .n)) .n))) .n))))) .n))) (args:=[s,(.func (.func 158) #[] #[])]);have al:=(H.own 0 i4).len;have E:=(H.own 0 i4).cap;have same:(∀j,j<i0 l->kD l j=eX)->Xo l=l:=λA=>by
  have:∀k,k<=i0 l->kE l k=l.take k:=λk=>by
   induction k with
   |zero=>simp[kE]
   |succ k ih=>
    intro L;rw[nB,ih i5,g9 (A k i5),aD l k,getD_lt (show k<i0 l by omega)]
  unfold Xo;rw[this _ (ql _),qN]
 refine ag (λe=>⟨s,i4,?_⟩) (λe=>?_)
 ·rw[same λj m=>by unfold kD;rw[hY (show j=0 by omega)];rfl];exact H
 refine aq (λi:Nat=>(i:Int)) (λi h'=>1<=i/\i<=i0 l/\(∀j,j<i->kD l j=eX)/\aa B h0 h' (cQ s l::As)) (λi=>i0 l-i) 1 i4 ⟨i5,i5,λj m=>by unfold kD;rw[hY (show j=0 by omega)];rfl,H⟩ ?_;rintro i h1 ⟨am,hi,A,J⟩;refine ag (λP=>?_) (λP=>?_)
 ·have w:i<i0 l:=by have e':(i:Int)<(s.len:Int):=P;omega
  have ei:qe xL ((i:Int)-1)=((i-1:Nat):Int):=j6
  rw[ei];refine ko J i i4 (x:=l.getD i kh) (by rw[getD_lt w,qc w]) (ko J (i-1) i4 (x:=l.getD (i-1) kh) (by rw[getD_lt (show i-1<i0 l by omega),qc]) (dT lb ?_));refine(Iw _ _ h1).mono ?_;rintro _ h2 ⟨rfl,R2⟩;have V:=J.up R2.ae;refine⟨_,i4,trivial,bo (λe2=>?_) λe2=>?_⟩
  ·have p:kD l i=fz:=by unfold kD;rw[hZ (show¬i=0 by omega)];simpa using e2
   have q:kE l i=l.take i:=by
    have:∀k,k<=i->kE l k=l.take k:=λk=>by
     induction k with
     |zero=>simp[kE]
     |succ k ih=>
      intro L;rw[nB,ih i5,g9 (A k i5),aD l k,getD_lt (show k<i0 l by omega)]
    exact this i (ql _)
   refine⟨⟨i5,i5⟩,?_⟩;rw[qj];refine aq (λt:Nat×List bF=>((i0 (kE l (i+t.1)):Int),(t.1:Int))) (λt h'=>1<=t.1/\i+t.1<=i0 l/\t.2.length=i0 l/\(kE l (i+t.1)).length+1<=i+t.1/\t.2.take (kE l (i+t.1)).length=kE l (i+t.1)/\(∀j,i+t.1-1<=j->t.2[j]?=l[j]?)/\aa B h0 h' (cQ s t.2::As)) (λt=>i0 l-t.1) (1,l) ?_ ⟨jj,i7,i4,?_,?_,λ_ _=>rfl,V⟩ ?_
   ·try dsimp only
    rw[nB,p,q];simp;omega
   ·try dsimp only
    rw[nB,p,q];simp;omega
   ·try dsimp only
    rw[nB,p,q];simp
   rintro⟨k,D⟩ h3 ⟨ab,ad,G,N,d,u,I⟩;dsimp only at*;obtain⟨c,O⟩:∃c,c=i0 (kE l (i+k)):=⟨_,rfl⟩
   rw[<-O]at N d⊢;have ah:=(I.own 0 i4).len;have z:=(I.seq 0 i4 λ_=>rfl).drop i E;refine ag (λe3=>?_) (λe3=>?_)
   ·have S:i+k<i0 l:=i5
    have ek:qe xL ((k:Int)-1)=((k-1:Nat):Int):=j6
    rw[ek];have W:∀j,k-1<=j->(m:i+j<i0 l)->(D.drop i)[j]?=dB (l.getD (i+j) kh):=λj m F=>by
     rw[List.getElem?_drop,u _ i5,getD_lt F,qc F]
    have gk:=W k i5 S;have K:=W (k-1) i5 i5;obtain⟨X,Y⟩:=qk.1 gk;obtain⟨q1,q2⟩:=qk.1 K;refine Seq.cU (f:=bS) (g:=bS) z k i4 X (l.getD (i+k) kh) (by rw[Y]) ?_;refine Seq.cU (f:=bS) (g:=bS) z (k-1) i4 q1 (l.getD (i+(k-1)) kh) (by rw[q2]) (dT lb ?_);refine(Iw _ _ h3).mono ?_;rintro _ h4 ⟨rfl,R4⟩;have U:=I.up R4.ae;have o:kD l (i+k)=!decide (lU (l.getD (i+k) kh) (l.getD (i+(k-1)) kh)=0):=by unfold kD;rw[hZ (show¬i+k=0 by omega),show i+k-1=i+(k-1)by omega];simp
    have b:=nB l (i+k);rw[o]at b;refine⟨_,i4,trivial,aR (λT=>?_) λT=>?_⟩
    ·rw[T]at b;have a:i0 (kE l (i+(k+1)))=c+1:=by rw[<-w5,b];simp[O]
     have y:=(U.seq 0 i4 λ_=>rfl).drop i E;refine Seq.cU (f:=bS) (g:=bS) y k i4 X (l.getD (i+k) kh) (by rw[Y]) ?_;refine U.set aj 0 i4 (λ_=>rfl) i4 c i4 i5 (l.getD (i+k) kh) i4 i4 i4 λh5 H5=>?_;refine⟨(k+1,D.set c (l.getD (i+k) kh)),?_,⟨i7,i7,by dsimp only;rw[zC];exact G,by dsimp only;rw[a];omega,?_,λj m=>?_,H5⟩,i7⟩
     ·try dsimp only
      rw[a,ai _,ai _];rfl
     ·try dsimp only
      rw[a,aD _ c (by rw[zC];omega),List.getElem_set_self,List.take_set_of_le (ql _),d,<-w5,b];simp
     ·dsimp only at m⊢;rw[zF i5];exact u j i5
    ·rw[T]at b;have a:i0 (kE l (i+(k+1)))=c:=by rw[<-w5,b];simp[O]
     refine⟨(k+1,D),?_,⟨i7,i7,G,by dsimp only;rw[a];omega,?_,λj m=>u j (by dsimp only at m;omega),U⟩,i7⟩
     ·try dsimp only
      rw[a,ai _];rfl
     ·try dsimp only
      rw[a,d,<-w5,b];simp
   ·have R:i+k=i0 l:=i5
    refine⟨⟨i5,i5⟩,?_⟩;rw[qj];refine I.oF aj 0 i4 afO (λ_=>rfl) i4 i6 c i5 λh6 Z=>⟨⟨i5,i5⟩,⟨s.ptr,c,s.cap⟩,i4,?_⟩
    rw[d,R]at Z;exact Z
  ·refine⟨i+1,j1,⟨i5,i5,λj m=>?_,V⟩,i5⟩;by_cases Q:j=i
   ·subst Q;unfold kD;rw[hY (show lU (l.getD j kh) (l.getD (j-1) kh)≠0 by simpa using e2)];simp
   ·exact A j i5
 ·have M:i=i0 l:=by have e':¬(i:Int)<(s.len:Int):=P;omega
  subst M;rw[same A];exact⟨s,i4,J⟩
end
def fieldsOf(d:Option TypeDesc):List (Bool×TypeId×Nat):=match d with|some (.struct fs)=>fs.toList.map (λf=>(f.name== "_",f.type,f.offset))|_=>[]
theorem Xp:fieldsOf (Tryz.prog.underlying 36)=[(fz,3,0),(fz,3,1),(fz,3,2)]:=j4
theorem aaA:Tryz.prog.stoodInHeld 36=fz:=j4
theorem aaB:Tryz.prog.eqGuardType Tryz.prog.depth 36=fz:=j4
theorem Ou{P:Program}{t:TypeId}{a b c:TypeId×Nat}(h:fieldsOf (P.underlying t)=[(fz,a.1,a.2),(fz,b.1,b.2),(fz,c.1,c.2)]):
  ∃f g e:Field,P.underlying t=dB (.struct #[f,g,e])/\(f.name≠ "_" /\f.type=a.1/\f.offset=a.2)/\(g.name≠ "_" /\g.type=b.1/\g.offset=b.2)/\(e.name≠ "_" /\e.type=c.1/\e.offset=c.2):=by
 cases hu:P.underlying t with
 |none=>rw[hu]at h;cases h
 |some d=>
  rw[hu]at h;cases d with
  |struct fs=>
   simp only[fieldsOf]at h;obtain⟨l⟩:=fs;have i:i0 l=3:=by simpa using congrArg vw h
   obtain⟨f,r,rfl⟩:=yG i;obtain⟨g,k,rfl⟩:=yG (by simpa using i:i0 r=1+1);obtain⟨e,j,rfl⟩:=yG (by simpa using i:i0 k=0+1);obtain rfl:j=[]:=by simpa using i
   simp at h;exact⟨f,g,e,i4,⟨h.1.1,h.1.2.1,h.1.2.2⟩,⟨h.2.1.1,h.2.1.2.1,h.2.1.2.2⟩,⟨h.2.2.1,h.2.2.2.1,h.2.2.2.2⟩⟩
  |_=>cases h
theorem jy{P:Program}{d:Nat}{t:TypeId}{k:IntKind}(h:∃c,P.underlying t=dB (.int c))(a b:Int):aH P (Op.equalIn (d+1) t (.int k a) (.int k b)) (a==b):=by obtain⟨c,h⟩:=h;unfold Op.equalIn;refine(aG h).bind ?_;simp only[if_true];exact .pure
theorem mz{P:Program}{t:TypeId}{k:IntKind}(h:P.underlying t=dB (.int k)){a:Array Value}{i:Nat}{v:Value}(b:a[i]?=dB v):aH P (part t a i) v:=by unfold part isAgg;refine aH.bind (v:=fz) ((aG h).bind .pure) ?_;simp only[zg,if_false,b];exact .pure
theorem agP(p q:Pm):aH xP (Op.equal 36 (xK #[xF xL p.1,xF xL p.2.1,xF xL p.2.2]) (xK #[xF xL q.1,xF xL q.2.1,xF xL q.2.2])) (decide (p=q)):=by
 obtain⟨f,g,u,z,⟨B,H,F⟩,⟨D,E,y⟩,⟨G,I,u3⟩⟩:=Ou (a:=(3,0)) (b:=(3,1)) (c:=(3,2)) Xp;have A:∃k,Tryz.prog.underlying 3=dB (.int k):=⟨.i64,j4⟩
 obtain⟨k,d⟩:=A;unfold Op.equal;rw[show Op.maxDepth=9998+1+1 from i4,Op.equalIn];refine(aG z).bind ?_;refine aH.bind (v:=xP) (λw=>rfl) ?_;simp only[aaA,zg,if_false,List.forIn_toArray,List.forIn_cons,List.forIn_nil,ne_eq,B,D,G,not_false_eq_true,if_true,H,F,E,y,I,u3];obtain⟨a,b,c⟩:=p;obtain⟨h,i,j⟩:=q
 try dsimp only
 have n:aH xP (part 3 #[Value.int xL a,Value.int xL b,Value.int xL c] 0) _:=mz d i4;have o:aH xP (part 3 #[Value.int xL h,Value.int xL i,Value.int xL j] 0) _:=mz d i4;have s:aH xP (part 3 #[Value.int xL a,Value.int xL b,Value.int xL c] 1) _:=mz d i4;have r:aH xP (part 3 #[Value.int xL h,Value.int xL i,Value.int xL j] 1) _:=mz d i4;have x:aH xP (part 3 #[Value.int xL a,Value.int xL b,Value.int xL c] 2) _:=mz d i4;have t:aH xP (part 3 #[Value.int xL h,Value.int xL i,Value.int xL j] 2) _:=mz d i4;by_cases l:a=h
 ·by_cases m:b=i
  ·by_cases h3:c=j
   ·have e:decide ((a,b,c)=(h,i,j))=eX:=by simp[l,m,h3]
    rw[e];refine aH.bind (v:=(eH,())) (aH.bind (v:=ForInStep.yield (eH,())) (n.bind (o.bind ((jy ⟨k,d⟩ a h).bind ?_))) (aH.bind (v:=ForInStep.yield (eH,())) (s.bind (r.bind ((jy ⟨k,d⟩ b i).bind ?_))) (aH.bind (v:=ForInStep.yield (eH,())) (x.bind (t.bind ((jy ⟨k,d⟩ c j).bind ?_))) .pure))) .pure
    ·simp only[l,beq_self_eq_true,yf,zg,if_false];exact .pure
    ·simp only[m,beq_self_eq_true,yf,zg,if_false];exact .pure
    ·simp only[h3,beq_self_eq_true,yf,zg,if_false];exact .pure
   ·have e:decide ((a,b,c)=(h,i,j))=fz:=by simp[h3]
    rw[e];refine aH.bind (v:=(dB fz,())) (aH.bind (v:=ForInStep.yield (eH,())) (n.bind (o.bind ((jy ⟨k,d⟩ a h).bind ?_))) (aH.bind (v:=ForInStep.yield (eH,())) (s.bind (r.bind ((jy ⟨k,d⟩ b i).bind ?_))) (aH.bind (v:=ForInStep.done (dB fz,())) (x.bind (t.bind ((jy ⟨k,d⟩ c j).bind ?_))) .pure))) .pure
    ·simp only[l,beq_self_eq_true,yf,zg,if_false];exact .pure
    ·simp only[m,beq_self_eq_true,yf,zg,if_false];exact .pure
    ·rw[show(c==j)=fz by simpa using h3];simp only[wZ,if_true];exact .pure
  ·have e:decide ((a,b,c)=(h,i,j))=fz:=by simp[m]
   rw[e];refine aH.bind (v:=(dB fz,())) (aH.bind (v:=ForInStep.yield (eH,())) (n.bind (o.bind ((jy ⟨k,d⟩ a h).bind ?_))) (aH.bind (v:=ForInStep.done (dB fz,())) (s.bind (r.bind ((jy ⟨k,d⟩ b i).bind ?_))) .pure)) .pure
   ·simp only[l,beq_self_eq_true,yf,zg,if_false];exact .pure
   ·rw[show(b==i)=fz by simpa using m];simp only[wZ,if_true];exact .pure
 ·have e:decide ((a,b,c)=(h,i,j))=fz:=by simp[l]
  rw[e];refine aH.bind (v:=(dB fz,())) (aH.bind (v:=ForInStep.done (dB fz,())) (n.bind (o.bind ((jy ⟨k,d⟩ a h).bind ?_))) .pure) .pure;rw[show(a==h)=fz by simpa using l];simp only[wZ,if_true];exact .pure
theorem Xq(x y:Operand)(p q:Pm):ku xP .neq 36 x y (xK #[xF xL p.1,xF xL p.2.1,xF xL p.2.2]) (xK #[xF xL q.1,xF xL q.2.1,xF xL q.2.2]) (xJ (!decide (p=q))):=by
 unfold ku eqGuard;refine aH.bind (v:=()) ?_ ?_
 ·simp only[yf,zg,if_false];refine aH.bind (v:=xP) (λw=>rfl) ?_;refine aH.bind (v:=xP) (λw=>rfl) ?_;simp only[aaB,wZ,if_true];exact .pure
 ·exact(agP p q).bind .pure
def Uy(P:cu->Bool)(l:List cu)(i:Int):Prop:=(i=-1/\l.any P=fz)∨∃n:Nat,∃h:n<i0 l,i=n/\P l[n]=eX/\(l.take n).any P=fz
theorem Ov{P:cu->Bool}{l:List cu}{i:Int}(h:Uy P l i):decide (i>=0)=l.any P:=by
 rcases h with⟨rfl,h⟩|⟨n,hn,rfl,h,_⟩
 ·rw[h];rfl
 ·rw[wg.2 ⟨_,qf hn,h⟩];exact hY i5
theorem Ga(f:FuncId)(pre post:Array Value)(P:Qw.cu->Bool)(l:Sl)(a:List Qw.cu)(h:g0)(p:C.fns[f]?=dB eX)(n:dQ pY h l a)(F:i0 a<=2^30)
  (q:∀(u:dN) (E:Qw.cu) (h':g0),Sp h h' []->dQ fp h' u E->E∈a->an xP f (pre.toList++[Value.agg #[xI u.1,xF xL u.2.1,xF xL u.2.2.1,u.2.2.2]]++post.toList).toArray h' λv e=>v=xJ (P E)/\Sp h' e []):
  an xP 125 #[l,.func (.func f) pre post] h λv h'=>(∃i:Int,v=xF xL i/\Uy P a i)/\Sp h h' []:=by
 refine ir l (f,pre,post) ?_;obtain⟨k,x,A,z⟩:=bC.kb n;have s:=bC.len n;refine aq (λi:Nat=>(i:Int)) (λi h'=>i<=i0 a/\(a.take i).any P=fz/\Sp h h' []) (λi=>i0 a-i) 0 i4 ⟨i5,jj,Sp.refl h⟩ ?_;rintro i o ⟨B,b,d⟩;refine ag (λj=>?_) (λj=>?_)
 ·have c:i<i0 a:=by have w:(i:Int)<(l.len:Int):=j;omega
  have t:dQ fp o (k[i]'(by omega)) a[i]:=fp.mono (fp.loc (z i i5 c) d.ae) λ_ r=>qZ r d.ae.1;refine(Seq.up x d.ae).cU (g:=bc) i i4 i5 (k[i]'(by omega)) i4 (dT p ?_);refine(q (k[i]'(by omega)) a[i] o d t (qf c)).mono ?_;rintro _ D ⟨rfl,y⟩;have m:=d.up y.ae;refine⟨_,i4,bo (λe2=>⟨⟨i,i4,.inr ⟨i,c,i4,e2,b⟩⟩,m⟩) λe2=>?_⟩;refine⟨i+1,j1,⟨i5,?_,m⟩,i5⟩;rw[aD _ _ c,y0,b,List.any_cons,List.any_nil,e2];rfl
 ·have w:¬(i:Int)<(l.len:Int):=j;rw[qg i5]at b;exact⟨⟨-1,i4,.inl ⟨i4,b⟩⟩,d⟩
theorem Km(f:FuncId)(pre post:Array Value)(P:Qw.cu->Bool)(l:Sl)(a:List Qw.cu)(h:g0)(c:C.fns[f]?=dB eX)(e:dQ pY h l a)(k:i0 a<=2^30)
  (g:∀(u:dN) (E:Qw.cu) (h':g0),Sp h h' []->dQ fp h' u E->E∈a->an xP f (pre.toList++[Value.agg #[xI u.1,xF xL u.2.1,xF xL u.2.2.1,u.2.2.2]]++post.toList).toArray h' λv b=>v=xJ (P E)/\Sp h' b []):
  an xP 150 #[l,.func (.func f) pre post] h λv h'=>v=xJ (a.any P)/\Sp h h' []:=by
 refine ts Tryz.func150 ?_ (args:=[l,(.func (.func f) pre post)]);refine(Ga f pre post P l a h c e k g).mono ?_;rintro _ m ⟨⟨i,rfl,d⟩,j⟩;exact⟨i,i4,by rw[Ov d],j⟩
theorem nC(o b t:Int)(h:g0):an xP 87 #[xF xL o,xF xL b,xF xL t] h λv h'=>v=xF xN (ci o b t)/\h'=h:=by
 refine ts Tryz.func87 ?_;refine⟨?_,i4⟩;have:qe xN ((qe xN ((qe xN ((128:Int)*(qe xN o)))+(qe xN ((16:Int)*(qe xN b)))))+(qe xN t))=ci o b t:=by unfold ci qe;simp[qH,va];omega
 rw[this]
theorem QC(x:bm)(m:av)(y:bF)(r:dm)(h:g0)(q:dh h x m)(hz:cF m)(N:dQ fq h y r):
  an xP 154 #[dz x,recv y] h λv h'=>v=xJ (eW m r)/\Sp h h' []:=by
 refine ts Tryz.func154 ?_ (.two .n (.two (.join [] [(4,15)] .n) .n)) (args:=[x,y]);refine(Sp.refl h).boxed λM h1 H1=>H1.boxed λd Q i=>?_;have i:Sp h Q [ac M 39 (aA x),ac d 167 (bS y)]:=i;obtain⟨⟨X,e2,e3,D,e5,e7,e8⟩,e6⟩:=id N;have t:x.2.2.1=m.p.1:=congrArg (·.1) q.p;have B:x.2.2.2.1=m.p.2.1:=congrArg (·.2.1) q.p;have F:x.2.2.2.2.1=m.p.2.2:=congrArg (·.2.2) q.p;have A:y.2.2.2.1=r.p.1:=congrArg (·.1) D;have H:y.2.2.2.2.1=r.p.2.1:=congrArg (·.2.1) D;have G:y.2.2.2.2.2.1=r.p.2.2:=congrArg (·.2.2) D;have ab:=hz.ob;refine aW ⟨y,(i.box 1 i4).aF _ i4,(FY y r Q (fq.mono (fq.loc N i.ae) λ_ hb=>qZ hb i.ae.1)).mono ?_⟩;rintro _ h3 ⟨rfl,Y⟩;have e:Sp h h3 [ac M 39 (aA x),ac d 167 (bS y)]:=i.up Y.ae;have L:=e.box 0 i4;have J:=e.box 1 i4;refine⟨_,i4,aR (λg=>⟨by unfold eW;rw[g];rfl,.zip e.ae⟩) λg=>?_⟩;obtain⟨_,g2,_⟩:=(kO r).1 g;refine⟨r.p,by rw[<-A,<-H,<-G];exact J.Aa 3 i4 i4 i4,m.p,by rw[<-t,<-B,<-F];exact L.Aa 2 i4 i4 i4,_,Xq _ _ r.p m.p,aR (λw=>⟨?_,.zip e.ae⟩) λw=>?_⟩
 ·unfold eW;rw[g,w];rfl
 obtain⟨P,O⟩:∃P:Qw.cu->Bool,P=λx=>decide (x.object=r.object)&&(decide (r.block<(x.tries.length:Int))&&decide (r.seed=ci r.object r.block (x.tries.getD r.block.toNat 0))):=⟨_,rfl⟩
 have z:eW m r=m.objs.any P:=by unfold eW;rw[g,w,O];rfl
 refine⟨x.2.2.2.2.2.2.2,L.cell i4,?_⟩;refine(Km 220 #[] #[xH (dB d)] P x.2.2.2.2.2.2.2 m.objs h3 lb (q.up e.ae).objs i5 λu E T Z he _=>?_).mono ?_
 ·obtain⟨⟨y1,y2,y3⟩,K⟩:=he;have W:=Seq.len K;have k:=J.ae Z.ae J.lt;refine ts Tryz.func220 ?_ (args:=[u,d]);refine(Sp.refl T).boxed λa5 a b=>?_;have b:Sp T a [ac a5 88 (bc u)]:=b;have S:=b.box 0 i4;have c:=k.ae b.ae k.lt;have s:f9 a (a5.add 1)=dB (xF xL E.object):=by rw[<-y2];exact S.cell i4
  have o:f9 a (a5.add 3)=dB (xG u.2.2.2.ptr u.2.2.2.len u.2.2.2.cap):=S.cell i4;have l:f9 a d=dB (xF xL r.object):=by rw[<-X];exact c.cell0 i4
  have j:f9 a (d.add 1)=dB (xF xL r.block):=by rw[<-e2];exact c.cell i4
  have R:f9 a (d.add 6)=dB (xF xN r.seed):=by rw[<-e5];exact c.cell i4
  rw[O];refine⟨E.object,s,r.object,l,cH (λI=>?_) λI=>⟨⟨l,s,trivial⟩,?_,.zip b.ae⟩⟩
  ·refine⟨u.2.2.2,o,r.block,j,ag (λV=>?_) λV=>⟨⟨j,o,l,s,trivial⟩,?_,.zip b.ae⟩⟩
   ·have U:r.block.toNat<E.tries.length:=i5
    refine⟨r.seed,R,r.object,l,r.block,j,u.2.2.2,o,r.block,j,?_⟩;refine Seq.bt (f:=ak) (Seq.up K b.ae) r.block.toNat i5 U (E.tries.getD r.block.toNat 0) (by rw[getD_lt U];rfl) ?_;refine(nC _ _ _ a).mono ?_;rintro _ _ ⟨rfl,rfl⟩;refine⟨_,i4,⟨j,o,R,j,o,l,s,trivial⟩,?_,.zip b.ae⟩
    try dsimp only
    rw[hY I,hY (show r.block<(E.tries.length:Int)by omega),zX,zX];congr 1
   ·try dsimp only
    rw[hZ (show¬r.block<(E.tries.length:Int)by omega)];simp
  ·try dsimp only
   rw[hZ I];rfl
 ·rintro _ a ⟨rfl,R5⟩;exact⟨_,i4,by rw[z],.zip (aa.up e R5.ae).ae⟩
def od(k:Nat)(f:α->aT):iK Sl (List α):=⟨λh q s l=>Seq h q s k f l/\s.len<=s.cap,λa c=>⟨a.1.ae c,a.2⟩,λa b=>⟨a.1.mono b,a.2⟩⟩
theorem aa.acP{B:aw}{m h:g0}{As:List HP}{e b k:Nat}{s:Sl}{f:α->aT}{a:List (List α)}(H:aa B m h (dH e s b k f a::As))(o:∀x,i0 (f x)=k):∃rs,aa B m h (cM (od k f) 1 bg s rs a::As):=by
 obtain⟨rs,H⟩:=H.oW;obtain⟨H,g⟩:=H.oX;refine⟨rs,H.eJ 0 i4 λq n=>⟨?_,g,λi r l j c=>?_⟩⟩
 ·have:=HP.Bb (i:=0) n i4;exact this.1.seq (λ_=>rfl) this.2
 ·have d:i<i0 a:=(qk.1 c).1;have p:=ie (e:=b) (k:=k) (f:=f) g i d;have:=HP.Bb (i:=i+1) n (by simpa using p);have t:rs[i]'(by omega)=r:=by rw[qc i5]at j;simpa using j
  have b:a[i]=l:=by rw[qc d]at c;simpa using c
  rw[t,b]at this;exact⟨this.1.seq o this.2,this.1.cap⟩
def rH(T:List (bF×dm)):HP:=⟨λh q=>∀t∈T,fq.p h q t.1 t.2,λa d t b=>fq.loc (a t b) d,λa c t b=>fq.mono (a t b) c⟩
def Keyed(T:List (bF×dm)):Prop:=∀t∈T,t.1.1=t.2.object/\t.1.2.1=t.2.block/\t.1.2.2.1=t.2.id
def Ll(a b:bF×dm):Bool:=mF a.2 b.2
theorem aaC{T:List (bF×dm)}(k:Keyed T):∀a∈T,∀b∈T,Ll a b=cE a.1 b.1:=λa c b d=>by
 obtain⟨i,e,a3⟩:=k a c;obtain⟨f,g,h⟩:=k b d;unfold Ll mF cE;rw[decide_eq_decide,AZ,i,e,a3,f,g,h]
theorem Uz{T:List (bF×dm)}(k:Keyed T):(T.mergeSort Ll).map qt=(T.map qt).mergeSort cE/\(T.mergeSort Ll).map zh=(T.map zh).mergeSort mF/\Keyed (T.mergeSort Ll):=
 ⟨yV (aaC k),yV λa _ b _=>rfl,λt c=>k t (wC.1 c)⟩
def Ix:bF×dm:=(kh,wn)
def Cm(T:List (bF×dm)):List (bF×dm):=((qx T.length).filter (nu (T.map zh))).map λi=>T.getD i Ix
theorem getD_map{α β:Type}(f:α->β)(l:List α)(i:Nat)(d:α):(l.map f).getD i (f d)=f (l.getD i d):=by rw[qd,qd,qP];cases l[i]?<;>rfl
theorem Xr{T:List (bF×dm)}(k:Keyed T):(Cm T).map qt=Xo (T.map qt)/\(Cm T).map zh=nK (T.map zh)/\∀t∈Cm T,t∈T:=by
 have p:∀i,i<i0 T->kD (T.map qt) i=nu (T.map zh) i:=λi a=>by
  unfold kD nu;have g:∀j,j<i0 T->(T.map qt).getD j kh=(T[j]?.getD Ix).1/\(T.map zh).getD j wn=(T[j]?.getD Ix).2:=λj m=>by
   rw[qd,qd,qP,qP,qc m];exact⟨i4,i4⟩
  by_cases h0:i=0
  ·rw[hY h0];rfl
  ·rw[hZ h0,vn,vn,(g i a).1,(g i a).2,(g (i-1) i5).1,(g (i-1) i5).2];rw[qc a,qc (show i-1<i0 T by omega)];obtain⟨l,q,a3⟩:=k _ (qf a);obtain⟨f,r,o⟩:=k _ (qf (show i-1<i0 T by omega));unfold mG;simp only[Option.getD_some];have c:=Xm T[i].1 (T[i-1]'(by omega)).1;rw[l,q,a3,f,r,o]at c;by_cases b:lU T[i].1 (T[i-1]'(by omega)).1=0
   ·rw[hZ λh=>h b,hY (c.1 b)];rfl
   ·rw[hY b,hZ λn=>b (c.2 n)];rfl
 have e:(qx T.length).filter (kD (T.map qt))=(qx T.length).filter (nu (T.map zh)):=List.filter_congr λi a=>p i (qA.1 a);refine⟨?_,?_,λt d=>?_⟩
 ·unfold Cm Xo kE;rw[qq,e,wL];congr 1;funext i;exact(getD_map qt T i Ix).symm
 ·unfold Cm nK;rw[qq,wL];congr 1;funext i;exact(getD_map zh T i Ix).symm
 ·unfold Cm at d;obtain⟨i,a,rfl⟩:=qo.1 d;have:=qA.1 (qF.1 a).1;rw[getD_lt this];exact qf this
theorem Md(a pw:f8)(d:aZ)(s b:Sl)(x:bm)(m:av)(h:g0)(I:bY h a 102 (gr pw d s b))(hl:eT h s 1 az d.l)(ok:gA d)(hx:dh h x m)(hz:cF m):
  an xP 105 #[xH (dB a),dz x] h λv h'=>∃(r:Sl) (T:List (bF×dm)),v=r/\T.map zh=ft m d.l/\Keyed T/\Sp h h' [cQ r (T.map qt),rH T]:=by
 refine ts Tryz.func105 ?_ (.two .n (.scope 0 [(6,cL),(7,aQ)] [(4,5),(6,10),(12,40)] [.n,.n,.n] [(.two .n (.two .n (.two (.join [(6,cL)] [(6,7),(8,10),(18,36)] .n) .n)))] [(1,[.n])])) (args:=[(dB a),x]);have ab:=ok.len;have P:=ok.room;refine(Sp.refl h).boxed λu h1 L=>?_;have L:Sp h h1 [ac u 39 (aA x)]:=L;refine(uu s b (I.ae L.ae I.lt) (hl.up L.ae) ok).mono ?_;rintro _ h2 ⟨E,rfl,R2⟩;have M:=L.cb R2;obtain⟨rs,M⟩:=aa.acP M λ_=>rfl;refine⟨E,i4,?_⟩;have F2:=M.fa 0 i4;have am:=F2.1.len;have al:=F2.2.1;have F:Sp h h2 [cQ ⟨eH,0,0⟩ [],rH [],cM (od 1 az) 1 bg E rs d.l,ac u 39 (aA x)]:=
  ((M.comp (.one (A:=rH []) (aP.refl _ _) λt f=>(by cases f))).nil 167 8 bS).bA [3,2,0,1]
 refine aq (λt:Sl×Nat×List (bF×dm)=>(t.1,(t.2.1:Int)-1)) (λt h'=>t.2.1<=i0 d.l/\t.2.2.length<=t.2.1/\Keyed t.2.2/\t.2.2.map zh=(d.l.take t.2.1).filterMap (gN m)/\Sp h h' [cQ t.1 (t.2.2.map qt),rH t.2.2,cM (od 1 az) 1 bg E rs d.l,ac u 39 (aA x)]) (λt=>i0 d.l-t.2.1) (⟨eH,0,0⟩,0,[]) i4 ⟨jj,jj,(λt f=>(by cases f)),jj,F⟩ ?_;rintro⟨o,i,T⟩ h3 ⟨hi,ah,N,k,F⟩;dsimp only at*;have ei:qe xL ((i:Int)-1+1)=(i:Int):=j6
 rw[ei];refine ag (λe=>?_) (λe=>?_)
 ·have R:i=i0 d.l:=i5
  subst R;rw[qN]at k;refine(Iv (T.map qt) m9 F).mono ?_;rintro _ h4 ⟨rfl,H4⟩;obtain⟨s1,s2,s3⟩:=Uz N;rw[<-s1]at H4;refine⟨(),i4,(Ha _ (by rw[qq,List.length_mergeSort];omega) H4).mono ?_⟩;rintro _ h5 ⟨r5,rfl,H5⟩;obtain⟨c1,c2,c3⟩:=Xr s3;rw[<-c1]at H5;refine⟨r5,i4,r5,Cm (T.mergeSort Ll),i4,?_,λt f=>s3 t (c3 t f),?_⟩
  ·have hr:ft m d.l=(Cm (T.mergeSort Ll)).map zh:=by unfold ft;rw[<-k,c2,s2]
   exact hr.symm
  ·exact(H5.eJ 1 i4 (D:=rH (Cm (T.mergeSort Ll))) λq z t f=>z t (wC.1 (c3 t f))).bA [0,1]
 ·have B:i<i0 d.l:=i5
  have g:=TZ m d.l i B;have next:∀{h':g0} {H:Sl} {T':List (bF×dm)},i0 T'<=i+1->Keyed T'->T'.map zh=(d.l.take (i+1)).filterMap (gN m)->Sp h h' [cQ H (T'.map qt),rH T',cM (od 1 az) 1 bg E rs d.l,ac u 39 (aA x)]->
    ∃j:Sl×Nat×List (bF×dm),((⟨H.ptr,H.len,H.cap⟩:Sl),(i:Int))=(j.1,(j.2.1:Int)-1)/\(j.2.1<=i0 d.l/\j.2.2.length<=j.2.1/\Keyed j.2.2/\j.2.2.map zh=(d.l.take j.2.1).filterMap (gN m)/\Sp h h' [cQ j.1 (j.2.2.map qt),rH j.2.2,cM (od 1 az) 1 bg E rs d.l,ac u 39 (aA x)])/\d.l.length-j.2.1<i0 d.l-i:=λ{h' H T'} q1 q2 q3 q4=>
   ⟨(H,i+1,T'),l6,⟨i7,q1,q2,q3,q4⟩,i7⟩
  refine aW ?_;refine(F.fa 2 i4).1.mC i i4 i5 ?_;obtain⟨w,U⟩:=Fix.row (F.fa 2 rfl) B;obtain⟨c,hc⟩:∃c,c=d.l[i]:=⟨_,rfl⟩
  rw[<-hc]at w g;have ao:i0 c=64:=by rw[hc];exact ok.cell _ (qf B)
  refine(Om (rs[i]'(by omega)) c h3 w i5 U).mono ?_;rintro _ h6 ⟨y,rfl,Q0,Q1⟩;refine⟨(y,(dO c).isSome),i4,?_⟩
  try dsimp only
  cases htr:dO c with
  |none=>
   have J:gN m c=eH:=by unfold gN;rw[htr]
   rw[J,Option.toList_none,qE]at g;have Z:=F.up (Q0 htr).ae;refine Z.alloc aj i4 λa9 h7 V=>?_;refine V.storeAll aj 4 i4 i4 (bS y) i4 i4 i4 i4 λh8 p=>bo (λe=>j3) λ_=>?_;exact next i5 N (by rw[k,g]) (p.bA [0,1,2,3])
  |some r=>
   have Z:=F.cb (Q1 r htr);refine Z.alloc aj i4 λa9 h7 V=>?_;refine V.storeAll aj 5 i4 i4 (bS y) i4 i4 i4 i4 λh8 p=>bo (λ_=>?_) λe=>j3
   have p:Sp h h8 [EA fq y r,cQ o (T.map qt),rH T,cM (od 1 az) 1 bg E rs d.l,ac u 39 (aA x),ac a9 167 (bS y)]:=p;have O:=p.eAt 0 i4;have Y:bn h8 u 0 (aA x):=(p.box 4 i4).aF _ i4;have W:bn h8 a9 0 (bS y):=(p.box 5 i4).aF _ i4;have Q:=QC x m y r h8 (hx.up p.ae) hz O;refine⟨x,Y,y,W,Q.mono ?_⟩;rintro _ h9 ⟨rfl,R9⟩;have S:Sp h h9 [EA fq y r,cQ o (T.map qt),rH T,cM (od 1 az) 1 bg E rs d.l,ac u 39 (aA x),ac a9 167 (bS y)]:=p.up R9.ae;refine⟨_,i4,bo (λe2=>?_) λe2=>?_⟩
   ·have J:gN m c=dB r:=by unfold gN;rw[htr];exact g9 e2
    rw[J,Option.toList_some]at g;refine⟨y,(S.box 5 i4).aF _ i4,?_⟩;refine S.push aj 1 i4 afO i4 i6 (λ_=>rfl) adM y j4 i6 m9 λH ad K=>?_;have G:=(K.eAt 0 i4).1;have X:=K.merge 2 0 i6 i4 i4 (D:=rH (T++[(y,r)])) (λq1 q2 _ p1 p2 t f=>by
     rcases qz.1 f with f|f
     ·exact fq.mono (p1 t f) λ_ I=>.inl I
     ·rw[qu.1 f];exact fq.mono p2 λ_ I=>.inr I)
    refine next (T':=T++[(y,r)]) i9 (λt f=>?_) (by rw[qL,k,g];rfl) ?_
    ·rcases qz.1 f with f|f
     ·exact N t f
     ·rw[qu.1 f];exact⟨G.1,G.2.1,G.2.2.1⟩
    ·rw[qL];exact X.bA [1,2,3,4]
   ·have J:gN m c=eH:=by unfold gN;rw[htr];exact hU (by rw[e2];simp)
    rw[J,Option.toList_none,qE]at g;exact next i5 N (by rw[k,g]) (S.bA [1,2,3,4])
theorem El(a pw:f8)(d:aZ)(s b:Sl)(x:bm)(m:av)(h:g0)(p:bY h a 102 (gr pw d s b))(o:eT h s 1 az d.l)(ok:gA d)(u:dh h x m)(w:cF m):
  an xP 105 #[xH (dB a),dz x] h λv h'=>∃(r:Sl) (y:List bF),v=r/\Sp h h' [cM fq 8 bS r y (ft m d.l)]:=by
 refine(Md a pw d s b x m h p o ok u w).mono ?_;rintro _ h' ⟨r,T,rfl,i,_,H⟩;refine⟨r,T.map qt,i4,?_⟩;have z:=(H.freeze 0 i4 λ_=>rfl).jd;have k:aa _ _ _ (cM fq 8 bS r (T.map qt) (ft m d.l)::_):=z.eJ 0 i4 λq ⟨E,A,_,b,c,g,n⟩=>by
  rw[<-i];refine⟨Seq.mono n c,jj,λj D B e f=>?_⟩;rw[qP]at e f;cases g3:T[j]? with
  |none=>rw[g3]at e;cases e
  |some t=>
   rw[g3]at e f;simp at e f;subst e;subst f;exact fq.mono (g t (zY g3)) b
 exact k.bA [0]
def bj(l:aB)(k:Nat):aB:=((qx k).map λi:Nat=>(i:Int)).filter λi=>decide (0<l.getD i.toNat 0)
def fx(l:aB):aB×Bool:=
 if l.all (fy · 0 512)then(bj l l.length,decide (i0 l<=64)&&decide (0<i0 (bj l l.length)))else([],fz)
theorem CY(l:aB)(k:Nat)(a:k<i0 l):bj l (k+1)=bj l k++if 0<l[k]then[(k:Int)]else[]:=by unfold bj;rw[zB,qL,zl];congr 1;simp only[List.map_cons,List.map_nil,zo,vl,qj,qd,qc a,Option.getD_some];by_cases h:0<l[k]<;>simp[h]
theorem pz(l:aB)(k:Nat):i0 (bj l k)<=k:=by unfold bj;exact qT (qS _ _) jj
theorem QD(s:Sl)(l:aB)(h:g0)(m:Rd h s 1 ak l)(E:i0 l<=2^20):
  an xP 57 #[s] h λv h'=>∃r:Sl,v=.tuple #[r,xJ (fx l).2]/\Sp h h' [af 3 r 1 ak (fx l).1]:=by
 refine ts Tryz.func57 ?_ (.two .n (.two .n (.two (.two .n (.inn (.loop [(4,cL),(9,aQ)] [(2,7),(9,27)] (.two .n (.two .n (.two (.inn (.two .n (.two (.join [] [(2,4),(14,20)] .n) .n))) .n)))))) .n)));have B:=m.len;have p:Sp h h [af 3 ⟨eH,0,0⟩ 1 ak (bj l 0)]:=(Sp.refl h).nil 3 1 ak;refine aq (λt:Sl×Nat=>(t.1,(t.2:Int))) (λt h'=>t.2<=i0 l/\(l.take t.2).all (fy · 0 512)=eX/\Sp h h' [af 3 t.1 1 ak (bj l t.2)]) (λt=>i0 l-t.2) (⟨eH,0,0⟩,0) i4 ⟨jj,jj,p⟩ ?_;rintro⟨o,i⟩ F ⟨D,c,f⟩;dsimp only at*;have d:∀(a:i<i0 l),fy l[i] 0 512=fz->fx l=([],fz):=λa g=>by
  unfold fx;rw[hU];intro u;have:=qJ.1 u _ (qf a);rw[g]at this;cases this
 refine ag (λe=>?_) (λe=>?_)
 ·have a:i<i0 l:=i5
  have w:=pz l i;refine(Seq.up m f.ae).bt i i4 a l[i] i4 ?_;refine aW (ag (λk=>?_) λk=>ag (λe2=>?_) λe2=>?_)
  ·have g:=d a o4;rw[g];exact⟨⟨eH,0,0⟩,i4,(f.bA []).nil 3 1 ak⟩
  ·have g:=d a o4;rw[g];exact⟨⟨eH,0,0⟩,i4,(f.bA []).nil 3 1 ak⟩
  ·have b:(l.take (i+1)).all (fy · 0 512)=eX:=by rw[aD l i a,yZ,c,zX,List.all_cons,List.all_nil,Bool.and_true];unfold fy;simp;omega
   refine ag (λz=>?_) (λz=>?_)
   ·refine f.push aj 0 i4 fN i4 i6 (λ_=>rfl) eS (i:Int) i4 i6 i5 λq G x=>?_;refine⟨(q,i+1),j0,⟨i7,b,?_⟩,i7⟩
    try dsimp only
    rw[CY l i a,g9 i5];exact x
   ·refine⟨(o,i+1),j0,⟨i7,b,?_⟩,i7⟩
    try dsimp only
    rw[CY l i a,hU i5,qE];exact f
 ·have j:i=i0 l:=i5
  subst j;rw[qN]at c;have A:=(f.own 0 i4).len;have y:fx l=(bj l l.length,decide (i0 l<=64)&&decide (0<i0 (bj l l.length))):=by unfold fx;rw[g9 c]
  rw[y];refine ag (λk=>⟨o,?_,f⟩) (λk=>⟨o,?_,f⟩)
  ·try dsimp only
   rw[hY (show l.length<=64 by omega),zX];congr 4;refine congrArg Value.bool ?_;rw[decide_eq_decide];omega
  ·try dsimp only
   rw[hZ (show¬i0 l<=64 by omega),Bool.false_and]
section
variable {pw:f8}
theorem gb(x:bm)(m:av)(c:dh h x m)(f:cF m)(H:aa B h0 h (aY ba a pw (aA x) offs da w ds::As)):
  an xP 12 #[xH (dB a)] h λv h'=>∃r:Sl,v=r/\Sp h h' [af 3 r 1 ak (aU ds m.drives)]:=by
 refine ts Tryz.func12 ?_;obtain⟨ok,b⟩:=aa.cK H;have d:=f.dr;refine bo (λe=>j3) λ_=>⟨a,i4,x.2.2.2.2.2.2.1,b.cell i4,(Is _ m.drives c.drives i5 H).mono ?_⟩;rintro _ i ⟨r,rfl,g⟩;exact⟨r,i4,r,i4,g⟩
theorem Kn(x:bm)(m:av)(j:dh h x m)(k:cF m)(H:aa B h0 h (aY ba a pw (aA x) offs da w ds::As)):
  an xP 11 #[xH (dB a)] h λv h'=>∃y:bm,v=dz y/\Sp h h' [bh y m]:=by
 refine ts Tryz.func11 ?_;obtain⟨ok,f⟩:=aa.cK H;refine(Sp.refl h).alloc aj i4 λn i c=>?_;have b:=f.ae c.ae f.lt;refine bo (λe=>j3) λ_=>⟨a,i4,x,b.aF _ i4,(Cj x m i (j.up c.ae) k).mono ?_⟩;rintro _ o ⟨y,rfl,l⟩;have g:=c.comp l;refine⟨y,i4,?_⟩;refine g.store aj 0 i4 i4 0 (aA y) i4 i4 i4 kt λh3 d=>?_;exact⟨y,(d.box 0 i4).aF _ i4,y,i4,d.bA [1]⟩
end
def fH(w:Pow)(offs:Int):Bool:=w.off||w.offs !=offs
section
variable {pw:f8}
theorem aa.adN(H:aa B h0 h (aY ba a pw mc offs da w ds::As)):∃l,Io w l/\bY h pw 104 (powC w l):=by obtain⟨ok,c⟩:=Qw.aa.oz H;have d:=c.rest;obtain⟨l,e,b⟩:=aa.tJ d;exact⟨l,e,b.box 0 i4⟩
theorem rh(H:aa B h0 h (aY ba a pw mc offs da w ds::As)):
  an xP 38 #[xH (dB a)] h λv h'=>v=xJ (fH w offs)/\h'=h:=by
 refine ts Tryz.func38 ?_ .n [(1,(.l [0,1,2,3,4,5,6,7,8,9,10,11,12,13,15,16,17,18,14,19,20,21,22]))];obtain⟨ok,d⟩:=aa.cK H;obtain⟨l,i,f⟩:=aa.adN H;have g:f9 h (a.add 8)=dB (xH (dB pw)):=d.cell (On ok.l8);have c:f9 h (a.add 9)=dB (xF xL offs):=d.cell (Uw ok.l8);refine bo (λ_=>?_) (λe=>j3);refine⟨a,i4,dB pw,g,(FD l f).mono ?_⟩;rintro _ _ ⟨rfl,rfl⟩;refine⟨_,i4,trivial,aR (λe=>⟨trivial,?_⟩) λe=>?_⟩
 ·have b:w.off=eX:=lz
  exact⟨by unfold fH;rw[b];rfl,i4⟩
 ·have b:w.off=fz:=lz
  refine⟨a,i4,dB pw,g,a,i4,offs,c,(Ea l f).mono ?_⟩;rintro _ _ ⟨rfl,rfl⟩;exact⟨_,i4,⟨c,trivial⟩,by unfold fH;rw[b];rfl,i4⟩
theorem CZ(H:aa B h0 h (aY ba a pw mc offs da w ds::As)):
  an xP 7 #[xH (dB a)] h λv h'=>v=xH (dB pw)/\h'=h:=by
 refine ts Tryz.func7 ?_;obtain⟨ok,b⟩:=aa.cK H;exact bo (λe=>j3) λ_=>⟨a,i4,dB pw,b.cell (On ok.l8),i4,i4⟩
end
section
variable {k:Kit} {pw:f8}
theorem aa.aaD(H:aa B h0 h As):∀n,aa B h0 h (qi n emp++As)
 |0=>H
 |n+1=>(((aa.aaD H n).comp (.one (A:=emp) (aP.refl _ _) trivial)).be:aa B h0 h (emp::(qi n emp++As)))
theorem aa.Xt(h8:i0 mc=8)(H:aa B h0 h (ac a k.tS (bQ mc pw offs (qi 64 eH))::bV k.tP pw w::As)):aa B h0 h (aY k a pw mc offs (qi 64 eH) w (qi 64 eH)::As):=by
 have ok:fG mc (qi 64 eH) (qi 64 (eH:Option aZ)):=⟨h8,jj,jj,λi=>by
  simp only[qd,zT];split<;>rfl⟩
 have f:dq k pw (qi 64 eH) (qi 64 (eH:Option aZ))=qi 64 emp:=by simp[dq,aay]
 refine aa.oJ ok ?_;rw[f];have g:=aa.aaD H 64;refine g.pick (λi=>if i=0 then 64 else if i=1 then 65 else if i<66 then i-2 else i) (λx y b=>by(try dsimp only at b);split at b<;>split at b<;>(try split at b)<;>(try split at b)<;>(try split at b)<;>(try split at b)<;>omega) λi A d=>?_;rcases i with _|_|i
 ·simpa using d
 ·simpa using d
 ·by_cases e:i<64
  ·have c:(qi 64 emp++As)[i]?=dB A:=d;rw[qm lz]at c
   try dsimp only
   rw[hU i5,hU i5,g9 i5,qm i9];simpa using c
  ·have c:(qi 64 emp++As)[i]?=dB A:=d;rw[qh i9]at c
   try dsimp only
   rw[hU i5,hU i5,hU i5,qh i9];simp only[List.length_replicate]at c⊢;obtain⟨j,rfl⟩:∃j,i=j+64:=⟨i-64,i5⟩
   have e2:j+64+1+1-64=j+1+1:=i5
   rw[e2];simpa using c
end
theorem Lm(x:bm)(pw:f8)(offs:Int):aH xP (Instr.build 92 #[(0,dz x),(1,xH (dB pw)),(2,xF xL offs)]) (xK (bQ (aA x) pw offs (qi 64 eH)).toArray):=
 Ds aj (i:=_) i4 i4 i4 (vs:=[(0,dz x),(1,xH (dB pw)),(2,xF xL offs)]) (cells:=(bQ (aA x) pw offs (qi 64 eH)).toArray) j4
section
variable {k:Kit} {pw b:f8}
theorem Ln(h8:i0 mc=8):(bQ mc pw offs da).set (10+n) (xH (dB b))=bQ mc pw offs (da.set n (dB b)):=by unfold bQ;rw[qV _ _ i5,h8,show 10+n-8=n+1+1 by omega,zw,zw,List.map_set]
theorem aa.adO(ok:fG mc da ds)(I:n<64)(u:ds[n]?=dB eH)(H:aa B h0 h (ac a k.tS (bQ mc pw offs (da.set n (dB b)))::bV k.tP pw w::(dq k pw da ds++(gG k.tD (k.f pw) b d::As)))):aa B h0 h (aY k a pw mc offs (da.set n (dB b)) w (ds.set n (dB d))::As):=by
 have q:=ok.Ba I u;have o:=ok.la;have s:=ok.ls;have p:fG mc (da.set n (dB b)) (ds.set n (dB d)):=⟨ok.l8,by simp[o],by simp[s],λi=>by
  by_cases c:n=i
  ·subst c;rw[qd,qd,zk i5,zk i5];rfl
  ·have:=ok.same i;rw[qd,qd]at this⊢;rw[zF c,zF c];exact this⟩
 have r:=Cl (k:=k) (pw:=pw) ok;have v:(dq k pw da ds)[n]?=dB emp:=by simp only[dq,zH,q,u];rfl
 have g:dq k pw (da.set n (dB b)) (ds.set n (dB d))=(dq k pw da ds).set n (gG k.tD (k.f pw) b d):=by
  apply zq;intro j;simp only[dq,qU,zH,yN];by_cases l:n=j
  ·subst l;rw[g9 i4,g9 i5,g9 i4,g9 i5,g9 i4,g9 i5];rfl
  ·simp[l]
 refine aa.oJ p ?_;rw[g];obtain⟨L,m⟩:∃L,L=dq k pw da ds:=⟨_,rfl⟩
 rw[<-m]at H v r⊢;have x:=H.cons (i0 L+2) (A:=gG k.tD (k.f pw) b d) (by
  rw[qp,qp,qh (ql _),qW];rfl)
 have e:(ac a k.tS (bQ mc pw offs (da.set n (dB b)))::bV k.tP pw w::(L++(gG k.tD (k.f pw) b d::As))).set (i0 L+2) emp=ac a k.tS (bQ mc pw offs (da.set n (dB b)))::bV k.tP pw w::(L++(emp::As)):=by rw[zw,zw,qV _ _ (ql _),qW];rfl
 rw[e]at x;have z:=x.aO 3 [0,2,1];have t:L.set n emp=L:=by
  obtain⟨D,E⟩:=qk.1 v
  conv=>lhs;rw[<-E]
  exact List.set_getElem_self D
 have y:aa B h0 h (gG k.tD (k.f pw) b d::bV k.tP pw w::ac a k.tS (bQ mc pw offs (da.set n (dB b)))::(L.set n emp++(emp::As))):=by rw[t];exact z
 have F:=aa.FF n i5 y;have G:=aa.closeAll (ac a k.tS (bQ mc pw offs (da.set n (dB b)))::bV k.tP pw w::L.set n (gG k.tD (k.f pw) b d)) F;exact aa.lp (L:=ac a k.tS (bQ mc pw offs (da.set n (dB b)))::bV k.tP pw w::L.set n (gG k.tD (k.f pw) b d)) G.oV
end
def cx(p:Pm)(extra:Int)(l:aB):av:=⟨1,0,p,extra,bj l l.length,[]⟩
def iB(l:aB)(k:Nat):aE:=(qx 64).map λi:Nat=>if(i:Int)∈(bj l l.length).take k then dB (aZ.new (l.getD i 0).toNat)else eH
def gc(p:Pm)(extra:Int)(w:Pow)(l:aB):Int×Pow×aE:=
 if(fx l).2&&(bJ p&&fy extra 0 16)then
  if(bj l l.length).any λi=>decide (l.getD i.toNat 0<(i0 (aM (cx p extra l)):Int))then(7,w,[])
  else layAll (bI (cx p extra l) (bj l l.length)) w (iB l (bj l l.length).length)
 else(1,w,[])
theorem Ow(l:aB):iB l 0=qi 64 eH:=by
 unfold iB;rw[List.take_zero];apply zq;intro j;simp only[qP,zT,zm,List.not_mem_nil,if_false];by_cases h:j<64
 ·simp[h,zm]
 ·simp[h]
theorem QE(l:aB)(k:Nat):i0 (iB l k)=64:=by simp[iB]
theorem Ox(l:aB)(k n:Nat)(c:k<i0 (bj l l.length))(d:(bj l l.length)[k]=(n:Int))(b:n<64):(iB l k).set n (dB (aZ.new (l.getD n 0).toNat))=iB l (k+1):=by
 apply zq;intro j;unfold iB;rw[aD _ _ c,d,qU,qq,zt];by_cases e:j<64
 ·simp only[qP,zm e,qQ,qz,qu];by_cases a:n=j
  ·subst a;rw[g9 i4,g9 b,g9 (Or.inr i4)]
  ·rw[hU a];have:¬(j:Int)=(n:Int):=i5
   simp only[this,or_false]
 ·rw[hU i5];rw[qI i9,qI i9]
theorem ux(l:aB)(k:Nat)(x:Int):x∈bj l k↔∃n:Nat,n<k/\x=(n:Int)/\0<l.getD n 0:=by
 unfold bj;rw[qF,qo];constructor
 ·rintro⟨⟨n,a,rfl⟩,b⟩;exact⟨n,qA.1 a,i4,k8⟩
 ·rintro⟨n,a,rfl,b⟩;exact⟨⟨n,qA.2 a,i4⟩,k8⟩
theorem QF(l:aB)(k i:Nat)(a:i<i0 (bj l k)):∃n:Nat,n<k/\(bj l k)[i]=(n:Int)/\0<l.getD n 0:=(ux l k _).1 (qf a)
def dU(p:Int×Int×Int):Nat:=(p.1*p.2.2).toNat
def th(a:Nat)(b:aL)(i:Nat):aL:=(b.drop (i*a)).take a++(qi a 0).drop (b.drop (i*a)).length
theorem Em(a:Nat)(b:aL)(i:Nat):i0 (th a b i)=a:=by unfold th;simp;omega
def splitB(p:Int×Int×Int)(b:aL):bP:=(qx (countP p b.length).toNat).map (th (dU p) b)
def Iy(p:Int×Int×Int)(o b:Int)(n:Nat):Bool:=fR p (ci o b n) (fe p)
def pA(p:Int×Int×Int)(o b:Int):Option Nat:=(qx 16).find? (Iy p o b)
def cT(p:Int×Int×Int)(o:Int):Nat->Option (aB)
 |0=>dB []
 |n+1=>(cT p o n).bind λl=>(pA p o n).map λt=>l++[(t:Int)]
theorem jz{p:Int×Int×Int}{o:Int}:∀{n:Nat} {l:aB},cT p o n=dB l->i0 l=n
 |0,l,h=>by cases h;rfl
 |n+1,l,h=>by
  unfold cT at h;cases h1:cT p o n with
  |none=>rw[h1]at h;cases h
  |some k=>
   rw[h1]at h;cases h2:pA p o n with
   |none=>rw[h2]at h;cases h
   |some t=>
    rw[h2]at h;have h:dB (k++[(t:Int)])=dB l:=h;injection h with h
    rw[<-h,qw,jz h1];rfl
theorem En{p:Int×Int×Int}{o b:Int}{t:Nat}(h:pA p o b=dB t):t<16/\Iy p o b t=eX/\∀k,k<t->Iy p o b k=fz:=by
 unfold pA at h;obtain⟨e,us,vs,c,h3⟩:=List.find?_eq_some_iff_append.1 h;have d:=congrArg vw c;have f:t=i0 us:=by
  have:(qx 16)[i0 us]?=dB t:=by rw[c,qh (ql _),qW];rfl
  rw[zm lc]at this;injection this with this;exact this.symm
 refine⟨lc,e,λk g=>?_⟩;have a:k∈us:=by
  have:(qx 16)[k]?=us[k]?:=by rw[c,qm i5]
  rw[zm lc]at this;exact zY this.symm
 simpa using h3 k a
theorem Ab{p:Int×Int×Int}{o:Int}:∀{n:Nat} {l:aB},cT p o n=dB l->∀i (b:i<i0 l),∃t:Nat,l[i]=(t:Int)/\pA p o i=dB t
 |0,l,h=>by cases h;intro i b;simp at b
 |n+1,l,h=>by
  unfold cT at h;cases h1:cT p o n with
  |none=>rw[h1]at h;cases h
  |some k=>
   rw[h1]at h;cases h2:pA p o n with
   |none=>rw[h2]at h;cases h
   |some t=>
    rw[h2]at h;have h:dB (k++[(t:Int)])=dB l:=h;injection h with h
    subst h;intro i b;have c:=jz h1;by_cases a:i<i0 k
    ·rw[List.getElem_append_left a];exact Ab h1 i a
    ·have:i=i0 k:=by simp at b;omega
     subst this;refine⟨t,jj,?_⟩;rw[c];exact h2
theorem Eo(p:Pm)(h:g0)(c:bJ p=eX):an xP 112 #[jW p] h λv h'=>v=xF xL (dU p)/\Sp h h' []:=by
 have b:=(bT p).1 c;refine AX p ?_;refine(Sp.refl h).boxed λe h3 a=>⟨p.1,(a.box 0 i4).cell0 i4,p.2.2,(a.box 0 i4).cell i4,?_,a.bA []⟩
 have f:p.1*p.2.2<=16*24:=w7 i5 i5 i5 i5;have d:0<=p.1*p.2.2:=vT i5 i5;rw[ai _];unfold dU;congr 1;omega
theorem lC{p:Pm}(b:bJ p=eX):1<=dU p/\dU p<=384/\(dU p:Int)=p.1*p.2.2:=by have a:=(bT p).1 b;have d:p.1*p.2.2<=16*24:=w7 i5 i5 i5 i5;have c:0<p.1*p.2.2:=xv i5 i5;unfold dU;omega
theorem mi{p:Pm}(a:bJ p=eX)(n:Nat):0<=countP p n/\countP p n<=n/\∀i:Nat,(i:Int)<countP p n->i*dU p<n:=by
 obtain⟨j,g,c⟩:=lC a;unfold countP;rw[a,zX];by_cases h0:0<(n:Int)
 ·rw[hY h0,g9 i4,<-c];have f:((n:Int)-1)/(dU p:Int)<=n-1:=xd _ i5;have h:0<=((n:Int)-1)/(dU p:Int):=xm i5 i5;refine⟨i5,i5,λi b=>?_⟩;have h3:(i:Int)<=((n:Int)-1)/(dU p:Int):=i5
  have d:=(Int.le_ediv_iff_mul_le i5).1 h3;have e:((i*dU p:Nat):Int)=(i:Int)*(dU p:Int):=wG i (dU p);omega
 ·rw[hZ h0,hU i6];exact⟨i5,i5,λi b=>i5⟩
theorem QG(p:Pm)(s:Sl)(b:aL)(h:g0)(g:bJ p=eX)(q:Rd h s 1 az b)(D:s.len<=s.cap)(Q:i0 b<=2^30):an xP 113 #[jW p,s] h λv h'=>∃r:Sl,v=r/\Sp h h' [dI r (splitB p b)]:=by
 refine ts Tryz.func113 ?_ (.two .n (.two .n (.two (.two .n (.inn (.loop [(5,cL),(12,aQ)] [(5,8),(12,31)] .n))) .n))) (args:=[p,s]);have d:=q.len;obtain⟨T,V,W⟩:=lC g;obtain⟨S,X,c3⟩:=mi g b.length;refine(Sp.refl h).boxed λj E l=>?_;refine⟨p,(l.box 0 i4).aF _ i4,?_⟩;refine(px p s.len E).mono ?_;rintro _ F ⟨rfl,M⟩;have x:=l.up M.ae;refine⟨_,i4,?_⟩;obtain⟨n,N⟩:∃n:Nat,n=(countP p b.length).toNat:=⟨_,rfl⟩
 have c:(countP p (s.len:Nat))=(n:Int):=by rw[d];omega
 rw[c];have G:i0 (splitB p b)=n:=by unfold splitB;rw[<-N];simp
 have a:Sp h F [dI ⟨eH,0,0⟩ ((splitB p b).take 0),ac j 36 [xF xL p.1,xF xL p.2.1,xF xL p.2.2]]:=x.BE 58 5 1 az;refine aq (λt:Sl×Nat=>(t.1,(t.2:Int))) (λt h'=>t.2<=n/\Sp h h' [dI t.1 ((splitB p b).take t.2),ac j 36 [xF xL p.1,xF xL p.2.1,xF xL p.2.2]]) (λt=>n-t.2) (⟨eH,0,0⟩,0) i4 ⟨jj,a⟩ ?_;rintro⟨o,i⟩ h3 ⟨P,a⟩;dsimp only at*;refine ag (λe=>?_) (λe=>?_)
 ·have z:i<n:=i5
  have L:=c3 i (by rw[<-d,c];omega);refine⟨p,(a.box 1 i4).aF _ i4,(Eo p h3 g).mono ?_⟩;rintro _ U ⟨rfl,K⟩;have H:=a.up K.ae;refine⟨_,i4,H.HW aj az gz i6 (0:UInt8) i4 i4 (dU p) (dU p) i4 i4 (ql _) i5 λv u Y O f=>?_⟩;have f:=f.be;refine⟨p,(f.box 2 i4).aF _ i4,(Eo p u g).mono ?_⟩;rintro _ R ⟨rfl,B⟩;have m:=f.up B.ae;refine⟨_,i4,?_⟩;have em:qe xL ((i:Int)*(dU p:Int))=((i*dU p:Nat):Int):=by rw[<-wG,ai _]
  try dsimp only
  rw[em,qj];refine⟨⟨i5,i5⟩,?_⟩;have w:=(Seq.up q m.ae).drop (i*dU p) D;refine m.HV aj 0 i4 gz (λ_=>rfl) (v:=⟨_,s.len-i*dU p,s.cap-i*dU p⟩) w gU λ_ I k=>?_;have k:Sp h I [af 5 v 1 az (th (dU p) b i),dI o ((splitB p b).take i),ac j 36 [xF xL p.1,xF xL p.2.1,xF xL p.2.2]]:=by simpa[th]using k
  refine(k.aO 2 [1,0]).BF aj fv i9 λA h8 y=>?_;refine⟨(A,i+1),j0,⟨i7,?_⟩,i7⟩
  try dsimp only
  rw[aD _ _ (show i<i0 (splitB p b) by omega)];have J:(splitB p b)[i]'(by omega)=th (dU p) b i:=by simp[splitB]
  rw[J];exact y
 ·rw[qg i5]at a;exact⟨o,i4,a.bA [0]⟩
theorem nU(a b:UInt8):qe xM ((qO (qH xM) (a.toNat:Int)^^^qO (qH xM) (b.toNat:Int)).toNat:Nat)=((a^^^b).toNat:Int):=by
 have e:∀a:UInt8,qO (qH xM) (a.toNat:Int)=a.toBitVec:=λa=>by
  apply BitVec.eq_of_toNat_eq;have:=w6 a;simp[qH]
 rw[e,e];have c:=(a.toBitVec^^^b.toBitVec).isLt;have:((a^^^b).toNat:Int)=((a.toBitVec^^^b.toBitVec).toNat:Int):=rfl;rw[this];show(((a.toBitVec^^^b.toBitVec).toNat:Nat):Int)%256=_;have:(a.toBitVec^^^b.toBitVec).toNat<256:=c;omega
def tri(a:UInt8):Nat->Int×Int×Int
 |0=>((a.toNat:Int),(3:Int),(0:Int))
 |1=>(((Gf.x2 a).toNat:Int),(1:Int),(a.toNat:Int))
 |_=>(((Gf.x2 (Gf.x2 a)).toNat:Int),(0:Int),((Gf.x3 a).toNat:Int))
theorem QH(a:UInt8)(h:g0):an xP 295 #[xF xM a.toNat,xF xM 3] h λv h'=>v=xF xM (Gf.x3 a).toNat/\h'=h:=by
 have e:∀n:Nat,n<256->
   ((qe xM ((qO (qH xM) (n:Int)&&&(qO (qH xM) (128:Int))).toNat:Nat)) !=(0:Int))=eX->qe xM ((qO (qH xM) (qe xM ((n:Int)*2^min (1:Int).toNat (qH xM)))^^^(qO (qH xM) (27:Int))).toNat:Nat)=((Gf.x2 (yR n)).toNat:Int):=j5
 have c:∀n:Nat,n<256->
   ((qe xM ((qO (qH xM) (n:Int)&&&(qO (qH xM) (128:Int))).toNat:Nat)) !=(0:Int))=fz->qe xM ((n:Int)*2^min (1:Int).toNat (qH xM))=((Gf.x2 (yR n)).toNat:Int):=j5
 refine ts Tryz.func295 ?_ (.two .n (.scope 0 [(0,(.sc (.int .u8))),(1,(.sc (.int .u8))),(5,(.sc (.int .u8)))] [(0,2),(4,26)] [.n] [(.two .n (.two (.join [(5,(.sc (.int .u8)))] [(5,6),(10,16)] .n) (.two .n (.two .n (.two (.join [(0,(.sc (.int .u8)))] [(0,1),(21,24)] .n) .n)))))] []));refine aq (tri a) (λt h'=>h'=h/\t<=2) (λt=>2-t) 0 i4 ⟨i4,i5⟩ ?_;rintro t h' ⟨rfl,f⟩;rcases(show t=0∨t=1∨t=2 by omega)with rfl|rfl|rfl
 ·rw[show tri a 0=((a.toNat:Int),(3:Int),(0:Int))from rfl]
  try dsimp only
  refine tW i6 (aW (Dp i6 ?_));refine⟨i6,aW ?_⟩;refine bo (λd=>?_) (λd=>?_)
  ·rw[e _ (w6 a) d,y6];refine⟨i6,1,?_,⟨i4,i6⟩,i6⟩;have:=nU 0 a;simp only[wF]at this;exact vd i4 (vd i4 this)
  ·rw[c _ (w6 a) d,y6];refine⟨i6,1,?_,⟨i4,i6⟩,i6⟩;have:=nU 0 a;simp only[wF]at this;exact vd i4 (vd i4 this)
 ·rw[show tri a 1=(((Gf.x2 a).toNat:Int),(1:Int),(a.toNat:Int))from rfl]
  try dsimp only
  refine tW i6 (aW (Dp i6 ?_));refine⟨i6,aW ?_⟩;refine bo (λd=>?_) (λd=>?_)
  ·rw[e _ (w6 (Gf.x2 a)) d,y6];refine⟨i6,2,?_,⟨i4,i6⟩,i6⟩;refine vd i4 (vd i4 ?_);have:=nU a (Gf.x2 a);rw[vz]at this;exact this
  ·rw[c _ (w6 (Gf.x2 a)) d,y6];refine⟨i6,2,?_,⟨i4,i6⟩,i6⟩;refine vd i4 (vd i4 ?_);have:=nU a (Gf.x2 a);rw[vz]at this;exact this
 ·exact Dp (b:=(0:Int)==0) i6 ⟨i4,i4⟩
def jA:aB:=(qx 255).map λi=>((Gf.pw i).toNat:Int)
def ri:aB:=(qx 256).map λx=>if x=0 then 0 else((Gf.lg (yR x):Nat):Int)
theorem iv:i0 jA=255:=by simp[jA]
theorem uy:i0 ri=256:=by simp[ri]
def cY:aT:=jA.map (Sc.enc (.int .u8))++ri.map (Sc.enc (.int .i64))
abbrev fI(h:g0)(a:f8):Prop:=bY h a 308 cY
theorem Ko(k:IntKind)(l:aB):(l.map (Sc.enc (.int k))).all (·.oneCell')=eX:=by rw[List.all_map,qJ];intro x _;rfl
theorem QI(h:g0):an xP 228 #[] h λv h'=>v=xK (jA.map (Sc.enc (.int .u8))).toArray/\Sp h h' []:=by
 refine ts Tryz.func228 ?_ (.two .n (.two .n (.two (.two .n (.inn (.loop [(1,(.sc (.int .u8))),(3,aQ)] [(1,12)] .n))) .n)));refine(Sp.refl h).alloc aj i4 λa s q=>?_;refine aq (λi:Nat=>(((Gf.pw i).toNat:Int),(i:Int))) (λi h'=>i<=255/\Sp h h' [ac a 303 (((qx 255).map λj=>if j<i then((Gf.pw j).toNat:Int)else 0).map (Sc.enc (.int .u8)))]) (λi=>255-i) 0 i4 ⟨i5,?_⟩ ?_
 ·have e:((qx 255).map λj=>if j<0 then((Gf.pw j).toNat:Int)else 0).map (Sc.enc (.int .u8))=qi 255 (xF xM 0):=by simp;rfl
  rw[e];exact q
 ·rintro i t ⟨r,g⟩;refine ag (λo=>?_) (λm=>?_)
  ·dsimp only at o;refine⟨⟨i7,i7⟩,?_⟩
   try dsimp only
   rw[show((i:Int).toNat*1)=i by omega];refine g.storeAt aj 0 i4 i4 i4 i4 i4 i9 λh3 f=>?_;refine(QH (Gf.pw i) h3).mono ?_;rintro v u ⟨rfl,rfl⟩;refine⟨_,i4,i+1,?_,⟨i5,?_⟩,i5⟩
   ·rw[ai _];rfl
   ·have e:((((qx 255).map λj=>if j<i then((Gf.pw j).toNat:Int)else 0).map (Sc.enc (.int .u8))).set i (xF xM (Gf.pw i).toNat))=(((qx 255).map λj=>if j<i+1 then((Gf.pw j).toNat:Int)else 0).map (Sc.enc (.int .u8))):=by
     apply zq;intro j;simp only[qU,qP,qq,zt];by_cases b:i=j
     ·subst b;have:i<255:=i5
      simp[this]
     ·by_cases d:j<255
      ·simp only[b,if_false,zm d,qQ];by_cases c:j<i
       ·rw[g9 c,g9 i5]
       ·rw[hU c,hU i5]
      ·simp[b,d]
    rw[<-e];exact f
  ·have k:i=255:=by dsimp only at m;omega
   subst k;have e:((qx 255).map λj=>if j<255 then((Gf.pw j).toNat:Int)else 0)=jA:=by unfold jA;apply vH;intro j b;rw[g9 (qA.1 b)]
   rw[e]at g;have p:=g.box 0 i4;refine⟨jA,⟨iv,p.aF _ oo⟩,?_⟩;refine g.storeAll aj 0 i4 i4 (jA.map (Sc.enc (.int .u8))) i4 (by rw[qq,iv]) (Ko _ _) i4 λh3 f=>?_;have l:=f.box 0 i4;exact⟨jA,⟨iv,l.aF _ oo⟩,i4,.zip f.ae⟩
theorem Xu(h:g0):an xP 229 #[xK (jA.map (Sc.enc (.int .u8))).toArray] h λv h'=>v=xK (ri.map (Sc.enc (.int .i64))).toArray/\Sp h h' []:=by
 refine ts Tryz.func229 ?_ (.two .n (.two (.two .n (.inn (.loop [(6,aQ)] [(3,5),(6,14)] .n))) .n)) (args:=[(xK (jA.map (Sc.enc (.int .u8))).toArray)]);refine(Sp.refl h).boxed λa D z=>?_;refine z.alloc aj i4 λy E q=>?_;have m:=q.box 0 i4;refine⟨jA,⟨iv,m.aF _ (by show List.take _ (jA.map _)=_;rw[qg (ql _)])⟩,?_⟩;let L:Nat->aB:=λi=>(qx 256).map λx=>if x≠0/\Gf.lg (yR x)<i then((Gf.lg (yR x):Nat):Int)else 0
 refine aq (λi:Nat=>(i:Int)) (λi h'=>i<=255/\Sp h h' [emp,ac y 305 ((L i).map (Sc.enc (.int .i64)))]) (λi=>255-i) 0 i4 ⟨i5,?_⟩ ?_
 ·have e:(L 0).map (Sc.enc (.int .i64))=qi 256 (xF xL 0):=by simp[L];rfl
  rw[e];exact q.eJ 0 i4 λ_ _=>trivial
 ·rintro i h3 ⟨B,g⟩;refine ag (λA=>?_) (λt=>?_)
  ·have c:i<255:=i5
   have s:=w6 (Gf.pw i);refine⟨((Gf.pw i).toNat:Int),⟨i5,i5,by simp[jA,c]⟩,⟨i5,i5⟩,?_⟩;rw[show(((Gf.pw i).toNat:Int).toNat*1)=(Gf.pw i).toNat by omega];refine g.storeAt aj 1 i4 i4 i4 i4 i4 (by simp[L];omega) λu k=>?_;refine⟨i+1,j1,⟨i5,?_⟩,i5⟩;have e:((L i).map (Sc.enc (.int .i64))).set (Gf.pw i).toNat (xF xL i)=(L (i+1)).map (Sc.enc (.int .i64)):=by
    apply zq;intro j;simp only[qU,qP,qq,zt,L];by_cases f:(Gf.pw i).toNat=j
    ·subst f;simp only[if_true,zm s,qQ,s];have p:(Gf.pw i).toNat≠0:=λh0=>Gf.TP i c (yJ.1 h0);rw[y6,Gf.TO i c,g9 ⟨p,i5⟩]
    ·by_cases d:j<256
     ·simp only[f,if_false,zm d,qQ];by_cases b:j=0
      ·simp[b]
      ·have F:Gf.lg (yR j)≠i:=λh0=>by
        apply f;rw[<-h0,Gf.TN _ λw=>b (by have:=congrArg UInt8.toNat w;simpa[vD d]using this)];simp[vD d]
       by_cases l:Gf.lg (yR j)<i
       ·rw[g9 ⟨b,l⟩,g9 ⟨b,i5⟩]
       ·rw[hU λr=>l r.2,hU λr=>l i5]
     ·simp[f,d]
   rw[<-e];exact k
  ·have c:i=255:=i5
   subst c;have e:L 255=ri:=by
    unfold ri;apply vH;intro j f;by_cases b:j=0
    ·simp[b]
    ·rw[g9 ⟨b,Gf.HX _⟩,hU b]
   rw[e]at g;have m:=g.box 1 i4;refine⟨ri,⟨uy,m.aF _ oo⟩,?_⟩;refine g.storeAll aj 1 i4 i4 (ri.map (Sc.enc (.int .i64))) i4 (by rw[qq,uy]) (Ko _ _) i4 λu k=>?_;have o:=k.box 1 i4;exact⟨ri,⟨uy,o.aF _ oo⟩,i4,.zip k.ae⟩
theorem pB(h:g0):an xP 163 #[] h λv h'=>∃a:f8,v=xH (dB a)/\Sp h h' [ac a 308 cY]:=by
 refine ts Tryz.func163 ?_;refine(QI h).mono ?_;rintro v s ⟨rfl,q⟩;refine⟨jA,i4,?_⟩;refine q.alloc aj i4 λa t m=>?_;refine m.storeAll aj 0 i4 i4 (jA.map (Sc.enc (.int .u8))) i4 (by rw[qq,iv]) (Ko _ _) (by rw[qq,iv];rfl) λh3 f=>?_;have l:=f.box 0 i4;have d:bn h3 a 0 (jA.map (Sc.enc (.int .u8))):=l.aF _ oo;refine⟨jA,⟨iv,d⟩,jA,⟨iv,d⟩,?_⟩;refine(Xu h3).mono ?_;rintro v u ⟨rfl,j⟩;refine⟨ri,i4,nO.2 ⟨(j.ae).cells l.lt d,trivial⟩,_,Ds aj (i:=_) i4 i4 i4 (cells:=cY.toArray) ?_,?_⟩
 ·have b:∀z:aT,i0 z=511->wH (λn=>[(0,255),(255,256)][n]?) z.toArray [(0,xK (jA.map (Sc.enc (.int .u8))).toArray),(1,xK (ri.map (Sc.enc (.int .i64))).toArray)]=dB cY.toArray:=by
   intro z b;have e:z=[]++z.take 255++z.drop 255:=jj
   conv=>lhs;rw[e]
   rw[Nk (vs:=jA.map (Sc.enc (.int .u8))) i4 (by simp[iv]) (by simp[iv,b])];have e2:[]++jA.map (Sc.enc (.int .u8))++z.drop 255=jA.map (Sc.enc (.int .u8))++z.drop 255++[]:=jj
   rw[e2,Nk (vs:=ri.map (Sc.enc (.int .i64))) i4 (by simp[iv,uy]) (by simp[uy,b])];simp[wH,cY]
  exact b _ i4
 ·have o:(Value.agg cY.toArray).cells.toList=cY:=rfl;refine(f.comp j).boxed λp r k=>?_;have c:=k.box 0 i4;exact⟨nO.2 ⟨c.aF _ oo,trivial⟩,p,i4,k.take 1 λi A g=>by cases i with|zero=>exact g|succ i=>simp at g⟩
theorem Ep{h:g0}{a:f8}(c:fI h a)(n:Nat)(b:n<255):f9 h (a.add n)=dB (xF xM (Gf.pw n).toNat):=
 c.cell (by rw[cY,qm (by simp[iv,b])];simp[jA,b])
theorem Es{h:g0}{a:f8}(c:fI h a)(x:UInt8)(f:x≠0):f9 h ((a.add 255).add x.toNat)=dB (xF xL (Gf.lg x)):=by
 have d:=c.addr;have e:(a.add 255).add x.toNat=a.add (255+x.toNat):=by rw[d,add_eq,add_eq,add_eq];congr 1;omega
 rw[e];refine c.cell ?_;have b:=w6 x;have h0:x.toNat≠0:=λh0=>f (yJ.1 h0);rw[cY,qh (by simp[iv])];simp[iv,ri,b,h0]
theorem rj(a:f8)(h:g0):an xP 319 #[xH (dB a)] h λv h'=>v=xH (dB a)/\h'=h:=by refine ts Tryz.func319 ?_;exact tW i4 ⟨i4,i4⟩
theorem sB(a:f8)(h:g0):an xP 226 #[xH (dB a)] h λv h'=>v=xH (dB a)/\h'=h:=by refine ts Tryz.func226 ?_;exact tW i4 ⟨i4,i4⟩
theorem Mf(a:f8)(h:g0):an xP 329 #[xH (dB a)] h λv h'=>v=xH (dB a)/\h'=h:=by refine ts Tryz.func329 ?_;exact tW i4 ⟨i4,i4⟩
theorem AD{x:UInt8}:((x.toNat:Int)=0)↔x=0:=⟨λh=>yJ.1 j9,λh=>by rw[h];rfl⟩
theorem Hb(a:f8)(x y:UInt8)(h:g0)(d:fI h a):an xP 268 #[xH (dB a),xF xM x.toNat,xF xM y.toNat] h λv h'=>v=xF xM (Gf.mul x y).toNat/\h'=h:=by
 refine ts Tryz.func268 ?_ (.two .n (.two (.join [] [(6,7),(8,14)] .n) .n));refine aW ?_;refine cH (λh0=>⟨by rw[Gf.mul,g9 (.inl (AD.1 h0))];rfl,i4⟩) λg=>?_;refine cH (λh0=>⟨by rw[Gf.mul,g9 (.inr (AD.1 h0))];rfl,i4⟩) λi=>?_;have b:x≠0:=λh0=>g (AD.2 h0);have c:y≠0:=λh0=>i (AD.2 h0);refine(rj a h).mono ?_;rintro v l ⟨rfl,rfl⟩;have j:=w6 x;have k:=w6 y;have l1:=Gf.HX x;have l2:=Gf.HX y;refine⟨dB a,i4,a,i4,⟨i5,i5⟩,(Gf.lg x:Int),?_,a,i4,⟨i5,i5⟩,(Gf.lg y:Int),?_,i6,a,i4,?_⟩
 ·rw[show((x.toNat:Int).toNat*1)=x.toNat by omega];exact Es d x b
 ·rw[show((y.toNat:Int).toNat*1)=y.toNat by omega];exact Es d y c
 rw[ai _];have e:xA ((Gf.lg x:Int)+(Gf.lg y:Int)) 255=(((Gf.lg x+Gf.lg y)%255:Nat):Int):=by rw[yW i5];rfl
 rw[e];have f:=y7 (Gf.lg x+Gf.lg y) (show 255>0 by decide);refine⟨⟨i5,i5⟩,_,?_,by rw[Gf.mul,hU (by simp[b,c])],i4⟩;rw[show((((Gf.lg x+Gf.lg y)%255:Nat):Int).toNat*1)=(Gf.lg x+Gf.lg y)%255 by omega];exact Ep d _ f
theorem aaE(a:f8)(x:UInt8)(h:g0)(d:fI h a):an xP 291 #[xH (dB a),xF xM x.toNat] h λv h'=>v=xF xM (Gf.inv x).toNat/\h'=h:=by
 refine ts Tryz.func291 ?_;refine cH (λh0=>⟨by rw[Gf.inv,g9 (AD.1 h0)];rfl,i4⟩) λf=>?_;have b:x≠0:=λh0=>f (AD.2 h0);refine(rj a h).mono ?_;rintro v i ⟨rfl,rfl⟩;have g:=w6 x;have l1:=Gf.HX x;refine⟨dB a,i4,a,i4,⟨i5,i5⟩,(Gf.lg x:Int),?_,i6,a,i4,?_⟩
 ·rw[show((x.toNat:Int).toNat*1)=x.toNat by omega];exact Es d x b
 rw[ai _];have e:xA (255-(Gf.lg x:Int)) 255=(((255-Gf.lg x)%255:Nat):Int):=by rw[yW i5];omega
 rw[e];have c:=y7 (255-Gf.lg x) (show 255>0 by decide);refine⟨⟨i5,i5⟩,_,?_,by rw[Gf.inv,hU b],i4⟩;rw[show((((255-Gf.lg x)%255:Nat):Int).toNat*1)=(255-Gf.lg x)%255 by omega];exact Ep d _ c
theorem aaF(a:f8)(n:Int)(h:g0)(g:fI h a):an xP 274 #[xH (dB a),xF xL n] h λv h'=>v=xF xM (Gf.pw (n%255).toNat).toNat/\h'=h:=by
 refine ts Tryz.func274 ?_ (.two .n (.two .n (.two (.join [(1,aQ)] [(1,2),(7,11)] .n) .n)));have j:=vL n (show(0:Int)<255 by decide);have i:-255<n.tmod 255:=Int.lt_tmod_of_pos n i6;have b:=Nj n 255 i6;have e:=Int.emod_nonneg n (show(255:Int)≠0 by decide);have c:=Int.emod_lt_of_pos n (show(0:Int)<255 by decide);refine⟨i6,bL (λs h'=>s=n%255/\h'=h) ?_ ?_⟩
 ·refine ag (λf=>?_) (λd=>?_)
  ·rw[g9 f]at b;exact⟨by rw[ai _,b],i4⟩
  ·rw[hU d]at b;exact⟨b.symm,i4⟩
 ·rintro s h' ⟨rfl,rfl⟩;refine(rj a h').mono ?_;rintro v i ⟨rfl,rfl⟩;refine⟨dB a,i4,a,i4,⟨e,c⟩,_,?_,i4,i4⟩;rw[wN];exact Ep g _ i5
theorem kp(p:Pm)(h:g0):an xP 193 #[jW p] h λv h'=>v=xF xL (bN p)/\Sp h h' []:=by refine ts Tryz.func193 ?_ (args:=[p]);refine(Sp.refl h).boxed λa f d=>?_;refine⟨p,(d.box 0 i4).aF _ i4,?_⟩;refine(dZ p f).mono ?_;rintro v i ⟨rfl,g⟩;have b:=d.comp g;have c:=b.box 0 i4;refine⟨_,i4,aR (λe=>⟨by simp[bN,e],.zip b.ae⟩) λe=>?_⟩;refine⟨_,c.cell0 i4,_,c.cell i4,?_,.zip b.ae⟩;have:=(bT p).1 e;rw[ai _,bN,g9 e]
theorem Xv(n i:Int)(h:g0):an xP 273 #[xF xL n,xF xL i] h λv h'=>∃s:Sl,v=s/\
  Sp h h' [af 5 s 1 az (if 1<=n/\n<=64/\0<=i/\i<n then(qi n.toNat (0:UInt8)).set i.toNat 1 else[])]:=by
 refine ts Tryz.func273 ?_ (.two .n (.two (.join [] [(4,5),(6,21)] .n) .n));have a:∀c:Prop,¬c->[Decidable c]->Sp h h [af 5 ⟨eH,0,0⟩ 1 az (if c then(qi n.toNat (0:UInt8)).set i.toNat 1 else[])]:=λc b _=>by
  rw[hU b];exact(Sp.refl h).nil 5 1 az
 refine aW ?_;refine ag (λe=>⟨⟨eH,0,0⟩,i4,a _ i5⟩) λj=>?_;refine ag (λe=>⟨⟨eH,0,0⟩,i4,a _ i5⟩) λe2=>?_;refine ag (λe=>⟨⟨eH,0,0⟩,i4,a _ i5⟩) λo=>?_;refine ag (λe=>⟨⟨eH,0,0⟩,i4,a _ i5⟩) λm=>?_;refine(Sp.refl h).make aj az ⟨_,_,i4,i4,i4,i4,i4,i4⟩ i6 0 i4 i4 n.toNat n.toNat i5 i5 (ql _) i5 λs k g b f=>?_;refine f.set aj 0 i4 (λ_=>rfl) i4 i.toNat i5 i9 1 i4 i4 i4 λl d=>?_;refine⟨s,i4,?_⟩;rw[g9 i5];exact d
theorem Mg(s:Int)(h:g0):an xP 201 #[xF xN s] h λv h'=>∃a:f8,v=xH (dB a)/\Sp h h' [ac a 351 [xF xO (qe xO s)]]:=by refine ts Tryz.func201 ?_;exact(Sp.refl h).boxed λa c b=>⟨a,i4,b⟩
theorem Bd(a:f8)(s:Int)(h:g0)(d:bY h a 351 [xF xO s]):an xP 202 #[xH (dB a)] h λv h'=>v=xF xN (told s)/\bY h' a 351 [xF xO (CM s)]/\aP (·≠a.block) h h':=by refine ts Tryz.func202 ?_;refine tW i4 ⟨a,i4,s,d.cell0 i4,a,i4,?_⟩;refine BC aj d i4 _ i4 i4 i4 (ql _) λe b c _=>?_;exact⟨a,i4,_,b.cell0 i4,i6,i4,b,c⟩
theorem Iz(a:f8)(s n:Int)(h:g0)(d:bY h a 351 [xF xO s])(i:0<n:=by omega)(f:n<=2^62:=by omega):an xP 270 #[xH (dB a),xF xL n] h λv h'=>v=xF xL (mh s n)/\bY h' a 351 [xF xO (CM s)]/\aP (·≠a.block) h h':=by refine ts Tryz.func270 ?_ (.two .n (.two (.join [] [(4,11)] .n) .n));refine aW (tW i4 (ag (λe=>i5) λ_=>?_));refine(Bd a s h d).mono ?_;rintro v g ⟨rfl,c,b⟩;exact⟨_,i4,pa,i4,c,b⟩
theorem SK(a b:Nat)(c:a<=2^40)(d:b<=2^40):qe xL ((a:Int)+(b:Int))=((a+b:Nat):Int):=by rw[ai _];rfl
theorem Xw(l:Nat)(h:g0)(f:l<=20):an xP 320 #[xF xL l] h λv h'=>v=xF xL (fC l)/\h'=h:=by
 have m:∀l:Nat,l<=20->∀r:Nat,r<=5->(∀j,j<r->j*j<l)->r*r<l->r<5:=i6
 have k:∀l:Nat,l<=20->∀r:Nat,r<=5->(∀j,j<r->j*j<l)->¬r*r<l->r=fC l:=i6
 refine ts Tryz.func320 ?_ (.two .n (.two .n (.two (.inn (.loop [(3,aQ)] [(3,11)] .n)) .n)));refine aq (λr:Nat=>(r:Int)) (λr h'=>h'=h/\r<=5/\∀j,j<r->j*j<l) (λr=>5-r) 0 i4 ⟨i4,i5,λj c=>i5⟩ ?_;rintro r h' ⟨rfl,d,c⟩;have g:r*r<=25:=Nat.mul_le_mul d d;have e:qe xL ((r:Int)*(r:Int))=((r*r:Nat):Int):=by rw[<-wG];exact sS _
 rw[e];refine ag (λo=>?_) (λi=>?_)
 ·have a:r*r<l:=i5
  have p:=m l f r d c a;refine⟨r+1,j1,⟨i4,i5,λj b=>?_⟩,i5⟩;rcases Nat.lt_succ_iff_lt_or_eq.1 b with b|rfl
  ·exact c j b
  ·exact a
 ·exact⟨by rw[k l f r d c i5],i4⟩
theorem Xx(r:Nat)(h:g0)(b:r<=5):an xP 130 #[xF xO r] h λv h'=>v=xF xL (Fo r)/\h'=h:=by
 intro w a;refine(Tryz.bits_Len (r:Int) w i5 i5).mono ?_;rintro e w' ⟨rfl,rfl⟩;have k:∀r:Nat,r<=5->Lib.bitLen r=Fo r:=j5
 exact⟨_,i4,dg.refl _,by rw[qj,k r b],a⟩
theorem QJ(l k:Nat)(h:g0)(b:l<=20)(a:1<=l)(f:k<=20)(g:1<=k):an xP 271 #[xF xL l,xF xL k] h λv h'=>v=xF xL (pR l k)/\h'=h:=by
 have p:∀k:Nat,k<=20->1<k->qe xL ((k:Int)*qe xL ((k:Int)-1))=((k*(k-1):Nat):Int)/\k*(k-1)≠0:=i6
 have z:∀l:Nat,l<=20->1<=l->1<=fC l/\fC l<=5:=i6
 have c3:∀l:Nat,l<=20->1<=l->qe xL (vm (l:Int) (fC l))=((l/fC l:Nat):Int):=i6
 have j:∀l:Nat,l<=20->1<=l->∀k:Nat,k<=20->1<=k->qe xL ((l:Int)*k)≠0:=j5
 have q:∀k:Nat,k<=20->1<k->qe xL (vm (1048576:Int) (qe xL ((k:Int)*qe xL ((k:Int)-1))))=((1048576/(k*(k-1)):Nat):Int):=j5
 have u:∀l:Nat,l<=20->1<=l->qe xL (vm (1048576:Int) (l:Int))=((1048576/l:Nat):Int):=j5
 have o:∀l:Nat,l<=20->1<=l->∀k:Nat,k<=20->1<=k->qe xL (vm (qe xL ((1048576:Int)*fC l)) (qe xL ((l:Int)*k)))=((1048576*fC l/(l*k):Nat):Int):=j5
 have y:∀l:Nat,l<=20->1<=l->qe xL (vm (qe xL ((qe xL ((1048576:Int)*fC l))*Fo (fC l))) (l:Int))=((1048576*fC l*Fo (fC l)/l:Nat):Int):=j5
 have m:∀l:Nat,l<=20->∀k:Nat,k<=20->1048576*fC l/(l*k)<=2^30/\1048576*fC l*Fo (fC l)/l<=2^30/\1048576/(k*(k-1))<=2^30/\1048576/l<=2^30:=j5
 refine ts Tryz.func271 ?_ (.two .n (.two .n (.two .n (.two (.join [(6,aQ)] [(6,7),(12,19)] .n) (.two (.join [(6,aQ)] [(6,8),(19,48)] .n) .n)))));have i:=m l b k f;refine(Xw l h b).mono ?_;rintro v r ⟨rfl,rfl⟩;have x:=z l b a;refine⟨_,i4,i5,bL (λs h'=>s=(((if k>1 then 1048576/(k*(k-1))else 1048576/l):Nat):Int)/\h'=r) ?_ ?_⟩
 ·refine ag (λe=>?_) (λe=>?_)
  ·have:=p k f i5;refine⟨by rw[this.1];omega,by rw[q k f i5,g9 i5],i4⟩
  ·refine⟨by rw[u l b a,hU i5],i4⟩
 ·rintro s t ⟨rfl,rfl⟩;have A:(if k>1 then 1048576/(k*(k-1))else 1048576/l)<=2^30:=by split<;>first|exact i.2.2.1|exact i.2.2.2
  refine aW ?_;try dsimp only
  refine⟨show((fC l:Nat):Int)≠0 by omega,?_⟩;rw[c3 l b a];refine ag (λe=>⟨j l b a k f g,?_,i4⟩) (λe=>?_)
  ·rw[o l b a k f g,SK _ _ i5 (qT i.1 i6),pR,g9 (c:=k<l/fC l) (Int.ofNat_lt.1 e)]
  ·refine cH (λe2=>?_) (λe2=>?_)
   ·have w:qe xO (fC l:Int)=(fC l:Int):=pa
    rw[w];refine(Xx (fC l) t x.2).mono ?_;rintro v h3 ⟨rfl,rfl⟩;refine⟨_,i4,i5,?_,i4⟩;rw[y l b a,SK _ _ i5 (qT i.2.1 i6),pR,hU (c:=k<l/fC l) λd=>e (Int.ofNat_lt.2 d),g9 (c:=k=l/fC l) (vo.1 e2)]
   ·exact⟨by rw[pR,hU (c:=k<l/fC l) λd=>e (Int.ofNat_lt.2 d),hU (c:=k=l/fC l) λd=>e2 (vo.2 d),Nat.add_zero],i4⟩
theorem UA(l:Nat)(h:g0)(c:l<=20)(a:1<=l):an xP 204 #[xF xL l] h λv h'=>∃s:Sl,v=s/\Sp h h' [af 3 s 1 ak (jR l)]:=by
 refine ts Tryz.func204 ?_ (.two .n (.two (.join [] [(2,3),(6,12)] .n) (.two .n (.two .n (.two (.two .n (.inn (.loop [(3,cL),(4,aQ),(5,aQ)] [(3,6),(14,28)] .n))) .n)))));refine aW (ag (λe=>i5) λ_=>ag (λe=>i5) λ_=>?_);refine(Sp.refl h).make aj ak fN i6 0 i4 i4 0 l i4 i4 i5 i5 λs q d p m=>?_;refine aq (λt:Sl×Nat=>(t.1,((mN l t.2:Nat):Int),((t.2+1:Nat):Int))) (λt h'=>t.2<=l/\Sp h h' [af 3 t.1 1 ak ((jR l).take t.2)]) (λt=>l-t.2) (s,0) i4 ⟨jj,m0⟩ ?_;rintro⟨s,k⟩ g ⟨u,b⟩;dsimp only at*;refine ag (λe=>?_) (λe=>?_)
 ·refine(QJ l (k+1) g c a i5 i5).mono ?_;rintro v h3 ⟨rfl,rfl⟩;refine⟨_,i4,?_⟩;have o:=Fp l c k i5;have w:=HY l c (k+1) i5;have e2:qe xL ((mN l k:Int)+(pR l (k+1):Int))=((mN l (k+1):Nat):Int):=by rw[ai _,mN];rfl
  try dsimp only
  rw[e2];refine b.push aj 0 i4 fN i4 i6 (λ_=>rfl) eS _ i4 i6 p5 λf r i=>?_;refine⟨(f,k+1),j0,⟨i7,?_⟩,i7⟩;have j:(jR l).take (k+1)=(jR l).take k++[((mN l (k+1):Nat):Int)]:=by rw[aD _ _ sp];simp[jR]
  dsimp only;rw[j];exact i
 ·refine⟨s,i4,?_⟩;rw[qg sp]at b;exact b
theorem QK{p:aw}(t:Sl)(lt:aB)(x b:Int)(h:g0)(d:Seq h p t 1 ak lt)(s:0<=x)(a:lt.getLast?=dB b)(f:x<b)(u:i0 lt<=2^40):
  an xP 269 #[t,xF xL x] h λv h'=>v=xF xL (TQ lt x)/\h'=h:=by
 refine ts Tryz.func269 ?_ (.two .n (.two (.join [] [(4,5),(7,24)] .n) (.two (.two .n (.inn (.loop [(26,aQ)] [(4,7),(26,37)] .n))) .n)));have r:=d.len;have i:lt≠[]:=λe=>by rw[e]at a;cases a
 have m:0<i0 lt:=List.length_pos_iff.2 i;have g:lt[i0 lt-1]=b:=by rw[List.getLast?_eq_getElem?,qc i5]at a;simpa using a
 refine aW (cH (λe=>i5) λ_=>ag (λe=>i5) λ_=>?_);rw[ai _];refine d.bt (i0 lt-1) i5 i5 _ i4 ?_;rw[g];refine ag (λe=>i5) λ_=>?_;have c:(lt.findIdx λy=>decide (y>x))<i0 lt:=List.findIdx_lt_length_of_exists ⟨b,List.mem_of_getLast? a,pb⟩;refine aq (λk:Nat=>(k:Int)) (λk h'=>h'=h/\k<=(lt.findIdx λy=>decide (y>x))) (λk=>i0 lt-k) 0 i4 ⟨i4,i5⟩ ?_;rintro k h' ⟨rfl,o⟩;refine ag (λe=>?_) (λe=>i5);have j:k<i0 lt:=i5
 refine d.bt k i4 j _ i4 ?_;rw[ai _];refine ag (λe2=>?_) (λe2=>?_)
 ·have:(lt.findIdx λy=>decide (y>x))=k:=Nat.le_antisymm (Nat.le_of_not_lt λl=>by have:=List.not_of_lt_findIdx l;simp at this;omega) o;exact⟨by rw[TQ,this];rfl,i4⟩
 ·refine⟨k+1,i4,⟨i4,?_⟩,i5⟩;refine Nat.lt_of_le_of_ne o λq=>?_;have:=List.findIdx_getElem (xs:=lt) (p:=λy=>decide (y>x)) (w:=c);simp only[<-q]at this;simp at this;omega
theorem FN(t:Sl)(n:Nat)(a:f8)(s:Int)(h:g0)(f:Seq h (·≠a.block) t 1 ak (jR n))(o:bY h a 351 [xF xO s])(d:1<=n)(i:n<=20):
  an xP 203 #[t,xH (dB a)] h λv h'=>v=xF xL (Fq s n)/\bY h' a 351 [xF xO (CM s)]/\aP (·≠a.block) h h':=by
 refine ts Tryz.func203 ?_;have j:=f.len;rw[lN]at j;refine cH (λe=>i5) λ_=>?_;rw[ai _];refine f.bt (n-1) i5 sp _ i4 ?_;have l:(jR n)[n-1]'(by rw[lN];omega)=((mN n n:Nat):Int):=by simp only[jR,List.getElem_map,List.getElem_range];rw[show n-1+1=n by omega]
 rw[l];have q:=Nu n i d;have k:=Fp n i n i;refine(Iz a s _ h o).mono ?_;rintro v m ⟨rfl,g,b⟩;have c:=uf s (mN n n);refine⟨_,i4,(QK t (jR n) _ _ m (f.ae b) c.1 (HZ n d) c.2 sp).mono ?_⟩;rintro v p ⟨rfl,rfl⟩;exact⟨_,i4,i4,g,b⟩
theorem Xy(a:f8)(s:Int)(n k:Nat)(h:g0)(E:bY h a 351 [xF xO s])(U:n<=64)(V:k<=n):
  an xP 205 #[xH (dB a),xF xL n,xF xL k] h λv h'=>∃r:Sl,v=r/\aa (λb=>b<h.size/\¬b=a.block) h h' [ac a 351 [xF xO (gT n s (upto n) k).1],af 3 r 1 ak (Fm s n k)]:=by
 refine ts Tryz.func205 ?_ (.two .n (.two (.join [] [(6,7),(12,27)] .n) (.two .n (.two (.two .n (.inn (.loop [(31,aQ)] [(8,9),(31,39)] .n))) (.two (.two .n (.inn (.loop [(40,aQ)] [(9,11),(40,65)] .n))) .n)))));refine aW (ag (λe=>i5) λ_=>ag (λe=>i5) λ_=>ag (λe=>i5) λ_=>ag (λe=>i5) λ_=>?_);have G:aa (λb=>b<h.size/\¬b=a.block) h h [ac a 351 [xF xO s]]:=.Wj (λb=>b=a.block) (λb o=>by rw[o];exact E.lt) ⟨E,i4⟩;refine G.make aj ak fN i6 0 i4 i4 n n i4 i4 (ql _) i5 λv S P R L=>?_;refine aq (λi:Nat=>(i:Int)) (λi h'=>i<=n/\aa (λb=>b<h.size/\¬b=a.block) h h' [ac a 351 [xF xO s],af 3 v 1 ak ((upto n).take i++qi (n-i) 0)]) (λi=>n-i) 0 i4 ⟨i5,by simpa using L⟩ ?_;rintro i T ⟨N,p⟩;refine ag (λe=>?_) (λe=>?_)
 ·have g:i<n:=i5
  refine p.set aj 1 i4 (λ_=>rfl) i4 i i4 (by simp[ik];omega) (i:Int) i4 i4 i4 λh3 f=>?_;refine⟨i+1,j1,⟨i5,?_⟩,i5⟩;have e2:((upto n).take i++qi (n-i) 0).set i (i:Int)=(upto n).take (i+1)++qi (n-(i+1)) 0:=by
   have q:i0 ((upto n).take i)=i:=by rw[qR,ik];omega
   rw[aD _ _ sz,qV _ _ i5,q,qW,show n-i=n-(i+1)+1 by omega,yl,zp];simp[upto]
  rw[<-e2];exact f
 ·have g:i=n:=i5
  subst g;have e2:(upto i).take i++qi (i-i) 0=upto i:=by rw[qg sz];simp
  rw[e2]at p;refine aq (λj:Nat=>(j:Int)) (λj h'=>j<=k/\aa (λb=>b<h.size/\¬b=a.block) h h' [ac a 351 [xF xO (gT i s (upto i) j).1],af 3 v 1 ak (gT i s (upto i) j).2]) (λj=>k-j) 0 i4 ⟨i5,p⟩ ?_;rintro j h3 ⟨O,f⟩;have B:=ug i s (upto i) j;rw[ik]at B;refine ag (λJ=>?_) (λJ=>?_)
  ·rw[ai _];have c:((i:Int)-(j:Int))=((i-j:Nat):Int):=i5
   rw[c];refine(Iz a _ _ h3 (f.box 0 i4)).mono ?_;rintro w F ⟨rfl,A,z⟩;have l:=f.tw 0 i4 z A;have K:=uf (gT i s (upto i) j).1 ((i-j:Nat):Int);refine⟨_,i4,?_⟩
   try dsimp only
   rw[ai _,ai _];have I:(j:Int)+mh (gT i s (upto i) j).1 ((i-j:Nat):Int)=((j+(mh (gT i s (upto i) j).1 ((i-j:Nat):Int)).toNat:Nat):Int):=i5
   have d:j+(mh (gT i s (upto i) j).1 ((i-j:Nat):Int)).toNat<(gT i s (upto i) j).2.length:=i5
   rw[I];have m:=l.seq 1 i4 λ_=>rfl;refine m.bt _ i4 d _ i4 ?_;refine m.bt j i4 i5 _ i4 ?_;refine l.set aj 1 i4 (λ_=>rfl) i4 j i4 i5 _ i4 i4 i4 λH y=>⟨trivial,?_⟩
   refine y.set aj 1 i4 (λ_=>rfl) i4 _ i4 m8 _ i4 i4 i4 λQ M=>⟨trivial,?_⟩
   refine⟨j+1,i4,⟨i5,?_⟩,i5⟩;rw[gT,rC,lr,lr,Qw.getD_lt d,Qw.getD_lt (show j<(gT i s (upto i) j).2.length by omega)];exact M
  ·have t:j=k:=i5
   subst t;refine⟨⟨i5,i5⟩,?_⟩;have u:=f.seq 1 i4 λ_=>rfl;refine(jL ⟨v.ptr,j,v.cap⟩ ((gT i s (upto i) j).2.take j) h3 (u.take j i5) p5).mono ?_;rintro w F ⟨r,rfl,l⟩;refine⟨r,i4,?_⟩;refine(Ed r _ F (l.own 0 i4) p5).mono ?_;rintro w H ⟨rfl,x,D⟩;have y:=(f.comp l).nr 2 i4 D x;exact⟨(),i4,r,i4,y.del 1⟩
theorem Ac(p:Pm)(seed id:Int)(h:g0):an xP 140 #[jW p,xF xN seed,xF xL id] h λv h'=>∃r:Sl,v=r/\Sp h h' [af 3 r 1 ak (if bJ p&&bW id then dD (bN p).toNat seed id else[])]:=by
 refine ts Tryz.func140 ?_ (.two .n (.two (.join [] [(6,7),(10,21)] .n) .n)) (args:=[p,(xF xN (seed:Int)),(id:Int)]);refine(Sp.refl h).boxed λa z F=>?_;refine aW ?_;refine⟨p,(F.box 0 i4).aF _ i4,(dZ p z).mono ?_⟩;rintro v s ⟨rfl,Q⟩;have j:=F.comp Q;have u:(bJ p&&bW id)=fz->Sp h s [af 3 ⟨eH,0,0⟩ 1 ak (if bJ p&&bW id then dD (bN p).toNat seed id else[])]:=λG=>by
  rw[G];exact(j.nil 3 1 ak).take 1 (λi A c=>by cases i with|zero=>exact c|succ i=>simp at c)
 refine⟨_,i4,aR (λe=>⟨⟨eH,0,0⟩,i4,u o8⟩) λw=>?_⟩;refine ag (λe=>⟨⟨eH,0,0⟩,i4,u l7⟩) λU=>?_;refine ag (λe=>⟨⟨eH,0,0⟩,i4,u l7⟩) λe2=>?_;have hid:bW id=eX:=l7
 rw[w,hid];refine⟨p,(j.box 0 i4).aF _ i4,(kp p s).mono ?_⟩;rintro v h3 ⟨rfl,L⟩;have H:=j.comp L;have P:=(bT p).1 w;have T:bN p=p.1+p.2.1:=by rw[bN,g9 w]
 obtain⟨n,S⟩:∃n:Nat,bN p=n:=⟨(bN p).toNat,i5⟩
 refine⟨_,i4,?_⟩
 try dsimp only
 rw[S,qj];refine(Mg _ h3).mono ?_;rintro v N ⟨d,rfl,E⟩;refine⟨dB d,i4,?_⟩;refine(Bd d _ N (E.box 0 i4)).mono ?_;rintro v I ⟨rfl,k,y⟩;have B:=E.tw 0 i4 y k;refine⟨_,i4,?_⟩;refine(UA n I i5 i5).mono ?_;rintro v K ⟨t,rfl,l⟩;have f:=B.comp l;refine⟨t,i4,?_⟩;have m:∀b,t.on b->b≠d.block:=λb x V=>by
  have z:=(l.fresh 0 i4).2 b x;have s:=(B.box 0 i4).lt;omega
 refine(FN t n d _ K ((l.own 0 i4).seq (λ_=>rfl) m) (f.box 0 i4) i5 i5).mono ?_;rintro v M ⟨rfl,o,g⟩;have D:=f.tw 0 i4 g o;refine⟨_,i4,?_⟩;refine(Xy d _ n _ M (D.box 0 i4) i5 (uh _ n i5 i5)).mono ?_;rintro v h8 ⟨r,rfl,J⟩;have R:=D.call 0 i4 (λb=>b=d.block) (λq O b x=>by rw[x];exact O.2) J;exact⟨r,i4,r,i4,((H.comp R).take 3 λi A c=>by cases i with|zero=>exact c|succ i=>simp at c)⟩
end Go.Qw
