/- Lemmas for the proof of the law; no condition. -/
import Derived.Test.YtcjnjifdphcijaaGreatDoorTTabS
import Derived.Test.YtcjnjifdphcijaaGreatDoorTShelfA
set_option maxHeartbeats 2000000
set_option linter.unusedVariables false
set_option linter.unusedSimpArgs false
open Go.Proofs.Tryz renaming prog -> xJ
open Go.Value renaming agg -> xE, bool -> xD, int -> xz, pointer -> xB, slice -> xA, string -> xC
open Go.IntKind renaming bits -> qG, i64 -> xF, signed -> y9, u32 -> xH, u64 -> xI, u8 -> xG, wrap -> qe
open Option renaming isSome_iff_exists -> vC, some -> zQ
open Int renaming fdiv -> zx, ofNat_inj -> xo, tdiv -> yn, tmod -> xq
open UInt8 renaming ofNat -> yH, ofNat_toNat -> yX, toNat_lt -> wZ
open List renaming exists_cons_of_length_eq_add_one -> yB, length -> vJ, length_zipWith -> y6, mem_of_getElem? -> w9, range -> qt, replicate -> qh
open BitVec renaming ofInt -> qN, ofNat -> wK
open Prod renaming fst -> qL, snd -> zH
open Go.Instr renaming fill -> wE, storeAt -> qE
set_option maxRecDepth 100000
open Option renaming some -> dB, none -> eH
open Bool renaming true -> eR, false -> eS
open Go renaming Addr -> f7
open Go.Qw renaming cellOf -> f8, Heap -> f9
open List renaming length -> i0
namespace Go.Qw
open Go.Proofs
abbrev Cells:=bY
abbrev powC(w:Pow)(l:Int):aR:=[xD w.off,xD w.fuse.isSome,xz xF l,xz xF w.offs]
def GV(w:Pow)(l:Int):Prop:=∀k,w.fuse=dB k->l=k/\k<2^62
def dc(t:Nat)(a:f7)(w:Pow):HP:=HP.ex λl:Int=>(av a t (powC w l)).and (GV w l)
variable {B:ak} {h0 h h':f9} {As:List HP} {t:Nat} {a:f7} {w:Pow}
theorem aa.Ag(H:aa B h0 h (dc t a w::As)):∃l,GV w l/\aa B h0 h (av a t (powC w l)::As):=by obtain⟨l,H⟩:=H.pR;obtain⟨H,b⟩:=H.Fp;exact⟨l,b,H⟩
theorem aa.FJ{l:Int}(b:GV w l)(H:aa B h0 h (av a t (powC w l)::As)):aa B h0 h (dc t a w::As):=
 (H.toFp b).td (F:=λl:Int=>(av a t (powC w l)).and (GV w l)) l
theorem Ew(l:Int)(b:bT h a 118 (powC w l)):ai xJ 66 #[xB (dB a)] h λv h'=>v=xD (!w.off)/\h'=h:=by refine ts Tryz.func66 ?_;exact bc (λ_=>⟨a,i4,w.off,b.cell0 i4,i4,i4⟩) λe=>j1
theorem JT(l:Int)(b:bT h a 118 (powC w l)):ai xJ 74 #[xB (dB a)] h λv h'=>v=xz xF w.offs/\h'=h:=by refine ts Tryz.func74 ?_;exact bc (λe=>j1) λ_=>⟨a,i4,w.offs,b.cell i4,i4,i4⟩
theorem Vq(h:f9):ai xJ 29 #[] h λv h'=>∃a,v=xB (dB a)/\Sp h h' [dc 118 a Pow.new]:=by refine ts Tryz.func29 ?_;refine(Sp.refl h).boxed λa c b=>⟨a,i4,aa.FJ (l:=0) (w:=Pow.new) (λk e=>j1) b⟩
theorem CZ(H:aa B h0 h (dc 118 a w::As)):ai xJ 182 #[xB (dB a)] h λv h'=>v=xD w.step.1/\aa B h0 h' (dc 118 a w.step.2::As):=by
 obtain⟨l,s,c⟩:=H.Ag;refine ts Tryz.func182 ?_;refine(Ew l (c.box 0 i4)).mono ?_;rintro _ t ⟨rfl,rfl⟩;refine⟨_,i4,aU (λe=>?_) λe=>?_⟩
 ·have:w.step=(eS,w):=by unfold Pow.step;rw[g0 mn]
  rw[this];exact⟨i4,H⟩
 have g:w.off=eS:=mn
 refine⟨a,i4,_,(c.box 0 i4).cell i4,aU (λe2=>?_) λe2=>?_⟩
 ·have:w.step=(eR,w):=by
   unfold Pow.step;rw[g9 o1];cases d:w.fuse with
   |none=>rfl
   |some k=>rw[d]at e2;cases e2
  rw[this];exact⟨i4,H⟩
 obtain⟨k,d⟩:∃k,w.fuse=dB k:=vC.1 e2;obtain⟨rfl,u⟩:=s k d;have o:powC w (k:Int)=[xD eS,xD eR,xz xF k,xz xF w.offs]:=by simp[powC,g,d]
 rw[o]at c;refine⟨a,i4,_,(c.box 0 i4).cell i4,bf (λq=>?_) λq=>?_⟩
 ·have i:k=0:=i5
  subst i;have m:w.step=(eS,⟨eR,dB 0,qe xF (w.offs+1)⟩):=by unfold Pow.step;rw[g9 o1,d]
  rw[m];refine⟨a,i4,c.gA ag 0 i4 i4 [xD eR] i4 i4 i4 jj λx n=>?_⟩;refine⟨a,i4,w.offs,(n.box 0 i4).cell i4,a,i4,n.store ag 0 i4 i4 3 [xz xF (qe xF (w.offs+1))] i4 i4 i4 (by simp[powC]) λh3 f=>⟨i4,?_⟩⟩;refine aa.FJ (l:=((0:Nat):Int)) (λp b=>by cases b;exact⟨i4,i6⟩) ?_;exact f
 ·obtain⟨j,rfl⟩:∃j,k=j+1:=⟨k-1,i5⟩
  have m:w.step=(eR,⟨eS,dB j,w.offs⟩):=by unfold Pow.step;rw[g9 o1,d]
  rw[m];refine⟨a,i4,_,(c.box 0 i4).cell i4,a,i4,c.store ag 0 i4 i4 2 [xz xF (qe xF (((j+1:Nat):Int)-1))] i4 i4 i4 (by simp[powC]) λh3 f=>⟨i4,?_⟩⟩;refine aa.FJ (l:=(j:Int)) (λp b=>by cases b;exact⟨i4,i5⟩) ?_;rw[af _]at f;have r:((j+1:Nat):Int)-1=(j:Int):=i5
  rw[r]at f;exact f
abbrev Pm:=Int×Int×Int
abbrev jv(p:Pm):Value:=xE #[xz xF p.1,xz xF p.2.1,xz xF p.2.2]
theorem dO(p:Pm)(h:f9):ai xJ 73 #[jv p] h λv h'=>v=xD (bx p)/\Sp h h' []:=by refine ts Tryz.func73 ?_ (args:=[p]);refine(Sp.refl h).boxed λa d g=>?_;have e:=g.box 0 i4;have c:Sp h d []:=.zip g.ac;have f:f8 d a=dB (xz xF p.1):=e.cell0 i4;have i:f8 d (a.add 1)=dB (xz xF p.2.1):=e.cell i4;have j:f8 d (a.add 2)=dB (xz xF p.2.2):=e.cell i4;unfold bx;refine⟨_,f,ae (λb=>?_) λb=>⟨p8,c⟩⟩;rw[hU b];refine⟨_,f,ae (λb=>?_) λb=>⟨p8,c⟩⟩;rw[hU b];refine⟨_,i,ae (λb=>?_) λb=>⟨p8,c⟩⟩;rw[hU b];refine⟨_,i,ae (λb=>?_) λb=>⟨p8,c⟩⟩;rw[hU b];refine⟨_,j,ae (λb=>?_) λb=>⟨p8,c⟩⟩;rw[hU b];exact⟨_,j,i4,c⟩
abbrev gy:bO C.toxZ 22 3 1 [xz xF 0] 8:=⟨_,_,i4,i4,i4,i4,i4,i4⟩
abbrev gp:bO C.toxZ 34 5 1 [xz xG 0] 1:=⟨_,_,i4,i4,i4,i4,i4,i4⟩
abbrev fu:bO C.toxZ 53 34 1 [xA eH 0 0] 24:=⟨_,_,i4,i4,i4,i4,i4,i4⟩
theorem jC(s:Sl)(l:au)(h:f9)(a:Rd h s 1 az l)(f:i0 l<=2^30):ai xJ 94 #[s] h λv h'=>∃r:Sl,v=r/\Sp h h' [an 3 r 1 az l]:=by
 refine ts Tryz.func94 ?_;refine bc (λe=>?_) (λe=>?_)
 ·have:=a.isNil e;subst this;exact⟨⟨eH,0,0⟩,i4,(Sp.refl h).nil 3 1 az⟩
 ·refine(Sp.refl h).lit ag az gy i4 [] i4 i6 i4 λg j b=>?_;refine b.append ag 0 i4 gy ⟨_,_,i4,i4⟩ i4 i6 (λ_=>rfl) (a.up b.ac) fx i9 λd i c=>⟨d,i4,c⟩
theorem eK(s:Sl)(l:aM)(h:f9)(a:Rd h s 1 aB l)(f:i0 l<=2^30):ai xJ 124 #[s] h λv h'=>∃r:Sl,v=r/\Sp h h' [an 5 r 1 aB l]:=by
 refine ts Tryz.func124 ?_;refine bc (λe=>?_) (λe=>?_)
 ·have:=a.isNil e;subst this;exact⟨⟨eH,0,0⟩,i4,(Sp.refl h).nil 5 1 aB⟩
 ·refine(Sp.refl h).lit ag aB gp i4 [] i4 i6 i4 λg j b=>?_;refine b.append ag 0 i4 gp ⟨_,_,i4,i4⟩ i4 i6 (λ_=>rfl) (a.up b.ac) gJ i9 λd i c=>⟨d,i4,c⟩
theorem Da{e:TypeId}(s:Sl)(l:au)(h:f9)(c:Own h e s 1 az l)(a:i0 l<2^40):ai xJ 46 #[s] h λv h'=>v=.tuple #[]/\Own h' e s 1 az (iA l)/\aP (λb=>¬s.on b) h h':=
 LW Tryz.slices_Sort_int Tryz.slices_Sort_int_none c a
theorem bQ(x n:Int)(h:f9)(c:0<n:=by decide)(f:n<=2^62:=by decide):ai xJ 7 #[xz xF x,xz xF n] h λv h'=>v=xz xF (x%n)/\h'=h:=by
 refine ts Tryz.func7 ?_ (.two .n (.two .n (.two (.join [(0,aT)] [(0,1),(8,13)] .n) .n)));have g:=vF x c;have e:-n<x.tmod n:=Int.lt_tmod_of_pos x c;have d:=LN x n c;refine⟨i5,aO ?_⟩;refine ae (λb=>?_) (λa=>?_)
 ·rw[af _];exact⟨by rw[d,g0 b],i4⟩
 ·exact⟨by rw[d,g9 a],i4⟩
theorem SG{p q:ak}(a b:Sl)(c g:Row)(h:f9)(s:Seq h p a 1 aB c)(r:Seq h q b 1 aB g)(y:i0 c<=2^40):
  ai xJ 11 #[a,b] h λv h'=>v=xD (decide (c=g))/\h'=h:=by
 refine ts Tryz.func11 ?_ (.two .n (.two .n (.two (.two .n (.inn (.loop [(13,aT)] [(4,6),(13,26)] .n))) .n)));have m:=s.len;have o:=r.len;refine bz (λd=>⟨?_,i4⟩) (λl=>?_)
 ·rw[hZ λe=>d (by rw[m,o,e])]
 ·refine aq (λk:Nat=>(k:Int)) (λk h'=>h'=h/\k<=i0 c/\c.take k=g.take k) (λk=>i0 c-k) 0 i4 ⟨i4,i5,jj⟩ ?_;rintro k h' ⟨rfl,x,j⟩;refine ae (λu=>?_) (λw=>?_)
  ·have i:k<i0 c:=i5
   have f:k<i0 g:=i5
   refine s.bo k i4 i _ i4 ?_;refine r.bo k i4 f _ i4 ?_;refine bz (λd=>⟨?_,i4⟩) (λl=>?_)
   ·rw[hZ];intro e;subst e;exact d i4
   ·rw[af _];have t:c[k]=g[k]:=wy.1 i5;exact⟨k+1,jj,⟨i4,i5,by rw[aD _ _ i,aD _ _ f,j,t]⟩,i5⟩
  ·have:k=i0 c:=i5
   subst this;rw[qg i5,qg i5]at j;exact⟨by rw[hU j],i4⟩
structure im (d:aW):Prop where
 wait:d.wait<=i0 d.l
 len:i0 d.l<=d.room
 room:d.room<=512
 cell:∀c∈d.l,i0 c=64
 laid:i0 d.laid<=d.room
 cellL:∀c∈d.laid,i0 c=64
variable {d:aW} {b:aM}
theorem im.new{n:Nat}(h:n<=512):im (aW.new n):=⟨qk _,zB _,h,by simp[aW.new],zB _,by simp[aW.new]⟩
theorem im.rewrite{l:bY}(h:im d):im (d.rewrite w l).2.2:=by
 obtain⟨e,a,h3,b,f,g⟩:=h;unfold aW.rewrite;split
 ·exact⟨e,a,h3,b,f,g⟩
 ·rename_i i;have i:∀c∈l,i0 c=64:=sR
  split
  ·exact⟨e,a,h3,b,f,g⟩
  ·split
   ·exact⟨e,a,h3,b,f,g⟩
   ·split
    ·exact⟨e,a,h3,b,f,g⟩
    ·split
     ·exact⟨zB _,i7,h3,i,zB _,jj⟩
     ·exact⟨e,a,h3,b,i7,i⟩
abbrev fP(s:Sl)(l:Cells):HP:=fo 34 s 5 1 aB l
def ie(t:Nat)(f:aW->Sl->Sl->aR)(a:f7)(d:aW):HP:=
 (HP.ex λb:Sl×Sl=>(av a t (f d b.1 b.2)).sep ((fP b.1 d.l).sep (fP b.2 d.laid))).and (im d)
variable {f:aW->Sl->Sl->aR}
theorem aa.oI(H:aa B h0 h (ie t f a d::As)):im d/\∃s b:Sl,aa B h0 h (av a t (f d s b)::fP s d.l::fP b d.laid::As):=by obtain⟨H,ok⟩:=H.Fp;obtain⟨c,H⟩:=H.pR;exact⟨ok,c.1,c.2,H.rn.rn.aK 3 [2,1,0]⟩
theorem aa.tK{s b:Sl}(ok:im d)(H:aa B h0 h (av a t (f d s b)::fP s d.l::fP b d.laid::As)):aa B h0 h (ie t f a d::As):=
 ((((H.aK 3 [2,1,0]).lq).lq).td (F:=λc:Sl×Sl=>(av a t (f d c.1 c.2)).sep ((fP c.1 d.l).sep (fP c.2 d.laid))) (s,b)).toFp ok
abbrev fk(pw:f7)(d:aW)(s b:Sl):aR:=[xB (dB pw),xz xF d.room,s,xz xF d.wait,b,xD d.has,xD d.lost]
abbrev iT(pw a:f7)(d:aW):HP:=ie 155 (fk pw) a d
section
variable {pw:f7}
theorem GW(n:Int)(pw:f7)(h:f9):ai xJ 44 #[xz xF n,xB (dB pw)] h λv h'=>
  (1<=n/\n<=512->∃a,v=xB (dB a)/\Sp h h' [iT pw a (aW.new n.toNat)])/\(¬(1<=n/\n<=512)->v=xB eH/\Sp h h' []):=by
 refine ts Tryz.func44 ?_ (.two .n (.two (.join [] [(4,15)] .n) .n));refine aO (ae (λe=>⟨λc=>absurd c i5,λ_=>⟨i4,Sp.refl h⟩⟩) λg=>ae (λe=>⟨λc=>absurd c i5,λ_=>⟨i4,Sp.refl h⟩⟩) λe2=>bc (λe=>j1) λ_=>?_);refine(Sp.refl h).boxed λa i f=>⟨λ_=>⟨a,i4,?_⟩,λc=>absurd i5 c⟩
 refine aa.tK (s:=⟨eH,0,0⟩) (b:=⟨eH,0,0⟩) (im.new i5) ?_;have e:((n.toNat:Nat):Int)=n:=i5
 have d:=((f.te 34 5 1 aB).te 34 5 1 aB).aK 3 [2,1,0];have e2:fk pw (aW.new n.toNat) ⟨eH,0,0⟩ ⟨eH,0,0⟩=[xB (dB pw),xz xF n,xA eH 0 0,xz xF 0,xA eH 0 0,xD eS,xD eS]:=by simp only[fk,aW.new,e];rfl
 rw[e2];exact d
theorem Db(s b:Sl)(c:aW)(H:aa B h0 h (av a 155 (fk pw d s b)::fP s d.l::fP b d.laid::dc 118 pw w::As))(ok:im d)(g:c={d with laid:=[],has:=eS}):
  ai xJ 184 #[xB (dB a)] h λv h'=>v=xz xF 0/\aa B h0 h' (iT pw a c::dc 118 pw w::As):=by
 refine ts Tryz.func184 ?_;refine⟨a,i4,H.store ag 0 i4 i4 4 [xA eH 0 0] i4 i4 i4 ln λi e=>?_⟩;refine⟨a,i4,e.store ag 0 i4 i4 5 [xD eS] i4 i4 i4 ln λh3 f=>⟨i4,?_⟩⟩;subst g;refine aa.tK (s:=s) (b:=⟨eH,0,0⟩) ⟨ok.wait,ok.len,ok.room,ok.cell,zB _,jj⟩ ?_;exact((f.te 34 5 1 aB).aK 5 [1,2,0,4])
theorem EQ(x:Sl)(row:aM)(H:aa B h0 h (iT pw a d::dc 118 pw w::As))(P:Rd h x 1 aB row)(hr:i0 row<=2^20):
  ai xJ 116 #[xB (dB a),x] h λv h'=>v=xz xF (d.append w row).1/\aa B h0 h' (iT pw a (d.append w row).2.2::dc 118 pw (d.append w row).2.1::As):=by
 refine ts Tryz.func116 ?_ (.two .n (.two (.join [] [(4,36)] (.inn (.two .n (.two .n (.two (.join [(9,nV)] [(9,18)] .n) .n))))) (.two (.join [] [(36,47)] .n) .n)));have W:=P.len;obtain⟨ok,s,b,E⟩:=H.oI;have p:=E.box 0 i4;obtain⟨X,_⟩:=aa.th (E.aK 4 [1]);have J:=ok.room;have O:=ok.len;have N:=ok.wait;have g:∀(e:Int),d.append w row=(e,w,d)->(Value.int .i64 e=xz xF (d.append w row).1/\aa B h0 h (iT pw a (d.append w row).2.2::dc 118 pw (d.append w row).2.1::As)):=λe S=>by
  rw[S];exact⟨i4,H⟩
 refine aO (bz (λe=>g 1 (by unfold aW.append;rw[g0 i5])) λT=>?_);have t:i0 row=64:=i5
 refine aO (bc (λe=>j1) λ_=>⟨a,i4,d.lost,p.cell i4,bc (λe=>g 5 ?_) λf=>?_⟩)
 ·unfold aW.append;rw[g9 i5,g0 e]
 refine⟨a,i4,s,p.cell i4,a,i4,(d.room:Int),p.cell i4,ae (λe=>g 7 ?_) λK=>?_⟩
 ·unfold aW.append;rw[g9 i5,g9 p0,g0 i5]
 obtain⟨l,hl,L⟩:=(E.aK 4 [3,0,1,2]).Ag;refine⟨a,i4,dB pw,p.cell0 i4,(Ew l (L.box 0 i4)).mono ?_⟩;rintro _ Y ⟨rfl,rfl⟩;refine⟨_,i4,aU (λe=>g 14 ?_) λu=>?_⟩
 ·unfold aW.append;rw[g9 i5,g9 p0,g9 i5,g0 mn]
 have j:w.off=eS:=o9
 refine aO ⟨a,i4,s,p.cell i4,(eK x row Y P i5).mono ?_⟩;rintro _ h4 ⟨r,rfl,U⟩;have F:=(E.bR U).aK 5 [2,0,1,3,4];have o:=F.box 2 i4;refine⟨r,i4,⟨o.cell i4,trivial⟩,?_⟩;have V:=F;refine F.nN ag bi fu i4 [r] i4 (show 1*1<=2^20 by decide) i4 ⟨o.cell i4,trivial⟩ ?_;refine F.AJ ag fu i5 λD h6 G=>⟨trivial,?_⟩
 have G:=G.aK 4 [1,0,2,3];refine⟨a,i4,G.store ag 0 i4 i4 2 [D] i4 i4 i4 ln λh7 Q=>⟨trivial,?_⟩⟩;have M:=Q.box 0 i4;refine⟨a,i4,(d.wait:Int),M.cell i4,a,i4,?_⟩;rw[af ((d.wait:Int)+1)];refine Q.store ag 0 i4 i4 3 [xz xF ((d.wait:Int)+1)] i4 i4 i4 ln λh8 R=>?_;obtain⟨i,k⟩:∃i:aW,i={d with l:=d.l++[row],wait:=d.wait+1}:=⟨_,rfl⟩
 have z:im i:=by
  subst k;refine⟨i9,i9,ok.room,λc m=>?_,ok.laid,ok.cellL⟩;rcases qw.1 m with m|m
  ·exact ok.cell c m
  ·rw[qx.1 m];exact t
 have y:aa B h0 h8 (av a 155 (fk pw i D b)::fP D i.l::fP b i.laid::dc 118 pw w::As):=by rw[k];exact R
 refine⟨a,i4,dB pw,(y.box 0 i4).cell0 i4,(CZ (y.aK 4 [3,0,1,2])).mono ?_⟩;rintro _ h9 ⟨rfl,A⟩;have A:=A.aK 4 [1,2,3,0];have q:d.append w row=if w.step.1 then(0,w.step.2,{i with laid:=[],has:=eS})else(14,w.step.2,i):=by rw[k];unfold aW.append;rw[g9 i5,g9 p0,g9 i5,g9 (by simp[j])]
 rw[q];refine⟨_,i4,aU (λe=>?_) λe=>?_⟩
 ·rw[e];exact⟨i4,A.tK z⟩
 ·rw[e];refine(Db D b _ A z i4).mono ?_;rintro _ Z ⟨rfl,I⟩;exact⟨0,i4,i4,I⟩
theorem IR(x:Sl)(row:aM)(h:f9)(a:Rd h x 1 aB row):ai xJ 116 #[xB eH,x] h λv h'=>v=xz xF (if row.length≠64 then 1 else 5)/\h'=h:=by refine ts Tryz.func116 ?_ (.two .n (.two (.join [] [(4,36)] (.inn (.two .n (.two .n (.two (.join [(9,nV)] [(9,18)] .n) .n))))) (.two (.join [] [(36,47)] .n) .n)));have b:=a.len;refine aO (bz (λe=>⟨by rw[g0 i5],i4⟩) λe=>?_);exact aO (bc (λ_=>⟨by rw[g9 i5],i4⟩) λe=>j1)
theorem Vr(H:aa B h0 h (iT pw a d::dc 118 pw w::As)):
  ai xJ 187 #[xB (dB a)] h λv h'=>v=xz xF (d.sync w).1/\aa B h0 h' (iT pw a (d.sync w).2.2::dc 118 pw (d.sync w).2.1::As):=by
 refine ts Tryz.func187 ?_ (.two .n (.two (.join [] [(2,11)] .n) .n));obtain⟨ok,s,b,j⟩:=H.oI;have i:=j.box 0 i4;refine aO (bc (λe=>j1) λ_=>⟨a,i4,d.lost,i.cell i4,bc (λe=>?_) λc=>?_⟩)
 ·have:d.sync w=(5,w,d):=by unfold aW.sync;rw[g0 e]
  rw[this];exact⟨i4,H⟩
 refine⟨a,i4,dB pw,i.cell0 i4,(CZ (j.aK 4 [3,0,1,2])).mono ?_⟩;rintro _ o ⟨rfl,g⟩;have g:=g.aK 4 [1,2,3,0];have f:d.sync w=if w.step.1 then(0,w.step.2,{{d with wait:=0}with laid:=[],has:=eS})else(14,w.step.2,d):=by unfold aW.sync;rw[g9 l5]
 rw[f];refine⟨_,i4,aU (λe=>?_) λe=>?_⟩
 ·rw[e];exact⟨i4,g.tK ok⟩
 ·rw[e];refine⟨a,i4,g.store ag 0 i4 i4 3 [xz xF 0] i4 i4 i4 ln λh3 k=>?_⟩;refine(Db (d:={d with wait:=0}) s b _ k ⟨zB _,ok.len,ok.room,ok.cell,ok.laid,ok.cellL⟩ rfl).mono ?_;rintro _ m ⟨rfl,l⟩;exact⟨0,i4,i4,l⟩
theorem ML(h:f9):ai xJ 187 #[xB eH] h λv h'=>v=xz xF 5/\h'=h:=by refine ts Tryz.func187 ?_ (.two .n (.two (.join [] [(2,11)] .n) .n));exact aO (bc (λ_=>⟨i4,i4⟩) λe=>j1)
theorem iT.box(H:aa B h0 h (iT pw a d::As)):∃s b:Sl,bT h a 155 (fk pw d s b)/\fA h s 1 aB d.l/\s.len=i0 d.l:=by obtain⟨ok,s,b,c⟩:=H.oI;exact⟨s,b,c.box 0 i4,(c.aK 3 [1]).BJ λ_=>rfl,(aa.th (c.aK 3 [1])).1⟩
theorem Vs(s b:Sl)(c:bT h a 155 (fk pw d s b)):ai xJ 181 #[xB (dB a)] h λv h'=>v=xz xF d.room/\h'=h:=by refine ts Tryz.func181 ?_;exact bc (λe=>j1) λ_=>⟨a,i4,_,c.cell i4,i4,i4⟩
theorem JU(s b:Sl)(f:bT h a 155 (fk pw d s b))(c:s.len=i0 d.l):ai xJ 113 #[xB (dB a)] h λv h'=>v=xz xF (i0 d.l:Int)/\h'=h:=by refine ts Tryz.func113 ?_;exact bc (λe=>j1) λ_=>⟨a,i4,_,f.cell i4,by rw[c],i4⟩
theorem Dc(s b:Sl)(c:bT h a 155 (fk pw d s b)):ai xJ 108 #[xB (dB a)] h λv h'=>v=xD d.lost/\h'=h:=by refine ts Tryz.func108 ?_;exact bc (λ_=>⟨a,i4,_,c.cell i4,i4,i4⟩) λe=>j1
theorem Vt(s b:Sl)(i:Int)(j:bT h a 155 (fk pw d s b))(m:fA h s 1 aB d.l)(o:∀c∈d.l,i0 c=64):ai xJ 64 #[xB (dB a),xz xF i] h λv h'=>∃r:Sl,v=r/\Sp h h' [an 5 r 1 aB (if 0<=i then d.l.getD i.toNat []else[])]:=by
 refine ts Tryz.func64 ?_ (.two .n (.two (.join [] [(4,20)] .n) .n));have t:=m.len;have f:(if 0<=i then d.l.getD i.toNat []else[])=[]->∃r:Sl,Value.slice eH 0 0=xA r.ptr r.len r.cap/\Sp h h [an 5 r 1 aB (if 0<=i then d.l.getD i.toNat []else[])]:=λe=>by
  rw[e];exact⟨⟨eH,0,0⟩,i4,(Sp.refl h).nil 5 1 aB⟩
 refine aO (bc (λe=>j1) λ_=>ae (λe=>f (by rw[g9 i5])) λu=>⟨a,i4,s,j.cell i4,ae (λe=>f ?_) λe2=>?_⟩)
 ·rw[g0 i5,qd,qM i5];rfl
 ·refine⟨a,i4,s,j.cell i4,m.get i.toNat i5 i5 λr q=>?_⟩;have g:i.toNat<i0 d.l:=i5
  have:=o _ (qf g);refine(eK r _ h q i5).mono ?_;rintro _ w ⟨k,rfl,p⟩;rw[g0 i5,getD_lt g];exact⟨k,i4,k,i4,p⟩
theorem FK(l:Sl)(a:Cells)(h:f9)(f:fA h l 1 aB a)(w:i0 a<=2^20)(g:∀c∈a,i0 c<=2^20):ai xJ 183 #[l] h λv h'=>∃r:Sl,v=r/\Sp h h' [fP r a]:=by
 refine ts Tryz.func183 ?_ (.two .n (.two .n (.two (.two .n (.inn (.loop [(3,cF),(8,aT)] [(3,4),(5,6),(8,18)] .n))) .n)));have o:=f.len;refine aq (λt:Sl×Nat=>(t.1,(t.2:Int))) (λt h'=>t.2<=i0 a/\Sp h h' [fP t.1 (a.take t.2)]) (λt=>i0 a-t.2) (⟨eH,0,0⟩,0) i4 ⟨jj,by simpa using(Sp.refl h).te 34 5 1 aB⟩ ?_;rintro⟨s,i⟩ k ⟨x,d⟩;dsimp only at*;refine ae (λe=>?_) (λe=>?_)
 ·have b:i<i0 a:=i5
  refine(f.up d.ac).get i i4 b λr j=>?_;have:=g _ (qf b);refine(eK r _ k j i5).mono ?_;rintro _ y ⟨q,rfl,m⟩;refine⟨q,i4,?_⟩;refine aa.AJ ag (d.comp m) fu i9 λp h3 u=>?_;refine⟨(p,i+1),js,⟨i7,?_⟩,i7⟩
  try dsimp only
  rw[aD _ _ b];exact u
 ·rw[qg i5]at d;exact⟨s,i4,d⟩
theorem FL(s b:Sl)(i:bT h a 155 (fk pw d s b))(f:fA h s 1 aB d.l)(ok:im d):ai xJ 120 #[xB (dB a)] h λv h'=>∃r:Sl,v=r/\Sp h h' [fP r d.l]:=by
 refine ts Tryz.func120 ?_;have:=ok.len;have:=ok.room;refine bc (λe=>j1) λ_=>⟨a,i4,s,i.cell i4,(FK s d.l h f i5 λc g=>by rw[ok.cell c g];decide).mono ?_⟩
 rintro _ k ⟨r,rfl,j⟩;exact⟨r,i4,r,i4,j⟩
end
theorem YC(b:Sl)(l:aM)(h:f9)(p:Rd h b 1 aB l)(D:i0 l<=2^40):ai xJ 191 #[b] h λv h'=>v=xz xH (lK l).toNat/\h'=h:=by
 refine ts Tryz.func191 ?_ (.two .n (.two .n (.two (.two .n (.inn (.loop [(3,(.sc (.int .u32))),(9,aT)] [(3,4),(5,7),(9,29)] (.two .n (.two .n (.two (.inn (.two .n (.two .n (.two .n (.inn (.loop [(3,(.sc (.int .u32))),(17,aT)] [(3,4),(6,7),(17,28)] .n)))))) .n)))))) .n)));have E:=p.len;refine aq (λt:Nat=>(((kI (l.take t)).toNat:Int),(t:Int))) (λt h'=>t<=i0 l/\h'=h) (λt=>i0 l-t) 0 i4 ⟨i5,i4⟩ ?_;rintro i u ⟨A,rfl⟩;refine ae (λe=>?_) (λe=>?_)
 ·have d:i<i0 l:=by have w:(i:Int)<(b.len:Int):=e;omega
  refine p.bo i i4 d (l[i].toNat:Int) i4 ?_;have r:qe xH (l[i].toNat:Int)=((wK 32 l[i].toNat).toNat:Int):=by rw[Jy,w8]
  rw[r,RX];refine aq (λk:Nat=>(((dV k (kI (l.take i)^^^wK 32 l[i].toNat)).toNat:Int),(k:Int))) (λk h'=>k<=8/\h'=u) (λk=>8-k) 0 i4 ⟨i5,i4⟩ ?_;rintro k q ⟨B,rfl⟩;obtain⟨c,g⟩:∃c,c=dV k (kI (l.take i)^^^wK 32 l[i].toNat):=⟨_,rfl⟩
  try dsimp only
  rw[<-g];refine ae (λe2=>⟨i6,?_⟩) (λe2=>?_)
  ·have a:∀n:jq,n=jI c->∃f:Nat,(((n.toNat:Nat):Int),qe xF ((k:Int)+1))=(((dV f (kI (l.take i)^^^wK 32 l[i].toNat)).toNat:Int),(f:Int))/\(f<=8/\q=q)/\8-f<8-k:=λn s=>
    ⟨k+1,by rw[af _,s,g];rfl,⟨i5,i4⟩,i5⟩
   have x:qe xH ((qN (qG xH) (c.toNat:Int)&&&qN (qG xH) (1:Int)).toNat:Nat)=((c&&&1#32).toNat:Int):=aeN c 1#32;have y:qe xH ((qN (qG xH) ((c>>>1).toNat:Int)^^^qN (qG xH) (3988292384:Int)).toNat:Nat)=(((c>>>1)^^^3988292384#32).toNat:Int):=RX (c>>>1) 3988292384#32;rw[x,abl,y];refine bf (λo=>a _ ?_) (λo=>a _ ?_)
   ·unfold jI;rw[g0 ((Qp c).1 o)]
   ·unfold jI;rw[g9 λz=>o ((Qp c).2 z)]
  ·have j:k=8:=i5
   subst j;refine⟨i+1,?_,⟨i5,i4⟩,i5⟩;rw[af _,aD _ _ d,RW,g];rfl
 ·have m:i=i0 l:=by have w:¬(i:Int)<(b.len:Int):=e;omega
  subst m;refine⟨?_,i4⟩;rw[qU];exact congrArg (Value.int .u32) (RX 4294967295#32 (kI l))
theorem Dd(kind:Int)(d:Sl)(l:aM)(h:f9)(x:Rd h d 1 aB l)(R:i0 l<=2^40:=by omega):ai xJ 125 #[xz xF kind,d] h λv h'=>∃r:Sl,v=r/\Sp h h' [an 5 r 1 aB (dL kind l)]:=by
 refine ts Tryz.func125 ?_ (.two .n (.two (.join [] [(4,5),(8,19)] .n) (.two .n (.two .n (.two .n (.two .n (.two (.two .n (.inn (.loop [(32,aT)] [(7,8),(32,45)] .n))) .n)))))));have S:=x.len;have f:¬(1<=kind/\kind<=255/\l.length<=55)->∃r:Sl,Value.slice eH 0 0=xA r.ptr r.len r.cap/\Sp h h [an 5 r 1 aB (dL kind l)]:=λe=>by
  unfold dL;rw[g9 e];exact⟨⟨eH,0,0⟩,i4,(Sp.refl h).nil 5 1 aB⟩
 refine aO (ae (λe=>f i5) λN=>ae (λe=>f i5) λe2=>ae (λe=>f i5) λP=>?_);refine(Sp.refl h).make ag aB gp i6 0 i4 i4 64 64 i4 i4 (qk _) i6 λo B q s I=>?_;rw[dU];refine I.lit ag aB gp i4 [87,115,1,b8 kind] i4 (show 4*1<=2^20 by decide) i4 λv3 h3 A=>?_;refine A.GB ag 0 i4 gp (λ_=>rfl) (A.seq 1 i4 λ_=>rfl) gJ λ_ k j=>⟨⟨i6,by rw[q];decide⟩,?_⟩
 have j:Sp h k [an 5 o 1 aB ([87,115,1,b8 kind]++qh 60 0)]:=by have:=j.bX [0];simpa using this
 refine j.Ma ag 0 i4 gp (λ_=>rfl) (Seq.up x j.ac) gJ 4 jj i4 i4 λ_ y u=>⟨⟨i6,by rw[s];decide⟩,?_⟩
 have K:([87,115,1,b8 kind]++qh 60 0).take 4++(l.take (i0 ([87,115,1,b8 kind]++qh 60 (0:UInt8))-4)++([87,115,1,b8 kind]++qh 60 0).drop (4+i0 l))=dK kind l++qh 5 0:=by
  have H:i0 ([87,115,1,b8 kind]++qh 60 (0:UInt8))=64:=jj
  rw[H,qg (l:=l) i5,<-zE];have B:([87,115,1,b8 kind]++qh 60 (0:UInt8)).drop 4=qh 60 0:=rfl;have h3:([87,115,1,b8 kind]++qh 60 (0:UInt8)).take 4=[87,115,1,b8 kind]:=rfl;rw[B,h3,List.drop_replicate];unfold dK;have k:qh (60-i0 l) (0:UInt8)=qh (55-i0 l) 0++qh 5 0:=by rw[List.replicate_append_replicate];congr 1;omega
  rw[k];simp[qn]
 rw[K]at u;have a:i0 (dK kind l)=59:=tv i5;have G:Rd y ⟨o.ptr,59,o.cap⟩ 1 aB (dK kind l):=by have:=(u.seq 0 i4 λ_=>rfl).take 59 m6;rw[zW i5,qg i5]at this;exact this
 refine(YC ⟨o.ptr,59,o.cap⟩ (dK kind l) y G i5).mono ?_;rintro _ M ⟨rfl,rfl⟩;obtain⟨c,w⟩:∃c,c=lK (dK kind l):=⟨_,rfl⟩
 rw[<-w];refine⟨_,i4,?_⟩;refine aq (λi:Nat=>(i:Int)) (λi h'=>i<=4/\Sp h h' [an 5 o 1 aB (dK kind l++((kP c).take i++qh (5-i) 0))]) (λi=>4-i) 0 i4 ⟨i5,o9⟩ ?_;rintro i O ⟨Q,z⟩;have b:=AM c;refine ae (λe=>?_) (λe=>?_)
 ·have L:i<4:=by have J:(i:Int)<4:=e;omega
  rw[af ((8:Int)*i),af ((59:Int)+i)];refine⟨i5,?_⟩;have D:((8:Int)*(i:Int)).toNat=8*i:=i5
  have E:min (8*i) (qG xH)=8*i:=by have:qG xH=32:=rfl;omega
  rw[D,E,dU];have F:b8 (zx (c.toNat:Int) (2^(8*i)))=(kP c)[i]'(by omega):=by simp[kP]
  rw[F];refine z.set ag 0 i4 (λ_=>rfl) i4 (59+i) i5 (by simp[a];omega) ((kP c)[i]'(by omega)) i4 i4 i4 λh8 g=>?_;refine⟨i+1,j0,⟨i5,?_⟩,i5⟩;have t:(dK kind l++((kP c).take i++qh (5-i) 0)).set (59+i) ((kP c)[i]'(by omega))=dK kind l++((kP c).take (i+1)++qh (5-(i+1)) 0):=by
   rw[qQ _ _ i5,a,zk,qQ _ _ i9,aD _ _];have:5-i=(5-(i+1))+1:=i5
   rw[this,yh];simp[b,Nat.min_eq_left (show i<=4 by omega)];rw[aD _ _ (show i<i0 (kP c) by omega),qn];rfl
  rw[t]at g;exact g
 ·have p:i=4:=by have J:¬(i:Int)<4:=e;omega
  subst p;refine z.set ag 0 i4 (λ_=>rfl) i4 63 i4 (by simp[a,b]) 165 i4 i4 i4 λh8 g=>⟨o,i4,?_⟩
  have m:(dK kind l++((kP c).take 4++qh (5-4) 0)).set 63 165=dL kind l:=by unfold dL;rw[g0 ⟨i5,i5,i5⟩,<-w,qg i5,qQ _ _ i5,a,qQ _ _ n5];simp[b]
  rw[m]at g;exact g
abbrev dP:=ByteArray×Int×Int×Sl
abbrev bF:=Int×Int×Int×Int×Int×Int×Sl×Sl
abbrev cD(x:dP):aR:=[xC x.1,xz xF x.2.1,xz xF x.2.2.1,x.2.2.2]
abbrev bh(x:bF):aR:=[xz xF x.1,xz xF x.2.1,xz xF x.2.2.1,xz xF x.2.2.2.1,xz xF x.2.2.2.2.1,xz xF x.2.2.2.2.2.1,x.2.2.2.2.2.2.1,x.2.2.2.2.2.2.2]
abbrev fN(x:bF):Value:=xE #[xz xF x.1,xz xF x.2.1,xz xF x.2.2.1,xz xF x.2.2.2.1,xz xF x.2.2.2.2.1,xz xF x.2.2.2.2.2.1,x.2.2.2.2.2.2.1,x.2.2.2.2.2.2.2]
def jN:iF dP Qw.ci:=⟨λh q a b=>(a.1=b.name/\a.2.1=b.object/\a.2.2.1=b.length)/\Seq h q a.2.2.2 1 az b.tries,λa c=>⟨a.1,a.2.ac c⟩,λa d=>⟨a.1,a.2.mono d⟩⟩
abbrev sS:iF Sl (List Qw.ci):=bD jN 4 cD
structure sA (h:f9) (q:ak) (x:bF) (m:aw):Prop where
 seq:x.1=m.seq
 next:x.2.1=m.next
 p:(x.2.2.1,x.2.2.2.1,x.2.2.2.2.1)=m.p
 extra:x.2.2.2.2.2.1=m.extra
 drives:Seq h q x.2.2.2.2.2.2.1 1 az m.drives
 objs:sS.p h q x.2.2.2.2.2.2.2 m.objs
 dcap:x.2.2.2.2.2.2.1.len<=x.2.2.2.2.2.2.1.cap
 ocap:x.2.2.2.2.2.2.2.len<=x.2.2.2.2.2.2.2.cap
abbrev df(h:f9)(x:bF)(m:aw):Prop:=sA h (λb=>b<h.size) x m
theorem sA.ac{h h':f9}{q:ak}{x:bF}{m:aw}(a:sA h q x m)(b:aP q h h'):sA h' q x m:=⟨a.seq,a.next,a.p,a.extra,a.drives.ac b,sS.loc a.objs b,a.dcap,a.ocap⟩
theorem sA.mono{h:f9}{q q':ak}{x:bF}{m:aw}(a:sA h q x m)(c:∀b,q b->q' b):sA h q' x m:=⟨a.seq,a.next,a.p,a.extra,a.drives.mono c,sS.mono a.objs c,a.dcap,a.ocap⟩
theorem df.up{h h':f9}{x:bF}{m:aw}(a:df h x m)(c:aP (λb=>b<h.size) h h'):df h' x m:=(sA.ac a c).mono λ_ d=>qR d c.1
def cU(x:bF)(m:aw):HP:=⟨λh q=>sA h q x m,λa b=>a.ac b,λa c=>a.mono c⟩
theorem QF:∀x,∀c∈cD x,c.oneCell'=eR:=by intro x c a;simp[cD]at a;rcases a with rfl|rfl|rfl|rfl<;>rfl
theorem pz(n a b:Int)(h:f9):ai xJ 172 #[xz xF n,xz xF a,xz xF b] h λv h'=>v=xD (fz n a b)/\h'=h:=by
 refine ts Tryz.func172 ?_;unfold fz;refine ae (λe=>⟨?_,i4⟩) (λe=>⟨?_,i4⟩)
 ·rw[hU (show a<=n from e)];rfl
 ·rw[hZ (show¬a<=n from e)];rfl
theorem JV(s:ByteArray)(h:f9)(H:s.size<=2^40):ai xJ 129 #[xC s] h λv h'=>v=xD (mb s)/\Sp h h' []:=by
 refine ts Tryz.func129 ?_ (.two .n (.two (.two .n (.inn (.loop [(8,aT)] [(2,3),(4,5),(8,31)] .n))) .n));refine abm ag ⟨_,i4,i4⟩ ⟨_,i4,i4⟩ ⟨_,i4,i4⟩ s λr B p=>?_;have z:=p.rd 0 i4;have A:=z.len;have F:=AN s;refine aq (λi:Nat=>(i:Int)) (λi h'=>i<=s.size/\h'=B/\∀c∈(je s).take i,ms c=eR) (λi=>s.size-i) 0 i4 ⟨i5,i4,jj⟩ ?_;rintro i w ⟨G,rfl,d⟩;refine ae (λe=>?_) (λe=>?_)
 ·have j:i<i0 (je s):=by have D:(i:Int)<(r.len:Int):=e;omega
  refine z.bo i i4 j ((je s)[i].toNat:Int) i4 ?_;obtain⟨c,q⟩:∃c,c=(je s)[i]:=⟨_,rfl⟩
  rw[<-q];have a:ms c=eR->∃o:Nat,qe xF ((i:Int)+1)=(o:Int)/\(o<=s.size/\w=w/\∀c∈(je s).take o,ms c=eR)/\s.size-o<s.size-i:=λt=>
   ⟨i+1,j0,⟨i5,i4,λx k=>by
    rw[aD _ _ j]at k;rcases qw.1 k with k|k
    ·exact d x k
    ·rw[qx.1 k,<-q];exact t⟩,i5⟩
  have g:ms c=eS->Value.bool eS=xD (mb s)/\Sp h w []:=λt=>by
   refine⟨?_,p.bX []⟩;unfold mb;have:s.data.toList.all ms=eS:=yz.2 ⟨c,by rw[q];exact qf j,by rw[t];simp⟩;rw[this];rfl
  have b:ms c=eR↔((97<=(c.toNat:Int)/\(c.toNat:Int)<=122)∨(48<=(c.toNat:Int)/\(c.toNat:Int)<=57)∨(c.toNat:Int)=45):=by unfold ms;simp[or_assoc];omega
  have f:ms c=eS↔¬((97<=(c.toNat:Int)/\(c.toNat:Int)<=122)∨(48<=(c.toNat:Int)/\(c.toNat:Int)<=57)∨(c.toNat:Int)=45):=by rw[<-b];cases ms c<;>simp
  refine ae (λu=>ae (λe2=>bz (λl=>g (f.2 i5)) λl=>a (b.2 i5)) λe2=>ae (λl=>bz (λm=>g (f.2 i5)) λm=>a (b.2 i5)) λl=>a (b.2 i5)) λu=>ae (λe2=>ae (λl=>bz (λm=>g (f.2 i5)) λm=>a (b.2 i5)) λl=>ae (λm=>bz (λE=>g (f.2 i5)) λE=>a (b.2 i5)) λm=>a (b.2 i5)) λe2=>a (b.2 i5)
 ·have D:¬(i:Int)<(r.len:Int):=e;rw[qg i5]at d;have y:s.data.toList.all ms=eR:=qK.2 d;refine ae (λu=>⟨?_,p.bX []⟩) (λu=>⟨?_,p.bX []⟩)
  ·unfold mb;rw[y,hU (show 1<=s.size by omega)];congr 1;simp;omega
  ·unfold mb;rw[y,hZ (show¬1<=s.size by omega)];rfl
theorem Vu(s:Sl)(l:au)(most:Int)(h:f9)(r:Rd h s 1 az l)(z:i0 l<=2^40):ai xJ 173 #[s,xz xF most] h λv h'=>v=xD (ot l most)/\h'=h:=by
 refine ts Tryz.func173 ?_ (.two .n (.two (.two .n (.inn (.loop [(9,aT)] [(4,7),(9,32)] .n))) .n));have x:=r.len;refine aq (λi:Nat=>(i:Int)) (λi h'=>i<=i0 l/\h'=h/\∀j,j<i->jJ l most j=eR) (λi=>i0 l-i) 0 i4 ⟨i5,i4,i5⟩ ?_;rintro i g ⟨y,rfl,b⟩;refine ae (λe=>?_) (λe=>?_)
 ·have c:i<i0 l:=by have w:(i:Int)<(s.len:Int):=e;omega
  refine r.bo i i4 c l[i] i4 ?_;have m:l.getD i 0=l[i]:=getD_lt c;have d:jJ l most i=eS->Value.bool eS=xD (ot l most)/\g=g:=λq=>⟨by unfold ot;rw[Cx c q],i4⟩
  have a:jJ l most i=eR->∃o:Nat,qe xF ((i:Int)+1)=(o:Int)/\(o<=i0 l/\g=g/\∀j,j<o->jJ l most j=eR)/\l.length-o<i0 l-i:=λq=>
   ⟨i+1,j0,⟨i5,i4,λj t=>by
    by_cases p:j=i
    ·rw[p];exact q
    ·exact b j i5⟩,i5⟩
  refine(pz l[i] 0 most g).mono ?_;rintro _ _ ⟨rfl,rfl⟩;refine⟨_,i4,aU (λf=>d (by unfold jJ;rw[m,f];rfl)) λf=>ae (λe2=>?_) λe2=>a (by unfold jJ;rw[m,f,hU (show i=0 by omega)];rfl)⟩;rw[af ((i:Int)-1)];refine r.bo (i-1) i5 i5 (l[i-1]'(by omega)) i4 ?_;have k:l.getD (i-1) 0=l[i-1]'(by omega):=getD_lt;refine ae (λu=>d ?_) (λu=>a ?_)
  ·unfold jJ;rw[m,k,f,hZ (show¬i=0 by omega),hZ i5];rfl
  ·unfold jJ;rw[m,k,f,hU (show l[i-1]'(by omega)<l[i]by omega)];simp
 ·have w:¬(i:Int)<(s.len:Int):=e;exact⟨by unfold ot;rw[rK λj t=>b j i5],i4⟩
theorem sB(p:Pm)(n:Int)(h:f9)(o:n<=2^40:=by omega):ai xJ 77 #[jv p,xz xF n] h λv h'=>v=xz xF (countP p n)/\Sp h h' []:=by
 refine ts Tryz.func77 ?_ (.two .n (.two (.join [] [(4,12)] .n) .n)) (args:=[p,(n:Int)]);refine(Sp.refl h).boxed λq d g=>?_;refine aO ⟨p,(g.box 0 i4).aE _ i4,(dO p d).mono ?_⟩;rintro _ l ⟨rfl,j⟩;have b:=g.up j.ac;refine⟨_,i4,aU (λe=>⟨?_,b.bX []⟩) λf=>ae (λe=>⟨?_,b.bX []⟩) λe=>?_⟩
 ·unfold countP;rw[e];rfl
 ·unfold countP;rw[hZ (show¬0<n by omega),Bool.and_false];rfl
 ·have k:=(bN p).1 f;refine⟨p,(b.box 0 i4).aE _ i4,?_⟩;refine(Ae p (R:=λv h'=>v=xz xF (p.1*p.2.2)/\Sp h h' []) ?_).mono ?_
  ·skip
   refine b.boxed λm h3 c=>⟨p.1,(c.box 1 i4).cell0 i4,p.2.2,(c.box 1 i4).cell i4,?_,c.bX []⟩
   have r:p.1*p.2.2<=16*24:=yf i5 i5 i5 i5;have a:0<=p.1*p.2.2:=vQ i5 i5;rw[af _]
  ·rintro _ h3 ⟨rfl,i⟩;have a:0<p.1*p.2.2:=Int.mul_pos i5 i5;refine⟨_,i4,Int.ne_of_gt a,?_,i⟩;have d:(n-1)/(p.1*p.2.2)<=n-1:=Int.ediv_le_self _ i5;have l:0<=(n-1)/(p.1*p.2.2):=Int.ediv_nonneg i5 i5;rw[af (n-1),Int.tdiv_eq_ediv_of_nonneg i5,af ((n-1)/(p.1*p.2.2)),af _];unfold countP;rw[f,hU (show 0<n by omega)];rfl
theorem OK(s:Sl)(l:au)(h:f9)(f:Rd h s 1 az l)(k:i0 l<=2^40):ai xJ 105 #[s,.func (.func 235) #[] #[]] h λv h'=>v=xD (!l.all (fz · 0 15))/\h'=h:=by
 refine ts Tryz.func105 ?_ (args:=[s,(.func (.func 235) #[] #[])]);have j:=f.len;refine(iu s (235,#[],#[]) (R:=λv h'=>(∃i:Int,v=xz xF i/\(decide (i>=0)=!l.all (fz · 0 15)))/\h'=h) ?_).mono ?_
 ·skip
  refine aq (λi:Nat=>(i:Int)) (λi h'=>i<=i0 l/\(l.take i).all (fz · 0 15)=eR/\h'=h) (λi=>i0 l-i) 0 i4 ⟨i5,jj,i4⟩ ?_;rintro i c ⟨d,a,rfl⟩;refine ae (λe=>?_) (λe=>?_)
  ·have b:i<i0 l:=by have g:(i:Int)<(s.len:Int):=e;omega
   refine f.bo i i4 b l[i] i4 (eU lb ?_);refine(FI l[i] (R:=λv h'=>v=xD (!fz l[i] 0 15)/\h'=c) ?_).mono ?_
   ·skip
    refine(pz l[i] 0 15 c).mono ?_;rintro _ _ ⟨rfl,rfl⟩;exact⟨_,i4,i4,i4⟩
   ·rintro _ _ ⟨rfl,rfl⟩;refine⟨_,i4,aU (λe2=>?_) λe2=>?_⟩
    ·refine⟨⟨i,i4,?_⟩,i4⟩;rw[hU (show(i:Int)>=0 by omega)];have:l.all (fz · 0 15)=eS:=yz.2 ⟨_,qf b,by rw[e2];simp⟩;rw[this];rfl
    ·refine⟨i+1,j0,⟨i5,?_,i4⟩,i5⟩;rw[aD _ _ b,yT,a];simp[e2]
  ·have g:¬(i:Int)<(s.len:Int):=e;refine⟨⟨-1,i4,?_⟩,i4⟩;rw[qg i5]at a;rw[a];rfl
 ·rintro _ c ⟨⟨i,rfl,d⟩,rfl⟩;exact⟨i,i4,by rw[d],i4⟩
structure cI (m:aw):Prop where
 dr:m.drives.length<=2^30
 ob:m.objs.length<=2^30
 nm:∀e∈m.objs,e.name.size<=2^30/\e.tries.length<=2^30
theorem addr_add(a:f7)(i j:Nat):(a.add i).add j=a.add (i+j):=by unfold Addr.add;by_cases b:i=0<;>by_cases c:j=0<;>simp[b,c,wY]
theorem bT.tO{h:f9}{a:f7}{e:TypeId}{b:aR}{v:Value}(d:bT h a e b)(i j:Nat)(c:b[i+j]?=dB v):f8 h ((a.add i).add j)=dB v:=by rw[addr_add];exact d.cell c
theorem bT.Ex{h:f9}{a:f7}{e:TypeId}{b:aR}{u v w:Value}(c:bT h a e b)(i:Nat)(d:b[i]?=dB u)(g:b[i+1]?=dB v)(f:b[i+2]?=dB w):ba h (a.add i) 0 [u,v,w]:=
 ⟨c.tO i 0 d,c.tO i 1 g,c.tO i 2 f,trivial⟩
abbrev YD:bO C.toxZ 83 111 4 [xC ⟨#[]⟩,xz xF 0,xz xF 0,xA eH 0 0] 56:=⟨_,_,i4,i4,i4,i4,i4,i4⟩
theorem SH(x:bF)(m:aw)(e:dP)(E:Qw.ci)(h:f9)(i:df h x m)(A:dN jN h e E)(L:kJ m=eR)(P:E.name.size<=2^30)(M:E.tries.length<=2^30):
  ai xJ 174 #[fN x,xE #[xC e.1,xz xF e.2.1,xz xF e.2.2.1,e.2.2.2]] h λv h'=>v=xD (gM m E)/\Sp h h' []:=by
 refine ts Tryz.func174 ?_ (.two .n (.two (.join [] [(4,5),(6,33)] .n) .n)) (args:=[x,e]);obtain⟨_,B,f,_⟩:=Mc L;have I:=(bN m.p).1 f;obtain⟨⟨F,e2,u⟩,w⟩:=A;have g:x.2.2.1=m.p.1:=congrArg (·.1) i.p;have r:x.2.2.2.1=m.p.2.1:=congrArg (·.2.1) i.p;have c:x.2.2.2.2.1=m.p.2.2:=congrArg (·.2.2) i.p;have S:m.p.1*m.p.2.2<=16*24:=yf i5 i5 i5 i5;have H:0<=m.p.1*m.p.2.2:=vQ i5 i5;refine(Sp.refl h).boxed λR Q J=>?_;refine J.boxed λO K t=>?_;have l:∀{h':f9} {As:List HP},Sp h h' As->gM m E=eS->Value.bool eS=xD (gM m E)/\Sp h h' []:=λ{h' As} H' d=>⟨by rw[d],.zip H'.ac⟩
 refine aO ⟨E.name,by rw[<-F];exact(t.box 1 i4).cell0 i4,(JV E.name K i5).mono ?_⟩;rintro _ h3 ⟨rfl,z⟩;have a:=t.up z.ac;refine⟨_,i4,aU (λb=>l a (by unfold gM;rw[b];rfl)) λj=>?_⟩;refine⟨E.object,by rw[<-e2];exact(a.box 1 i4).cell i4,m.next,by rw[<-i.next];exact(a.box 0 i4).cell i4,?_⟩
 try dsimp only
 rw[af (m.next-1)];refine(pz E.object 0 (m.next-1) h3).mono ?_;rintro _ _ ⟨rfl,rfl⟩;refine⟨_,i4,aU (λb=>l a (by unfold gM;rw[j,b];rfl)) λq=>?_⟩;have d:=a.box 0 i4;refine⟨E.length,by rw[<-u];exact(a.box 1 i4).cell i4,m.p.1,by rw[<-g];exact d.cell i4,m.p.2.2,by rw[<-c];exact d.tO 2 2 i4,?_⟩
 try dsimp only
 rw[af (m.p.1*m.p.2.2),af (m.p.1*m.p.2.2*8)];refine(pz E.length 0 (m.p.1*m.p.2.2*8) _).mono ?_;rintro _ _ ⟨rfl,rfl⟩;refine⟨_,i4,aU (λb=>l a (by unfold gM;rw[j,q,b];rfl)) λk=>?_⟩;have s:0<=E.length/\E.length<=m.p.1*m.p.2.2*8:=by unfold fz at k;simpa using k
 refine⟨e.2.2.2,(a.box 1 i4).cell i4,?_⟩;refine(OK e.2.2.2 E.tries _ (Seq.up w a.ac) i5).mono ?_;rintro _ _ ⟨rfl,rfl⟩;refine⟨_,i4,aU (λb=>?_) λb=>⟨trivial,l a ?_⟩⟩
 ·have o:E.tries.all (fz · 0 15)=eR:=kt
  refine⟨e.2.2.2,(a.box 1 i4).cell i4,m.p,?_,E.length,by rw[<-u];exact(a.box 1 i4).cell i4,?_⟩
  ·rw[<-g,<-r,<-c];exact d.Ex 2 i4 i4 i4
  ·refine(sB m.p E.length _).mono ?_;rintro _ N ⟨rfl,D⟩;have y:=a.up D.ac;refine⟨_,i4,⟨(y.box 1 i4).cell i4,trivial⟩,?_,.zip y.ac⟩;unfold gM;have G:=w.len;rw[j,q,k,o,G];simp;rfl
 ·have o:E.tries.all (fz · 0 15)=eS:=kt
  unfold gM;rw[j,q,k,o];rfl
theorem OL(a:f7)(e:dP)(l:Sl)(b:List Qw.ci)(h:f9)(o:bT h a 111 (cD e))(r:dN sS h l b)(F:b.length<=2^30):
  ai xJ 175 #[l,.func (.func 176) #[] #[xB (dB a)]] h λv h'=>v=xD (b.any λy=>decide (y.object=e.2.1))/\Sp h h' []:=by
 refine ts Tryz.func175 ?_ (args:=[l,(.func (.func 176) #[] #[xB (dB a)])]);refine(gT l (176,#[],#[xB (dB a)]) (R:=λv h'=>(∃i:Int,v=xz xF i/\(decide (i>=0)=b.any λy=>decide (y.object=e.2.1)))/\Sp h h' []) ?_).mono ?_
 ·skip
  obtain⟨q,s,D,B⟩:=bD.kg r;have z:=bD.len r;refine aq (λi:Nat=>(i:Int)) (λi h'=>i<=b.length/\(b.take i).any (λy=>decide (y.object=e.2.1))=eS/\Sp h h' []) (λi=>b.length-i) 0 i4 ⟨i5,jj,Sp.refl h⟩ ?_;rintro i n ⟨p,c,j⟩;refine ae (λm=>?_) (λm=>?_)
  ·have d:i<b.length:=by have u:(i:Int)<(l.len:Int):=m;omega
   obtain⟨⟨_,x,_⟩,_⟩:=B i i5 d;refine(Seq.up s j.ac).dY (g:=cD) i i4 i5 (q[i]'(by omega)) i4 (eU lb ?_);refine(IQ (q[i]'(by omega)) a (R:=λv h'=>v=xD (b[i].object==e.2.1)/\Sp n h' []) ?_).mono ?_
   ·skip
    refine(Sp.refl n).boxed λE A f=>?_;have k:=o.ac (up j.ac f.ac) o.lt;exact⟨b[i].object,by rw[<-x];exact(f.box 0 i4).cell i4,e.2.1,k.cell i4,i4,.zip f.ac⟩
   ·rintro _ A ⟨rfl,w⟩;have f:=j.up w.ac;refine⟨_,i4,bf (λe2=>?_) λe2=>?_⟩
    ·refine⟨⟨i,i4,?_⟩,f⟩;rw[hU (show(i:Int)>=0 by omega)];exact(zY.2 ⟨_,qf d,n3⟩).symm
    ·refine⟨i+1,j0,⟨i5,?_,f⟩,i5⟩;rw[aD _ _ d,yU,c];simpa using e2
  ·have u:¬(i:Int)<(l.len:Int):=m;refine⟨⟨-1,i4,?_⟩,j⟩;rw[qg i5]at c;rw[c];rfl
 ·rintro _ n ⟨⟨i,rfl,p⟩,t⟩;exact⟨i,i4,by rw[p],t⟩
theorem FM(x:bF)(m:aw)(h:f9)(k:df h x m)(O:cI m):ai xJ 99 #[fN x] h λv h'=>v=xD (bp m)/\Sp h h' []:=by
 refine ts Tryz.func99 ?_ (.two .n (.two (.join [] [(2,3),(5,27)] .n) (.two (.join [] [(2,3),(27,37)] .n) (.two (.two .n (.inn (.loop [(40,aT)] [(2,5),(40,72)] (.two .n (.two .n (.two (.inn (.two .n (.two (.join [] [(2,3),(45,65)] .n) .n))) .n)))))) .n)))) (args:=[x]);refine(Sp.refl h).boxed λW h1 I=>?_;have z:=I.box 0 i4;have U:x.2.2.1=m.p.1:=congrArg (·.1) k.p;have M:x.2.2.2.1=m.p.2.1:=congrArg (·.2.1) k.p;have Q:x.2.2.2.2.1=m.p.2.2:=congrArg (·.2.2) k.p;have w:∀{h':f9} {As:List HP},Sp h h' As->bp m=eS->Value.bool eS=xD (bp m)/\Sp h h' []:=λ{h' As} H' z=>⟨by rw[z],.zip H'.ac⟩
 refine aO ⟨m.seq,by rw[<-k.seq];exact z.cell0 i4,(pz m.seq 1 2147483647 h1).mono ?_⟩;rintro _ _ ⟨rfl,rfl⟩;refine⟨_,i4,aU (λb=>w I (by unfold bp kJ;rw[b];rfl)) λF=>?_⟩;refine⟨m.next,by rw[<-k.next];exact z.cell i4,(pz m.next 0 16777216 _).mono ?_⟩;rintro _ _ ⟨rfl,rfl⟩;refine⟨_,i4,aU (λb=>w I (by unfold bp kJ;rw[F,b];rfl)) λL=>?_⟩;refine⟨m.p,by rw[<-U,<-M,<-Q];exact z.Ex 2 i4 i4 i4,(dO m.p _).mono ?_⟩;rintro _ h2 ⟨rfl,R2⟩;have r:=I.up R2.ac;refine⟨_,i4,aU (λb=>w r (by unfold bp kJ;rw[F,L,b];rfl)) λb3=>?_⟩;refine⟨m.extra,by rw[<-k.extra];exact(r.box 0 i4).cell i4,(pz m.extra 0 16 _).mono ?_⟩;rintro _ _ ⟨rfl,rfl⟩;refine⟨_,i4,aU (λb=>w r (by unfold bp kJ;rw[F,L,b3,b];rfl)) λb4=>?_⟩;have G:kJ m=eR:=by unfold kJ;rw[F,L,b3,b4];rfl
 have R:=k.up r.ac;have y:=r.box 0 i4;have ab:=O.dr;have ah:=O.ob;refine aO ⟨_,y.cell i4,(Vu _ m.drives 63 _ R.drives i5).mono ?_⟩;rintro _ _ ⟨rfl,rfl⟩;refine⟨_,i4,aU (λb=>w r (by unfold bp;rw[G,b];rfl)) λY=>?_⟩;have V:=bD.len k.objs;refine⟨x.2.2.2.2.2.2.2,y.cell i4,ae (λe=>w r ?_) λal=>?_⟩
 ·unfold bp;rw[G,Y,hZ i5];rfl
 have J:i0 m.objs<=12:=i5
 refine⟨x.2.2.2.2.2.2.2,y.cell i4,?_⟩;obtain⟨l,D⟩:=bD.fix k.objs;have ad:=D.2.1;refine aq (λi:Nat=>(i:Int)) (λi h'=>i<=i0 m.objs/\(∀j,j<i->ou m j=eR)/\Sp h h' [av W 85 (bh x)]) (λi=>i0 m.objs-i) 0 i4 ⟨i5,i5,r⟩ ?_;rintro i h3 ⟨hi,o,P⟩;refine ae (λe=>?_) (λe=>?_)
 ·have c:i<i0 m.objs:=by have e':(i:Int)<(x.2.2.2.2.2.2.2.len:Int):=e;omega
  have A:=O.nm _ (qf c);have d:oq m.objs i=m.objs[i]:=nF c;have s:∀{h':f9} {As:List HP},Sp h h' As->ou m i=eS->Value.bool eS=xD (bp m)/\Sp h h' []:=λ{h' As} H' z=>w H' (by unfold bp;rw[Cx c z];simp);have F3:=ng.up D P.ac;refine F3.1.dY (g:=cD) i i4 i5 (l[i]'(by omega)) i4 ?_;refine P.alloc ag i4 λB h4 H4=>?_;refine H4.storeAll ag 1 i4 i4 (cD (l[i]'(by omega))) i4 i4 i4 i4 λh5 E=>?_;have F5:=ng.up D E.ac;obtain⟨⟨y1,y2,y3⟩,y4⟩:=Fix.row F5 c;obtain⟨b6,f⟩:∃b,b=(decide (i=0)||fg (oq m.objs (i-1)).name (oq m.objs i).name):=⟨_,rfl⟩
  refine bE (λ_ h'=>gM m m.objs[i]=eR/\b6=eR/\Sp h h' [av W 85 (bh x),av B 111 (cD (l[i]'(by omega)))]) ?_ ?_
  ·refine⟨x,(E.box 0 i4).aE _ i4,l[i]'(by omega),(E.box 1 i4).aE _ i4,?_⟩;refine(SH x m (l[i]'(by omega)) m.objs[i] h5 (k.up E.ac) (Fix.row F5 c) G A.1 A.2).mono ?_;rintro _ Z ⟨rfl,R6⟩;have a:=E.up R6.ac;have H:=ng.up D a.ac;refine⟨_,i4,trivial,aU (λb=>s a (by unfold ou;rw[d,b];rfl)) λb=>ae (λe2=>?_) λe2=>⟨b,by rw[f,hU (show i=0 by omega)];rfl,a⟩⟩;rw[af ((i:Int)-1)];obtain⟨S,ha,zz,hc,rfl⟩:=H.1.dY (g:=cD) (i:=(i:Int)-1) (i-1) i5 i5 (l[i-1]'(by omega)) rfl (K:=λt=>t=l[i-1]'(by omega)) rfl;refine⟨x.2.2.2.2.2.2.2,(a.box 0 i4).cell i4,S,ha,m.objs[i-1].name,?_,m.objs[i].name,?_,?_⟩
   ·rw[<-(Fix.row H (show i-1<i0 m.objs by omega)).1.1];exact hc.1
   ·rw[<-y1];exact(a.box 1 i4).cell0 i4
   ·have q:oq m.objs (i-1)=m.objs[i-1]:=nF;rw[d,q]at f;refine aU (λu=>s a ?_) (λu=>⟨b,?_,a⟩)
    ·unfold ou;rw[d,q,b,hZ (show¬i=0 by omega)];unfold fg;rw[u];rfl
    ·rw[f];unfold fg;rw[u];simp
  ·rintro _ Z ⟨b,T,a⟩;have H:=ng.up D a.ac;refine⟨x.2.2.2.2.2.2.2,(a.box 0 i4).cell i4,⟨i5,by have:=k.ocap;omega⟩,?_⟩;rw[qj];refine(OL B (l[i]'(by omega)) ⟨x.2.2.2.2.2.2.2.ptr,i,x.2.2.2.2.2.2.2.cap⟩ (m.objs.take i) Z (a.box 1 i4) (bD.take H.elt i i5) i9).mono ?_;rintro _ h7 ⟨rfl,R7⟩;have X:=a.up R7.ac;rw[y2];refine⟨_,i4,bc (λu=>s X ?_) λu=>?_⟩
   ·unfold ou;rw[d,u];simp
   ·refine⟨i+1,j0,⟨i5,λj hj=>?_,X.bX [0]⟩,i5⟩;by_cases N:j=i
    ·subst N;rw[T]at f;unfold ou;rw[<-f,d,b,u];rfl
    ·exact o j i5
 ·have e':¬(i:Int)<(x.2.2.2.2.2.2.2.len:Int):=e;refine⟨?_,.zip P.ac⟩;unfold bp;rw[G,Y,hU J,rK λj hj=>o j i5];rfl
theorem pX(s:Sl)(l:aM)(n:Int)(k:Nat)(u:k<=4)(w:i0 l<=2^20)(H:aa B h0 h (an 5 s 1 aB l::As)):
  ai xJ 177 #[s,xz xF n,xz xF k] h λv h'=>∃b:Sl,v=b/\aa B h0 h' (an 5 b 1 aB (l++bS n k)::As):=by
 refine ts Tryz.func177 ?_ (.two .n (.two (.two .n (.inn (.loop [(0,cF),(7,aT)] [(0,1),(7,8),(10,22)] .n))) .n));have p:=cm n k;refine aq (λt:Sl×Nat=>(t.1,(k:Int)-1-t.2)) (λt h'=>t.2<=k/\aa B h0 h' (an 5 t.1 1 aB (l++(bS n k).take t.2)::As)) (λt=>k-t.2) (s,0) (by rw[af _];simp) ⟨jj,l4⟩ ?_;rintro⟨o,j⟩ r ⟨q,a⟩;dsimp only at*;refine ae (λe=>?_) (λe=>?_)
 ·have g:j<k:=i5
  rw[af ((8:Int)*((k:Int)-1-j))];refine⟨i5,?_⟩;have c:((8:Int)*((k:Int)-1-j)).toNat=8*(k-1-j):=i5
  have d:min (8*(k-1-j)) (qG xF)=8*(k-1-j):=by have:qG xF=64:=rfl;omega
  rw[c,d,dU];have i:b8 (zx n (2^(8*(k-1-j))))=(bS n k)[j]'(by omega):=by simp[bS]
  rw[i];refine a.push ag 0 i4 gp i4 i6 (λ_=>rfl) gJ ((bS n k)[j]'(by omega)) i4 i6 i9 λf x m=>?_;refine⟨(f,j+1),by dsimp only;rw[af _];congr 1;omega,⟨i7,?_⟩,i7⟩
  try dsimp only
  rw[aD _ _ (show j<i0 (bS n k) by omega),<-qn];exact m
 ·rw[qg i5]at a;exact⟨o,i4,a⟩
theorem GX(b:Sl)(l:au)(o:Sl)(c:aM)(H:aa B h0 h (an 5 o 1 aB c::As))(r:St B h0 As λh=>Rd h b 1 az l)(G:i0 c<=2^30)(E:i0 l<=2^30){K:Sl×Int->f9->Prop}
  (y:∀q h',aa B h0 h' (an 5 q 1 aB (c++l.map b8)::As)->K (q,(i0 l:Int)) h'):
  gm (σ:=Sl×Int) (λa s h8=>
 Br (decide (a.2<((b.len:Nat):Int)))
 (∃j:f7,(b.ptr=dB j/\0<=a.2/\a.2<((b.len:Nat):Int))/\
 ∃g:Int,f8 h8 (j.add (a.2.toNat*1))=dB (xz xF g)/\
 bG xJ (Instr.buildSlice 34 1 #[(0,(xz xG (qe xG g)))]) (.one (.sc .slc)) h8 λd v=>
 bG xJ (Builtin.append_ #[34,34] 34 #[(xA a.1.ptr a.1.len a.1.cap),(xA d.ptr d.len d.cap)]) (.one (.sc .slc)) v λf p=>
 s ((⟨f.ptr,f.len,f.cap⟩:Sl),qe xF (a.2+(1:Int))) p)
 (K a h8)) (o,(0:Int)) h:=by
 have A:b.len=i0 l:=(r.at [_] H).len;refine aq (λt:Sl×Nat=>(t.1,(t.2:Int))) (λt h'=>t.2<=i0 l/\aa B h0 h' (an 5 t.1 1 aB (c++(l.take t.2).map b8)::As)) (λt=>i0 l-t.2) (o,0) i4 ⟨jj,l4⟩ ?_;rintro⟨u,i⟩ w ⟨D,m⟩;dsimp only at*;refine ae (λe=>?_) (λe=>?_)
 ·have k:i<i0 l:=i5
  refine(r.at [_] m).bo i i4 k l[i] i4 ?_;rw[dU];refine m.push ag 0 i4 gp i4 i6 (λ_=>rfl) gJ (b8 l[i]) i4 i6 i9 λz F x=>?_;refine⟨(z,i+1),js,⟨i7,?_⟩,i7⟩
  try dsimp only
  rw[aD _ _ k,qT,<-qn];exact x
 ·have n:i=i0 l:=i5
  subst n;rw[qU]at m;exact y u w m
theorem abG{m:aw}(a:bp m=eR){i:Nat}(b:i<i0 m.objs):gM m m.objs[i]=eR:=by
 unfold bp at a;simp only[qu]at a;have:=qK.1 a.2.2.2 i (qA.2 b);unfold ou at this;simp only[qu]at this;have c:=this.1
 rwa [nF b]at c
theorem Vv{m:aw}(c:bp m=eR){i:Nat}(f:i<m.objs.length):m.objs[i].name.size<=12/\m.objs[i].tries.length<=3073:=by
 have b:=abG c f;unfold gM mb at b;simp only[qu,decide_eq_true_eq]at b;obtain⟨⟨_,_,g⟩,_,h3,_,d⟩:=b;refine⟨g,?_⟩;obtain⟨_,_,a,_⟩:=Mc (UE c);have e:=(bN m.p).1 a;unfold fz at h3;simp only[qu,decide_eq_true_eq]at h3;have j:m.p.1*m.p.2.2<=16*24:=yf i5 i5 i5 i5;unfold countP at d;split at d
 ·have:(m.objs[i].length-1)/(m.p.1*m.p.2.2)<=m.objs[i].length-1:=Int.ediv_le_self _ (by rename_i h;simp at h;omega);omega
 ·omega
theorem Vw{m:aw}(b:bp m=eR){i:Nat}(a:i<i0 m.objs):i0 (jf m.objs[i])<=4000:=by have:=Vv b a;unfold jf;simp[cm];have:m.objs[i].name.data.size=m.objs[i].name.size:=rfl;omega
theorem De{m:aw}(a:bp m=eR):∀n,n<=i0 m.objs->i0 ((m.objs.take n).flatMap jf)<=n*4000
 |0,_=>jj
 |n+1,hn=>by
  rw[aD _ _ (show n<i0 m.objs by omega),zf,qp];have c:=De a n i5;have b:=Vw a (show n<i0 m.objs by omega);have h3:i0 ([m.objs[n]].flatMap jf)=i0 (jf m.objs[n]):=by rw[zd,wj,qH]
  omega
theorem FN{m:aw}(a:bp m=eR):i0 m.objs<=12:=by unfold bp at a;simp only[qu,decide_eq_true_eq]at a;exact a.2.2.1
theorem FO(m:aw)(h:cI m):i0 (fX m)<=100000:=by
 unfold fX;split
 ·rename_i c;have f:=c;unfold bp at f;simp only[qu,decide_eq_true_eq]at f;have k:i0 m.drives<=64:=by
   have a:=f.2.1;unfold ot at a;rw[qK]at a;by_cases g:i0 m.drives<=64
   ·exact g
   ·exfalso;have d:∀i,i<i0 m.drives->(i:Int)<=m.drives.getD i 0:=λi=>by
     induction i with
     |zero=>
      intro b;have:=a 0 (qA.2 b);unfold jJ fz at this;simp at this;simpa using this.1
     |succ i ih=>
      intro b;have:=a (i+1) (qA.2 b);have h3:=ih i5;unfold jJ fz at this;simp at this;have e:=this.2;simp only[qd]at h3⊢;omega
    have h3:=d 64 i5;have e:=a 64 (qA.2 i5);unfold jJ fz at e;simp at e;simp only[qd]at h3;omega
  have j:i0 (m.objs.flatMap jf)<=12*4000:=by have a:=De c m.objs.length (qk _);rw[qU]at a;have:=zq 4000 (FN c);omega
  simp only[qp,zc,yE,qy,cm];omega
 ·simp
theorem Vx(x:bF)(m:aw)(h:f9)(d:df h x m)(Z:cI m):ai xJ 103 #[fN x] h λv h'=>∃r:Sl,v=r/\Sp h h' [an 5 r 1 aB (fX m)]:=by
 refine ts Tryz.func103 ?_ (.two .n (.two .n (.two (.join [(3,cF)] [(3,4),(13,19)] .n) (.two .n (.two (.two .n (.inn (.loop [(3,cF),(44,aT)] [(3,4),(5,6),(44,54)] .n))) (.two .n (.two (.two .n (.inn (.loop [(3,cF),(64,aT)] [(3,4),(7,8),(9,10),(64,99)] (.two .n (.two .n (.two (.inn (.two .n (.two (.join [(3,cF)] [(3,4),(68,78)] .n) (.two (.join [(3,cF)] [(3,4),(78,85)] .n) (.two .n (.inn (.loop [(3,cF),(88,aT)] [(3,4),(9,10),(88,98)] .n))))))) .n)))))) .n))))))) [(3,(.l [0,1,3,4,2,5,6])),(14,(.l [0,1,2,3,4,7,8,5,6,9,10])),(15,(.l [0,1,2,4,5,3,6,7]))] (args:=[x]);refine(Sp.refl h).boxed λa1 h1 H1=>?_;refine⟨x,(H1.box 0 i4).aE _ i4,(FM x m h1 (d.up H1.ac) Z).mono ?_⟩;rintro _ h2 ⟨rfl,R2⟩;have H2:=H1.up R2.ac;refine⟨_,i4,aU (λe=>?_) λA=>?_⟩
 ·unfold fX;rw[e];exact⟨⟨eH,0,0⟩,i4,((H2.nil 5 1 aB).bX [1])⟩
 have ax:x.2.2.1=m.p.1:=congrArg (·.1) d.p;have X:x.2.2.2.1=m.p.2.1:=congrArg (·.2.1) d.p;have ab:x.2.2.2.2.1=m.p.2.2:=congrArg (·.2.2) d.p;have F:=H2.box 0 i4;have b:=FO m Z;unfold fX at b;rw[A,g0 rfl]at b;have hM:∀{h':f9} {As:List HP},Sp h h' As->df h' x m:=λ{h' As} N=>d.up N.ac;refine aO ⟨m.seq,by rw[<-d.seq];exact F.cell0 i4,m.next,by rw[<-d.next];exact F.cell i4,?_⟩;have H3:=(H2.nil 5 1 aB).aY;refine(pX ⟨eH,0,0⟩ [] m.seq 4 i6 jj H3).mono ?_;rintro _ h4 ⟨s4,rfl,H4⟩;refine⟨s4,i4,⟨by rw[<-d.next];exact(H4.box 1 i4).cell i4,trivial⟩,?_⟩;refine(pX s4 _ m.next 4 i6 o8 H4).mono ?_;rintro _ h5 ⟨s5,rfl,H5⟩;refine⟨s5,i4,trivial,?_⟩;have j:=H5.box 1 i4;refine⟨m.p.1,by rw[<-ax];exact j.cell i4,m.p.2.1,by rw[<-X];exact j.tO 2 1 i4,m.p.2.2,by rw[<-ab];exact j.tO 2 2 i4,m.extra,by rw[<-d.extra];exact j.cell i4,x.2.2.2.2.2.2.1,j.cell i4,?_⟩;have T:=d.drives.len;have ah:=bD.len d.objs
 try dsimp only
 rw[dU,dU,dU,dU,dU,T];refine H5.lit ag aB gp i4 [b8 m.p.1,b8 m.p.2.1,b8 m.p.2.2,b8 m.extra,b8 (m.drives.length:Nat)] i4 (show 5*1<=2^20 by decide) i4 λa8 h6 H6=>?_;refine H6.append ag 0 i4 gp ⟨_,_,i4,i4⟩ i4 i6 (λ_=>rfl) (H6.seq 2 i4 λ_=>rfl) gJ o8 λs7 h7 S=>?_;have S:=S.bX [0,1];refine⟨x.2.2.2.2.2.2.1,(S.box 1 i4).cell i4,?_⟩;have ay:(([]++bS m.seq 4)++bS m.next 4++[b8 m.p.1,b8 m.p.2.1,b8 m.p.2.2,b8 m.extra,b8 (m.drives.length:Nat)]).length=13:=o8
 have a3:=Z.dr;refine GX x.2.2.2.2.2.2.1 m.drives s7 _ S (St.mk' λh' N=>(hM N).drives) i5 i5 λs8 h8 H8=>?_
 try dsimp only
 refine⟨x.2.2.2.2.2.2.2,(H8.box 1 i4).cell i4,?_⟩
 try dsimp only
 rw[dU,ah];obtain⟨a,c⟩:∃a,a=([]++bS m.seq 4)++bS m.next 4++[b8 m.p.1,b8 m.p.2.1,b8 m.p.2.2,b8 m.extra,b8 (m.drives.length:Nat)]++m.drives.map b8:=⟨_,rfl⟩
 rw[<-c]at H8;have am:a.length=13+m.drives.length:=by rw[c];simp[cm];omega
 simp only[qp,zc,yE,qy,cm]at b;refine H8.push ag 0 i4 gp i4 i6 (λ_=>rfl) gJ (b8 (m.objs.length:Nat)) i4 i6 i5 λs9 h9 P=>?_;have P:Sp h h9 [an 5 s9 1 aB (a++[b8 (m.objs.length:Nat)]),av a1 85 (bh x)]:=P;refine⟨x.2.2.2.2.2.2.2,(P.box 1 i4).cell i4,?_⟩;obtain⟨Q,R⟩:=bD.fix d.objs;have a4:=R.2.1;refine aq (λt:Sl×Nat=>(t.1,(t.2:Int))) (λt h'=>t.2<=m.objs.length/\Sp h h' [an 5 t.1 1 aB (a++[b8 (m.objs.length:Nat)]++(m.objs.take t.2).flatMap jf),av a1 85 (bh x)]) (λt=>m.objs.length-t.2) (s9,0) i4 ⟨jj,by simpa using P⟩ ?_;rintro⟨o,i⟩ bl ⟨hi,f⟩;dsimp only at*;refine ae (λe=>?_) (λe=>?_)
 ·have s:i<m.objs.length:=i5
  have W:=ng.up R f.ac;have V:=Vv A s;have q:((m.objs.take i).flatMap jf).length<=50000:=by have h1:=De A i hi;have:=FN A;have:i*4000<=12*4000:=zq _ i5;omega
  refine W.1.dY (g:=cD) i i4 i5 (Q[i]'(by omega)) i4 ?_;refine f.alloc ag i4 λa7 a5 ad=>?_;refine ad.storeAll ag 2 i4 i4 (cD (Q[i]'(by omega))) i4 i4 i4 i4 λU k=>?_;have ao:=ng.up R k.ac;obtain⟨⟨y,y2,y3⟩,y4⟩:=Fix.row ao s;obtain⟨E,hE⟩:∃E,E=m.objs[i]:=⟨_,rfl⟩
  rw[<-hE]at y y2 y3 y4 V;have w:=k.box 2 i4;refine aO ⟨E.name,nq,E.name,nq,?_⟩;rw[dU];refine k.nN ag aB gp i4 [b8 (E.name.size:Nat)] i4 (show 1*1<=2^20 by decide) i4 ⟨nq,nq,trivial⟩ ?_;have G:(a++[b8 (m.objs.length:Nat)]++(m.objs.take i).flatMap jf).length<=160000:=by rw[qp,qp,am];simp;simp at q;omega
  obtain⟨u,M⟩:∃u,u=a++[b8 (m.objs.length:Nat)]++(m.objs.take i).flatMap jf:=⟨_,rfl⟩
  rw[<-M]at k G;refine k.push ag 0 i4 gp i4 i6 (λ_=>rfl) gJ (b8 (E.name.size:Nat)) i4 i6 i5 λa6 bb H=>?_;have J:=H.box 2 i4;refine⟨⟨by rw[<-y];exact J.cell0 i4,by rw[<-y];exact J.cell0 i4,trivial⟩,?_⟩;refine H.UD ag 0 i4 gp ⟨_,i4,i4⟩ i4 i6 E.name i9 λap bd B=>?_;have z:=B.box 2 i4;refine⟨⟨by rw[<-y];exact z.cell0 i4,trivial⟩,?_⟩;refine aO ⟨E.object,by rw[<-y2];exact z.cell i4,E.length,by rw[<-y3];exact z.cell i4,?_⟩;have a2:=AN E.name;refine(pX ap _ E.object 3 i6 i9 B).mono ?_;rintro _ bk ⟨L,rfl,D⟩;have ar:=D.box 2 i4;refine⟨L,i4,⟨by rw[<-y3];exact ar.cell i4,trivial⟩,?_⟩;refine(pX L _ E.length 2 i6 m5 D).mono ?_;rintro _ a0 ⟨O,rfl,K⟩;have al:=K.box 2 i4;refine⟨O,i4,trivial,(Q[i]'(by omega)).2.2.2,al.cell i4,?_⟩;refine GX (Q[i]'(by omega)).2.2.2 E.tries O _ K (St.mk' λh' N=>by rw[hE];exact(Fix.row (ng.up R N.ac) s).2) m5 i5 λY a9 I=>?_
  try dsimp only
  have U:=FN A;refine⟨(Y,i+1),js,⟨i7,?_⟩,i7⟩
  try dsimp only
  rw[aD _ _ s,zf,<-qn,<-M,zd,wj,qH,<-hE];have e3:u++[b8 (E.name.size:Nat)]++je E.name++bS E.object 3++bS E.length 2++E.tries.map b8=u++jf E:=by unfold jf je;simp[qn]
  rw[e3]at I;exact I.bX [0,1]
 ·rw[qg i5]at f;refine⟨o,i4,?_⟩;have e2:a++[b8 (m.objs.length:Nat)]++m.objs.flatMap jf=fX m:=by rw[c];unfold fX;rw[A,g0 rfl];simp[qn]
  rw[e2]at f;exact f.bX [0]
def kp{α:Type}(k:Nat)(f:α->aR)(L:List (Sl×List α)):HP:=⟨λh q=>∀y∈L,Seq h q y.1 k f y.2,λa c y b=>(a y b).ac c,λa d y b=>(a y b).mono d⟩
variable {α:Type} {k:Nat} {L:List (Sl×List α)} {s:Sl} {l:List α}
section
variable {f:α->aR}
theorem aa.QG(H:aa B h0 h As)(k:Nat)(f:α->aR):aa B h0 h (kp k f []::As):=
 (H.comp (.one (A:=kp k f []) (aP.refl _ _) λy a=>qs)).aY
theorem aa.QH(H:aa B h0 h (kp k f L::pm s k f l::As)):aa B h0 h (kp k f ((s,l)::L)::As):=by
 have g:=H.lq;refine g.fM 0 i4 λq ⟨j,i,_,b,c,d,e⟩ y a=>?_;rcases qX.1 a with rfl|a
 ·exact d.mono b
 ·exact(e y a).mono c
end
theorem adM(n:Int):bS n 4=[b8 (zx n (2^24)),b8 (zx n (2^16)),b8 (zx n (2^8)),b8 n]:=by
 have e:zx n (2^0)=n:=jj
 show[b8 (zx n (2^24)),b8 (zx n (2^16)),b8 (zx n (2^8)),b8 (zx n (2^0))]=_;rw[e]
theorem Vy(seq a c:Int)(b:Sl)(l:aM)(h:f9)(m:Rd h b 1 aB l)(x:i0 l<=2^20):ai xJ 104 #[xz xF seq,xz xF a,xz xF c,b] h λv h'=>∃r:Sl,v=r/\Sp h h' [an 5 r 1 aB (jZ seq a c l)]:=by
 refine ts Tryz.func104 ?_;refine⟨i6,i6,i6,?_⟩;have g:min (24:Int).toNat (qG xF)=24:=rfl;have i:min (16:Int).toNat (qG xF)=16:=rfl;have t:min (8:Int).toNat (qG xF)=8:=rfl;rw[g,i,t,dU,dU,dU,dU,dU,dU,dU];have d:=adM seq;generalize b8 (zx seq (2^24))=c1 at d⊢;generalize b8 (zx seq (2^16))=c2 at d⊢;generalize b8 (zx seq (2^8))=c3 at d⊢;generalize b8 seq=c4 at d⊢;have e:jZ seq a c l=dL 2 ([c1,c2,c3,c4]++([b8 a,b8 c,b8 (b.len:Nat)]++l)):=by unfold jZ;rw[d,m.len]
 generalize b8 a=c5 at e⊢;generalize b8 c=c6 at e⊢;generalize b8 (b.len:Nat)=c7 at e⊢;refine(Sp.refl h).lit ag aB gp i4 [c1,c2,c3,c4,c5,c6,c7] i4 (show 7*1<=2^20 by decide) j3 λw u p=>?_;refine p.append ag 0 i4 gp ⟨_,_,i4,i4⟩ i4 i6 (λ_=>rfl) (Seq.up m p.ac) gJ i9 λo q n=>?_;have k:Rd q o 1 aB ([c1,c2,c3,c4,c5,c6,c7]++l):=n.seq 0 i4 λ_=>rfl;have f:i0 ([c1,c2,c3,c4,c5,c6,c7]++l)<=2^40:=i9
 rw[e];have j:[c1,c2,c3,c4,c5,c6,c7]++l=[c1,c2,c3,c4]++([c5,c6,c7]++l):=rfl;rw[<-j];generalize [c1,c2,c3,c4,c5,c6,c7]++l=ll at k f⊢;refine(Dd 2 o ll q k f).mono ?_;rintro _ h3 ⟨r,rfl,s⟩;exact⟨r,i4,r,i4,(aa.comp (Sp.zip n.ac) s)⟩
theorem mQ(x:bF)(m:aw)(h:f9)(A:df h x m)(z:cI m):ai xJ 53 #[fN x] h λv h'=>∃r:Sl,v=r/\Sp h h' [fP r (aX m)]:=by
 refine ts Tryz.func53 ?_ (.two .n (.two .n (.two .n (.two .n (.two (.two .n (.inn (.loop [(5,cF),(16,aT)] [(5,8),(16,39)] .n))) .n))))) (args:=[x]);refine(Sp.refl h).boxed λK J w=>?_;refine⟨x,(w.box 0 i4).aE _ i4,(Vx x m J (A.up w.ac) z).mono ?_⟩;rintro _ U ⟨b,rfl,M⟩;have j:=w.comp M;have k:=FO m z;obtain⟨l,u⟩:∃l,l=fX m:=⟨_,rfl⟩
 rw[<-u]at j k;have O:=(j.own 1 i4).len;have q:=(j.own 1 i4).cap;refine⟨b,i4,i6,?_⟩;have d:qe xF (yn (qe xF ((qe xF (((b.len:Nat):Int)+(48:Int)))-(1:Int))) (48:Int))=(ik l:Int):=by rw[af ((b.len:Int)+48),af ((b.len:Int)+48-1),Int.tdiv_eq_ediv_of_nonneg i5];unfold ik;rw[af (((b.len:Int)+48-1)/48)];omega
 have G:ik l<=3000:=by unfold ik;omega
 rw[d];obtain⟨g,c⟩:∃g:bY,g=aX m:=⟨_,rfl⟩
 have y:i0 g=ik l:=by rw[c,u];simp[aX]
 have f:=j.te 34 5 1 aB;refine aq (λt:Sl×Nat=>(t.1,(t.2:Int))) (λt h'=>t.2<=ik l/\Sp h h' [fP t.1 (g.take t.2),av K 85 (bh x),an 5 b 1 aB l]) (λt=>ik l-t.2) (⟨eH,0,0⟩,0) i4 ⟨jj,f⟩ ?_;rintro⟨o,i⟩ h3 ⟨T,f⟩;dsimp only at*;refine ae (λe=>?_) (λe=>?_)
 ·have s:i<ik l:=i5
  have B:48*i<i0 l:=by unfold ik at s;omega
  rw[af ((i:Int)*48),af ((i:Int)+1),af (((i:Int)+1)*48)];obtain⟨a,P⟩:∃a:Nat,a=min (48*i+48) l.length:=⟨_,rfl⟩
  have p:(if((i:Int)+1)*48<((b.len:Nat):Int)then((i:Int)+1)*48 else((b.len:Nat):Int))=(a:Int):=by split<;>omega
  rw[p];refine⟨m.seq,by rw[<-A.seq];exact(f.box 1 i4).cell0 i4,⟨i5,i5,i5⟩,?_⟩;have I:((i:Int)*48).toNat=48*i:=i5
  rw[I,qj];have D:=((f.seq 2 i4 λ_=>rfl).drop (48*i) q).take (a-48*i) l9;have e2:(l.drop (48*i)).take (a-48*i)=(l.drop (48*i)).take 48:=by
   by_cases S:48*i+48<=i0 l
   ·rw[show a-48*i=48 by omega]
   ·rw[qg l9,qg l9]
  rw[e2,zV]at D;refine(Vy m.seq i (ik l) ⟨_,a-48*i,b.cap-48*i⟩ _ h3 (by rw[zV];exact D) i9).mono ?_;rintro _ Q ⟨r,rfl,H⟩;have E:=(f.bR H).aK 4 [1,0,2,3];refine⟨r,i4,trivial,?_⟩;refine E.nN ag bi fu i4 [r] i4 (show 1*1<=2^20 by decide) i4 trivial ?_;refine E.AJ ag fu i9 λF R N=>⟨trivial,?_⟩
  refine⟨(F,i+1),i4,⟨i7,?_⟩,i7⟩
  try dsimp only
  rw[aD _ _ (show i<i0 g by omega)];have L:g[i]'(by omega)=jZ m.seq i (ik l) ((l.drop (48*i)).take 48):=by subst c;subst u;simp[aX]
  rw[L];exact N
 ·rw[qg i5,c]at f;exact⟨o,i4,f.bX [0]⟩
theorem OM(s:Sl)(a:List dP)(h:f9)(b:Rd h s 4 cD a)(g:i0 a<=2^30):ai xJ 153 #[s] h λv h'=>∃r:Sl,v=r/\Sp h h' [an 111 r 4 cD a]:=by
 refine ts Tryz.func153 ?_;refine bc (λe=>?_) (λe=>?_)
 ·have:=b.isNil e;subst this;exact⟨⟨eH,0,0⟩,i4,(Sp.refl h).nil 111 4 cD⟩
 ·refine(Sp.refl h).lit ag cD YD i4 ([]:List dP) i4 i6 i4 λi k c=>?_;refine c.append ag 0 i4 YD ⟨_,_,i4,i4⟩ i4 i6 (λ_=>rfl) (Seq.up b c.ac) QF i9 λf j d=>?_;exact⟨f,i4,d⟩
def Bf(pool:List (Sl×au))(p:dP×Qw.ci):Prop:=(p.1.1=p.2.name/\p.1.2.1=p.2.object/\p.1.2.2.1=p.2.length)/\(p.1.2.2.2,p.2.tries)∈pool
theorem aa.FP{B:ak}{n h:f9}{As:List HP}{y:bF}{m:aw}{L:List (dP×Qw.ci)}{pool:List (Sl×au)}(d:y.1=m.seq/\y.2.1=m.next/\(y.2.2.1,y.2.2.2.1,y.2.2.2.2.1)=m.p/\y.2.2.2.2.2.1=m.extra)(l:L.map zH=m.objs)(z:∀p∈L,Bf pool p)
  (H:aa B n h (kp 1 az pool::an 3 y.2.2.2.2.2.2.1 1 az m.drives::an 111 y.2.2.2.2.2.2.2 4 cD (L.map qL)::As)):aa B n h (cU y m::As):=by
 have k:=(H.own 2 i4)
 have i:=(H.own 1 i4)
 have o:=((H.freeze 1 i4 λ_=>rfl).freeze 2 i4 λ_=>rfl).lq.lq;refine o.fM 0 i4 λq ⟨F,E,_,b,c,t,D⟩=>?_;obtain⟨I,G,_,s,A,z3,z4⟩:=D;refine⟨d.1,d.2.1,d.2.2.1,d.2.2.2,z3.mono λx g=>c x (s x g),⟨L.map qL,t.mono b,by rw[<-l];simp,λj r e a f=>?_⟩,i.cap,k.cap⟩;rw[<-l]at f;rw[qO]at a f;cases hj:L[j]? with
 |none=>rw[hj]at a;cases a
 |some p=>
  rw[hj]at a f;have v:=zQ.inj (show dB p.1=dB r from a);have e2:=zQ.inj (show dB p.2=dB e from f);subst v;subst e2;obtain⟨w,u⟩:=z p (w9 hj);exact⟨w,(z4 _ u).mono λx g=>c x (A x g)⟩
theorem pA(x:bF)(m:aw)(h:f9)(B:df h x m)(H:cI m):ai xJ 91 #[fN x] h λv h'=>∃(y:bF) (L:List (dP×Qw.ci)) (pool:List (Sl×au)),v=fN y/\(y.1=m.seq/\y.2.1=m.next/\(y.2.2.1,y.2.2.2.1,y.2.2.2.2.1)=m.p/\y.2.2.2.2.2.1=m.extra)/\L.map zH=m.objs/\(∀p∈L,Bf pool p)/\
  Sp h h' [kp 1 az pool,an 3 y.2.2.2.2.2.2.1 1 az m.drives,an 111 y.2.2.2.2.2.2.2 4 cD (L.map qL)]:=by
 refine ts Tryz.func91 ?_ (.two .n (.two (.join [] [(4,12)] .n) (.two (.two .n (.inn (.loop [(15,aT)] [(3,4),(15,31)] .n))) .n))) [(1,(.l [0,1,3,4,2,6,5,7,8,9]))] (args:=[x]);refine(Sp.refl h).boxed λT k H1=>?_;refine H1.alloc ag i4 λU z R=>?_;have E:=R.box 0 i4;have Z:∀{h':f9} {As:List HP},Sp h h' As->df h' x m:=λ{h' As} H'=>B.up H'.ac;obtain⟨b,I⟩:=bD.fix B.objs;have ad:=I.2.1;have ab:=H.dr;have am:=H.ob;refine aO ⟨x.2.2.2.2.2.2.1,E.cell i4,x.2.2.2.2.2.2.2,E.cell i4,?_⟩;refine(jC _ m.drives z (Z R).drives i5).mono ?_;rintro _ h3 ⟨d,rfl,R3⟩;have M:=R.comp R3;refine⟨d,i4,⟨(M.box 0 i4).cell i4,trivial⟩,?_⟩;refine(OM _ b h3 (ng.up I M.ac).1 i5).mono ?_;rintro _ h4 ⟨o,rfl,Y⟩;have H4:=M.comp Y;refine⟨o,i4,trivial,?_⟩;refine H4.store ag 0 i4 i4 6 [d] i4 i4 i4 k7 λh5 H5=>⟨trivial,?_⟩
 refine H5.store ag 0 i4 i4 7 [o] i4 i4 i4 k7 λh6 u=>⟨trivial,?_⟩
 obtain⟨y,w⟩:∃y:bF,y=(x.1,x.2.1,x.2.2.1,x.2.2.2.1,x.2.2.2.2.1,x.2.2.2.2.2.1,d,o):=⟨_,rfl⟩
 have u:Sp h h6 [av T 85 (bh y),av U 85 [xz xF 0,xz xF 0,xz xF 0,xz xF 0,xz xF 0,xz xF 0,xA eH 0 0,xA eH 0 0],an 3 d 1 az m.drives,an 111 o 4 cD b]:=by rw[w];exact u
 have c:y.2.2.2.2.2.2.2=o:=by rw[w]
 have O:y.2.2.2.2.2.2.1=d:=by rw[w]
 refine⟨o,by rw[<-c];exact(u.box 0 i4).cell i4,?_⟩;have al:=(u.own 3 i4).len;have u:=u.QG 1 az;refine aq (λt:List dP×List (Sl×au)=>(t.1.length:Int)) (λt h'=>t.1.length<=m.objs.length/\(∀(j:Nat) r e,t.1[j]?=dB r->m.objs[j]?=dB e->(r.1=e.name/\r.2.1=e.object/\r.2.2.1=e.length)/\(r.2.2.2,e.tries)∈t.2)/\Sp h h' [kp 1 az t.2,av T 85 (bh y),av U 85 [xz xF 0,xz xF 0,xz xF 0,xz xF 0,xz xF 0,xz xF 0,xA eH 0 0,xA eH 0 0],an 3 d 1 az m.drives,an 111 o 4 cD (t.1++b.drop t.1.length)]) (λt=>m.objs.length-t.1.length) ([],[]) i4 ⟨jj,λj r e k=>by simp at k,u⟩ ?_;rintro⟨a,pool⟩ h7 ⟨hi,F,q⟩;dsimp only at*;refine ae (λe=>?_) (λe=>?_)
 ·have s:a.length<m.objs.length:=i5
  have F7:=ng.up I q.ac;obtain⟨⟨y1,y2,y3⟩,y4⟩:=Fix.row F7 s;have f:(a++b.drop a.length)[a.length]'(by simp;omega)=b[a.length]'(by omega):=jj
  obtain⟨S,ha,zz,hc,rfl⟩:=(q.seq 4 rfl λ_=>rfl).dY (g:=cD) (i:=(a.length:Int)) a.length rfl i9 (b[a.length]'(by omega)) (by rw[f]) (K:=λt=>t=b[a.length]'(by omega)) i4;refine⟨o,by rw[<-c];exact(q.box 1 i4).cell i4,o,by rw[<-c];exact(q.box 1 i4).cell i4,S,ha,_,hc.2.2.2.1,?_⟩;have X:=(H.nm _ (qf s)).2;refine(jC _ m.objs[a.length].tries h7 y4 i5).mono ?_;rintro _ h8 ⟨t,rfl,R8⟩;have A:=q.bR R8;refine⟨t,i4,⟨by rw[<-c];exact(A.box 2 i4).cell i4,by rw[<-c];exact(A.box 2 i4).cell i4,trivial⟩,?_⟩;refine A.XT ag 5 i4 (λ_=>rfl) i4 a.length i4 i9 3 [t] jj ((b[a.length]'(by omega)).1,(b[a.length]'(by omega)).2.1,(b[a.length]'(by omega)).2.2.1,t) i4 i4 i4 (by rw[f];simp[cD]) λh9 D=>⟨trivial,?_⟩
  have D:=(D.freeze 0 i4 λ_=>rfl).aK 6 [1,0,2,3,4,5];have D:=D.QH;refine⟨(a++[((b[a.length]'(by omega)).1,(b[a.length]'(by omega)).2.1,(b[a.length]'(by omega)).2.2.1,t)],(t,m.objs[a.length].tries)::pool),by simp only[qp,List.length_singleton];rw[af _];rfl,⟨i9,λj r e k z=>?_,?_⟩,i9⟩
  ·dsimp only at k⊢;by_cases N:j<a.length
   ·rw[qm N]at k;obtain⟨g1,W⟩:=F j r e k z;exact⟨g1,List.mem_cons_of_mem _ W⟩
   ·have J:j=a.length:=by have:=(ql.1 k).1;simp at this;omega
    subst J;rw[qi (qk _),qZ]at k;simp at k;rw[qc s]at z;injection z with z
    subst k;subst z;exact⟨⟨y1,y2,y3⟩,List.mem_cons_self⟩
  ·try dsimp only
   have e4:(a++b.drop a.length).set a.length ((b[a.length]'(by omega)).1,(b[a.length]'(by omega)).2.1,(b[a.length]'(by omega)).2.2.1,t)=a++[((b[a.length]'(by omega)).1,(b[a.length]'(by omega)).2.1,(b[a.length]'(by omega)).2.2.1,t)]++b.drop (a++[((b[a.length]'(by omega)).1,(b[a.length]'(by omega)).2.1,(b[a.length]'(by omega)).2.2.1,t)]).length:=by rw[qQ _ _ (qk _),qZ,qI (show a.length<b.length by omega),zh];simp
   rw[<-e4];exact D
 ·have ah:a.length=m.objs.length:=i5
  rw[q8 i5,qH]at q;refine⟨y,(q.box 1 i4).aE _ i4,?_⟩;refine q.storeAll ag 2 i4 i4 (bh y) i4 i4 i4 i4 λh8 A=>?_;have P:(a.zip m.objs).map qL=a:=List.map_fst_zip i5;have Q:(a.zip m.objs).map zH=m.objs:=List.map_snd_zip i5;refine⟨y,(A.box 2 i4).aE _ i4,y,a.zip m.objs,pool,i4,⟨by rw[w];exact B.seq,by rw[w];exact B.next,by rw[w];exact B.p,by rw[w];exact B.extra⟩,Q,λp V=>?_,?_⟩
  ·obtain⟨j,N,rfl⟩:=qD V;have G:j<a.length/\j<m.objs.length:=by simp at N;omega
   have:=F j _ _ (qc G.1) (qc G.2);rw[vb];exact this
  ·rw[P,O,c];exact A.bX [0,3,4]
theorem GY(x:bF)(m:aw)(h:f9)(a:df h x m)(b:cI m):ai xJ 91 #[fN x] h λv h'=>∃y:bF,v=fN y/\Sp h h' [cU y m]:=by refine(pA x m h a b).mono ?_;rintro _ h' ⟨y,L,pool,rfl,e,c,d,H⟩;exact⟨y,i4,aa.FP e c d H⟩
abbrev bw:=Int×Int×Int×Int×Int×Int×Int×Sl
abbrev cQ(x:bw):aR:=[xz xF x.1,xz xF x.2.1,xz xF x.2.2.1,xz xF x.2.2.2.1,xz xF x.2.2.2.2.1,xz xF x.2.2.2.2.2.1,xz xH x.2.2.2.2.2.2.1,x.2.2.2.2.2.2.2]
abbrev recv(x:bw):Value:=xE #[xz xF x.1,xz xF x.2.1,xz xF x.2.2.1,xz xF x.2.2.2.1,xz xF x.2.2.2.2.1,xz xF x.2.2.2.2.2.1,xz xH x.2.2.2.2.2.2.1,x.2.2.2.2.2.2.2]
theorem abH:∀x,∀c∈cQ x,c.oneCell'=eR:=by intro x c a;simp[cQ]at a;rcases a with rfl|rfl|rfl|rfl|rfl|rfl|rfl|rfl<;>rfl
def jW(x y:Int):Int:=if x<y then-1 else if x>y then 1 else 0
def lD(a b:bw):Int:=if jW a.1 b.1≠0 then jW a.1 b.1 else if jW a.2.1 b.2.1≠0 then jW a.2.1 b.2.1 else jW a.2.2.1 b.2.2.1
def ct(a b:bw):Bool:=decide (lD a b<=0)
theorem jh(x y:Int):(x<y/\jW x y=-1)∨(x>y/\jW x y=1)∨(x=y/\jW x y=0):=by
 unfold jW;by_cases a:x<y
 ·exact .inl ⟨a,g0 a⟩
 ·by_cases b:x>y
  ·exact .inr (.inl ⟨b,by rw[g9 a,g0 b]⟩)
  ·exact .inr (.inr ⟨i5,by rw[g9 a,g9 b]⟩)
theorem Ah(a b:bw):lD a b<=0↔a.1<b.1∨(a.1=b.1/\(a.2.1<b.2.1∨(a.2.1=b.2.1/\a.2.2.1<=b.2.2.1))):=by
 unfold lD;rcases jh a.1 b.1 with⟨h1,e1⟩|⟨h1,e1⟩|⟨h1,e1⟩
 ·rw[e1,g0 i6];omega
 ·rw[e1,g0 i6];omega
 ·rw[e1,g9 i6];rcases jh a.2.1 b.2.1 with⟨h2,e2⟩|⟨h2,e2⟩|⟨h2,e2⟩
  ·rw[e2,g0 i6];omega
  ·rw[e2,g0 i6];omega
  ·rw[e2,g9 i6];rcases jh a.2.2.1 b.2.2.1 with⟨h3,e3⟩|⟨h3,e3⟩|⟨h3,e3⟩<;>rw[e3]<;>omega
theorem pB(a b:bw):lD a b<0↔¬ct b a=eR:=by
 unfold ct;rw[decide_eq_true_eq,Ah];unfold lD;rcases jh a.1 b.1 with⟨h1,e1⟩|⟨h1,e1⟩|⟨h1,e1⟩
 ·rw[e1,g0 i6];omega
 ·rw[e1,g0 i6];omega
 ·rw[e1,g9 i6];rcases jh a.2.1 b.2.1 with⟨h2,e2⟩|⟨h2,e2⟩|⟨h2,e2⟩
  ·rw[e2,g0 i6];omega
  ·rw[e2,g0 i6];omega
  ·rw[e2,g9 i6];rcases jh a.2.2.1 b.2.2.1 with⟨h3,e3⟩|⟨h3,e3⟩|⟨h3,e3⟩<;>rw[e3]<;>omega
theorem Vz(a b:bw):lD a b=0↔(a.1=b.1/\a.2.1=b.2.1/\a.2.2.1=b.2.2.1):=by
 unfold lD;rcases jh a.1 b.1 with⟨h1,e1⟩|⟨h1,e1⟩|⟨h1,e1⟩
 ·rw[e1,g0 i6];omega
 ·rw[e1,g0 i6];omega
 ·rw[e1,g9 i6];rcases jh a.2.1 b.2.1 with⟨h2,e2⟩|⟨h2,e2⟩|⟨h2,e2⟩
  ·rw[e2,g0 i6];omega
  ·rw[e2,g0 i6];omega
  ·rw[e2,g9 i6];rcases jh a.2.2.1 b.2.2.1 with⟨h3,e3⟩|⟨h3,e3⟩|⟨h3,e3⟩<;>rw[e3]<;>omega
theorem dQ:Ord ct:=⟨λa b c e d=>by
 unfold ct at*;rw[decide_eq_true_eq,Ah]at*;omega,λa b=>by
 unfold ct;rw[Bool.or_eq_true,decide_eq_true_eq,decide_eq_true_eq,Ah,Ah];omega⟩
theorem MM{α:Type}(A B C:List α)(x y:α){i j:Nat}(b:i=i0 A)(c:j=i0 A+1+i0 B):
  (A++x::(B++y::C))[i]?=dB x/\(A++x::(B++y::C))[j]?=dB y/\((A++x::(B++y::C)).set i y).set j x=A++y::(B++x::C)/\((A++x::(B++y::C)).set j x).set i y=A++y::(B++x::C):=by
 subst b;subst c;have a:i0 A+1+i0 B-i0 A=i0 B+1:=i5
 refine⟨by rw[qi (qk _),qZ];rfl,?_,?_,?_⟩
 ·rw[qi i5,a,qq,qi (qk _),qZ];rfl
 ·rw[qQ _ _ (qk _),qZ,zh,qQ _ _ i5,a,zo,qQ _ _ (qk _),qZ,zh]
 ·rw[qQ _ _ (show A.length<=i0 A+1+i0 B by omega),a,zo,qQ _ _ (qk _),qZ,zh,qQ _ _ (qk _),qZ,zh]
abbrev adN:bO C.toxZ 150 153 8 [xz xF 0,xz xF 0,xz xF 0,xz xF 0,xz xF 0,xz xF 0,xz xH 0,xA eH 0 0] 80:=⟨_,_,i4,i4,i4,i4,i4,i4⟩
theorem rR(x y:Int)(h:f9):ai xJ 204 #[xz xF x,xz xF y] h λv h'=>v=xz xF (jW x y)/\h'=h:=by
 refine ts Tryz.func204 ?_;have a:∀z:Int,ai xJ 234 #[xz xF z] h λv h'=>v=xD eS/\h'=h:=λz=>by
  refine ts Tryz.func234 ?_;exact⟨jj,i4⟩
 refine(a x).mono ?_;rintro _ _ ⟨rfl,rfl⟩;refine⟨_,i4,(a y).mono ?_⟩;rintro _ _ ⟨rfl,rfl⟩;refine⟨_,i4,bc (λe=>j1) λ_=>bc (λe=>j1) λ_=>?_⟩;refine ae (λe=>⟨by rw[jW,g0 e],i4⟩) λe=>ae (λe2=>⟨by rw[jW,g9 e,g0 e2],i4⟩) λe2=>⟨by rw[jW,g9 e,g9 e2],i4⟩
theorem oJ(a b:bw)(h:f9):ai xJ 158 #[recv a,recv b] h λv h'=>v=xz xF (lD a b)/\Sp h h' []:=by
 refine ts Tryz.func158 ?_ .n [(1,(.l [0,1,2,3,5,6,7,8,10,11,12,13,4,9,14,15,16,17]))] (args:=[a,b]);refine(Sp.refl h).boxed λD N J=>J.boxed λA k o=>?_;have x:=o.box 0 i4;have w:=o.box 1 i4;have y:f8 k (D.add 1)=dB (xz xF a.2.1):=x.cell i4;have B:f8 k (A.add 1)=dB (xz xF b.2.1):=w.cell i4;have c3:f8 k (D.add 2)=dB (xz xF a.2.2.1):=x.cell i4;have u:f8 k (A.add 2)=dB (xz xF b.2.2.1):=w.cell i4;refine⟨a.1,x.cell0 i4,b.1,w.cell0 i4,a.2.1,y,b.2.1,B,a.2.2.1,c3,b.2.2.1,u,(rR _ _ k).mono ?_⟩;rintro _ _ ⟨rfl,rfl⟩;refine⟨_,i4,⟨u,c3,B,y,trivial⟩,(rR _ _ _).mono ?_⟩;rintro _ _ ⟨rfl,rfl⟩;refine⟨_,i4,⟨u,c3,trivial⟩,(rR _ _ _).mono ?_⟩;rintro _ K ⟨rfl,rfl⟩;refine⟨_,i4,trivial,?_⟩;refine o.nN ag az ⟨_,_,i4,i4,i4,i4,i4,i4⟩ i4 [jW a.1 b.1,jW a.2.1 b.2.1,jW a.2.2.1 b.2.2.1] i4 (show 3*1<=2^20 by decide) i4 trivial ?_;refine o.lit ag az ⟨_,_,i4,i4,i4,i4,i4,i4⟩ i4 [jW a.1 b.1,jW a.2.1 b.2.1,jW a.2.2.1 b.2.2.1] i4 (show 3*1<=2^20 by decide) i4 λr z p=>?_;refine(Af r (R:=λv h'=>v=xz xF (lD a b)/\h'=z) ?_).mono ?_
 ·skip
  have E:=p.seq 2 i4 λ_=>rfl;have I:=(p.own 2 i4).len;obtain⟨L,d⟩:∃L,L=[jW a.1 b.1,jW a.2.1 b.2.1,jW a.2.2.1 b.2.2.1]:=⟨_,rfl⟩
  rw[<-d]at E I;have H:i0 L=3:=by rw[d];rfl
  refine aq (λi:Nat=>(i:Int)) (λi h'=>i<=3/\(∀j,j<i->L[j]?=dB 0)/\h'=z) (λi=>3-i) 0 i4 ⟨i5,i5,i4⟩ ?_;rintro i F ⟨O,m,rfl⟩;have c:=λh0=>by have:=m 0 h0;rw[d]at this;simpa using this
  have f:=λh0=>by have:=m 1 h0;rw[d]at this;simpa using this
  have s:=λh0=>by have:=m 2 h0;rw[d]at this;simpa using this
  refine ae (λe=>?_) (λe=>?_)
  ·have g:i<i0 L:=by have G:=e;omega
   refine E.bo i i4 g L[i] i4 ?_;refine bz (λe2=>⟨?_,i4⟩) (λe2=>?_)
   ·congr 1;unfold lD;have:i=0∨i=1∨i=2:=i5
    subst d;rcases this with rfl|rfl|rfl
    ·exact(g0 (e2)).symm
    ·rw[g9 (by rw[c i5];simp)];exact(g0 (e2)).symm
    ·rw[g9 (by rw[c i5];simp),g9 (by rw[f i5];simp)];rfl
   ·refine⟨i+1,j0,⟨i5,λj M=>?_,i4⟩,i5⟩;by_cases t:j=i
    ·subst t;rw[qc g,e2]
    ·exact m j i5
  ·have q:i=3:=by have G:=e;omega
   subst q;refine⟨?_,i4⟩;unfold lD;rw[c i5,f i5,s i5];rfl
 ·rintro _ F ⟨rfl,rfl⟩;exact⟨_,i4,trivial,i4,.zip p.ac⟩
abbrev cE(s:Sl)(d:List bw):HP:=an 153 s 8 cQ d
section
variable {d:List bw}
theorem pC(X U M V Y:List bw)(n:Nat)(a b:Int)(N:i0 U=n)(R:i0 V=n)(L:a=(i0 X:Int))(A:b=(i0 X+n+i0 M:Nat))(z:i0 X+n+i0 M+n+i0 Y<=2^40)(H:aa B h0 h (cE s (X++(U++(M++(V++Y))))::As)):
  ai xJ 355 #[s,xz xF a,xz xF b,xz xF n,.func (.func 158) #[] #[]] h λv h'=>v=.tuple #[]/\aa B h0 h' (cE s (X++(V++(M++(U++Y))))::As):=by
 refine ts Tryz.func355 ?_ (.two .n (.inn (.loop [(10,aT)] [(10,38)] .n))) (args:=[s,(a:Int),(b:Int),(n:Int),(.func (.func 158) #[] #[])]);subst L;subst A;refine aq (λk:Nat=>(k:Int)) (λk h'=>k<=n/\aa B h0 h' (cE s (X++(V.take k++U.drop k++(M++(U.take k++V.drop k++Y))))::As)) (λk=>n-k) 0 i4 ⟨i5,l4⟩ ?_;rintro k O ⟨P,f⟩;refine ae (λe=>?_) (λe=>?_)
 ·have I:k<n:=i5
  have m:k<i0 U:=i5
  have l:k<i0 V:=i5
  have d:X++(V.take k++U.drop k++(M++(U.take k++V.drop k++Y)))=(X++V.take k)++U[k]::((U.drop (k+1)++(M++U.take k))++V[k]::(V.drop (k+1)++Y)):=by rw[qI m,qI l];simp only[qn,zp,wg]
  have c:X++(V.take (k+1)++U.drop (k+1)++(M++(U.take (k+1)++V.drop (k+1)++Y)))=(X++V.take k)++V[k]::((U.drop (k+1)++(M++U.take k))++U[k]::(V.drop (k+1)++Y)):=by rw[aD V k l,aD U k m];simp only[qn,zp,wg]
  rw[d]at f;obtain⟨w,u,x,J⟩:=MM (X++V.take k) (U.drop (k+1)++(M++U.take k)) (V.drop (k+1)++Y) U[k] V[k] (i:=i0 X+k) (j:=i0 X+n+i0 M+k) i9 i9;obtain⟨D,F⟩:∃D,D=(X++V.take k)++U[k]::((U.drop (k+1)++(M++U.take k))++V[k]::(V.drop (k+1)++Y)):=⟨_,rfl⟩
  rw[<-F]at f w u x J;have r:=(ql.1 w)
  have t:=(ql.1 u)
  obtain⟨g,p⟩:=r;obtain⟨o,q⟩:=t;have E:qe xF ((i0 X:Int)+k)=((i0 X+k:Nat):Int):=j5
  have y:qe xF (((i0 X+n+i0 M:Nat):Int)+k)=((i0 X+n+i0 M+k:Nat):Int):=j5
  rw[E,y];refine(f.seq 0 i4 λ_=>rfl).dY _ i4 o V[k] (by rw[q]) ?_;refine(f.seq 0 i4 λ_=>rfl).dY _ i4 g U[k] (by rw[p]) ?_;refine f.set ag 0 i4 (λ_=>rfl) i4 (i0 X+k) i4 g V[k] i4 i4 i4 λQ G=>⟨trivial,?_⟩
  refine G.set ag 0 i4 (λ_=>rfl) i4 (i0 X+n+i0 M+k) i4 p9 U[k] i4 i4 i4 λh3 K=>⟨trivial,?_⟩
  refine⟨k+1,j0,⟨i5,?_⟩,i5⟩;rw[c,<-x];exact K
 ·have:k=n:=i5
  subst this;rw[qg i5,q8 i5,qg i5,q8 i5]at f;refine⟨i4,?_⟩;simpa using f
theorem ON(X U V Y:List bw)(a m b:Int)(G:0<i0 U)(M:0<i0 V)(L:a=(i0 X:Int))(x:m=(i0 X+i0 U:Nat))(F:b=(i0 X+i0 U+i0 V:Nat))(E:i0 X+i0 U+i0 V+i0 Y<=2^40)(H:aa B h0 h (cE s (X++(U++(V++Y)))::As)):
  ai xJ 336 #[s,xz xF a,xz xF m,xz xF b,.func (.func 158) #[] #[]] h λv h'=>v=.tuple #[]/\aa B h0 h' (cE s (X++(V++(U++Y)))::As):=by
 refine ts Tryz.func336 ?_ (.two .n (.two .n (.two (.inn (.loop [(10,aT),(11,aT)] [(10,12),(18,50)] .n)) .n))) (args:=[s,(a:Int),(m:Int),(b:Int),(.func (.func 158) #[] #[])]);subst L;subst x;subst F;have I:qe xF (((i0 X+i0 U:Nat):Int)-i0 X)=(i0 U:Int):=j5
 have e2:qe xF (((i0 X+i0 U+i0 V:Nat):Int)-(i0 X+i0 U:Nat))=(i0 V:Int):=j5
 rw[I,e2];refine aq (λt:List bw×List bw×List bw×List bw=>((i0 t.2.1:Int),(i0 t.2.2.1:Int))) (λt h'=>0<i0 t.2.1/\0<i0 t.2.2.1/\X.length+i0 t.1+i0 t.2.1=i0 X+i0 U/\V++U=t.1++((t.2.2.1++t.2.1)++t.2.2.2)/\aa B h0 h' (cE s (X++(t.1++(t.2.1++(t.2.2.1++(t.2.2.2++Y)))))::As)) (λt=>i0 t.2.1+i0 t.2.2.1) ([],U,V,[]) i4 ⟨G,M,jj,jj,l4⟩ ?_;rintro⟨P,A,c,Q⟩ r ⟨O,N,x,p,u⟩;dsimp only at*;have f:=congrArg vJ p;simp only[qp]at f;refine bz (λe=>ae (λJ=>?_) λJ=>?_) (λe=>?_)
 ·--the left one is longer
  have q:i0 c<i0 A:=i5
  have D:A=A.take c.length++A.drop c.length:=(qB _ _).symm;have o:i0 (A.take c.length)=i0 c:=i9
  have g:qe xF (((i0 X+i0 U:Nat):Int)-i0 A)=(i0 (X++P):Int):=by rw[af _];simp;omega
  rw[g];have d:aa B h0 r (cE s ((X++P)++(A.take c.length++(A.drop c.length++(c++(Q++Y)))))::As):=by
   have:(X++P)++(A.take c.length++(A.drop c.length++(c++(Q++Y))))=X++(P++(A++(c++(Q++Y)))):=by
    conv=>rhs;rw[D]
    simp only[qn,zp,wg]
   rw[this];exact u
  refine(pC (X++P) (A.take c.length) (A.drop c.length) c (Q++Y) c.length _ _ o i4 i4 i9 i9 d).mono ?_;rintro _ y ⟨rfl,l⟩;refine⟨(),i4,(P++c,A.drop c.length,A.take c.length,Q),?_,⟨lz,i7,lz,?_,?_⟩,lz⟩
  ·try dsimp only
   rw[o,af _];simp;omega
  ·try dsimp only
   rw[p,qB];simp
  ·try dsimp only
   have:X++((P++c)++(A.drop c.length++(A.take c.length++(Q++Y))))=(X++P)++(c++(A.drop c.length++(A.take c.length++(Q++Y)))):=jj
   rw[this];exact l
 ·have q:i0 A<i0 c:=i5
  obtain⟨j,R⟩:∃j,j=i0 c-i0 A:=⟨_,rfl⟩
  have K:c=c.take j++c.drop j:=(qB _ _).symm;have k:i0 (c.drop j)=i0 A:=i9
  have i:i0 (c.take j)=j:=i9
  have g:qe xF (((i0 X+i0 U:Nat):Int)-i0 A)=(i0 (X++P):Int):=by rw[af _];simp;omega
  have z:qe xF ((qe xF (((i0 X+i0 U:Nat):Int)+i0 c))-i0 A)=((i0 (X++P)+i0 A+i0 (c.take j):Nat):Int):=by rw[af (((i0 X+i0 U:Nat):Int)+i0 c),af _,i];simp;omega
  rw[g,z];have d:aa B h0 r (cE s ((X++P)++(A++(c.take j++(c.drop j++(Q++Y)))))::As):=by
   have:(X++P)++(A++(c.take j++(c.drop j++(Q++Y))))=X++(P++(A++(c++(Q++Y)))):=by
    conv=>rhs;rw[K]
    simp only[qn,zp,wg]
   rw[this];exact u
  refine(pC (X++P) A (c.take j) (c.drop j) (Q++Y) A.length _ _ i4 k i4 i4 i9 d).mono ?_;rintro _ y ⟨rfl,l⟩;refine⟨(),i4,(P,c.drop j,c.take j,A++Q),?_,⟨i7,i7,i7,?_,?_⟩,i7⟩
  ·try dsimp only
   rw[i,k,af _];congr 1;omega
  ·try dsimp only
   rw[p,qB];simp
  ·try dsimp only
   have:X++(P++(c.drop j++(c.take j++((A++Q)++Y))))=(X++P)++(c.drop j++(c.take j++(A++(Q++Y)))):=jj
   rw[this];exact l
 ·have w:i0 A=i0 c:=i5
  have g:qe xF (((i0 X+i0 U:Nat):Int)-i0 A)=(i0 (X++P):Int):=by rw[af _];simp;omega
  rw[g];have d:aa B h0 r (cE s ((X++P)++(A++([]++(c++(Q++Y)))))::As):=by
   have:(X++P)++(A++([]++(c++(Q++Y))))=X++(P++(A++(c++(Q++Y)))):=jj
   rw[this];exact u
  refine(pC (X++P) A [] c (Q++Y) A.length _ _ i4 w.symm i4 i9 i9 d).mono ?_;rintro _ y ⟨rfl,l⟩;refine⟨(),i4,i4,?_⟩;have:X++(V++(U++Y))=(X++P)++(c++([]++(A++(Q++Y)))):=by
   have:V++(U++Y)=(V++U)++Y:=jj
   rw[this,p];simp
  rw[this];exact l
end
theorem SI(l:aM)(x:UInt8):db (l++[x])=db l*256+x.toNat:=by unfold db;rw[List.foldl_append];rfl
theorem MN:∀l:aM,i0 l<=4->0<=db l/\db l<4294967296/\(i0 l<=3->db l<16777216)
 |[],_=>by simp[db]
 |[a],_=>by have:=a.toNat_lt;simp only[db,zr,wx];omega
 |[a,b],_=>by have:=a.toNat_lt;have:=b.toNat_lt;simp only[db,zr,wx];omega
 |[a,b,c],_=>by have:=a.toNat_lt;have:=b.toNat_lt;have:=c.toNat_lt;simp only[db,zr,wx];omega
 |[a,b,c,d],_=>by have:=a.toNat_lt;have:=b.toNat_lt;have:=c.toNat_lt;have:=d.toNat_lt;simp only[db,zr,wx,zc,yE];omega
 |_::_::_::_::_::_,h=>m0
theorem adO(n x:Nat)(f:n<2^32)(e:x<256):qe xF (((qN (qG xF) (qe xF ((n:Int)*2^min (8:Int).toNat (qG xF)))|||qN (qG xF) (qe xF (x:Int))).toNat:Nat):Int)=(n:Int)*256+x:=by
 have c:min (8:Int).toNat (qG xF)=8:=rfl;rw[c];have d:qe xF ((n:Int)*2^8)=((n*256:Nat):Int):=by rw[Qw.af _];omega
 have e2:qe xF (x:Int)=((x:Nat):Int):=Qw.af _;rw[d,e2];have a:(qN (qG xF) ((n*256:Nat):Int)|||qN (qG xF) ((x:Nat):Int)).toNat=n*256+x:=by show((qN 64 ((n*256:Nat):Int)|||qN 64 ((x:Nat):Int):BitVec 64)).toNat=n*256+x;rw[BitVec.toNat_or,w8,w8,wQ,wQ,wh i5,wh i5];have:=Nat.shiftLeft_add_eq_or_of_lt (b:=x) (i:=8) i5 n;rw[Nat.shiftLeft_eq,show(2:Nat)^8=256 from rfl]at this;omega
 rw[a,Qw.af _];omega
def gq:iF bw cP:=⟨λh q a b=>(a.1=b.object/\a.2.1=b.block/\a.2.2.1=b.id/\(a.2.2.2.1,a.2.2.2.2.1,a.2.2.2.2.2.1)=b.p/\a.2.2.2.2.2.2.1=b.seed/\0<=b.seed/\b.seed<4294967296)/\Seq h q a.2.2.2.2.2.2.2 1 aB b.data,λa c=>⟨a.1,a.2.ac c⟩,λa d=>⟨a.1,a.2.mono d⟩⟩
theorem oK{p q:ak}(a b:Sl)(d c:aM)(h:f9)(f:Seq h p a 1 aB d)(e:Seq h q b 1 aB c):
  ai xJ 121 #[a,b] h λv h'=>v=xD (decide (d=c))/\h'=h:=by
 refine ts Tryz.func121 ?_;refine IE ag ⟨_,i4,i4⟩ ⟨_,i4,i4⟩ ⟨_,i4,i4⟩ f (IE ag ⟨_,i4,i4⟩ ⟨_,i4,i4⟩ ⟨_,i4,i4⟩ e ⟨?_,i4⟩);rw[ByteArray.toList_mk,ByteArray.toList_mk];have:(d==c)=decide (d=c):=by rw[Bool.eq_iff_iff];simp
 rw[this]
theorem GZ(b:Sl)(c:aM)(h:f9)(g:Rd h b 1 aB c)(w:i0 c<=2^30)(d:b.len<=b.cap):
  ai xJ 63 #[b] h λv h'=>(fC c=eH->v=.tuple #[xz xF 0,xA eH 0 0,xD eS]/\Sp h h' [])/\
   ∀k x,fC c=dB (k,x)->∃r:Sl,v=.tuple #[xz xF k,r,xD eR]/\Sp h h' [an 5 r 1 aB x]:=by
 refine ts Tryz.func63 ?_;have A:=g.len;refine bz (λe=>?_) (λe=>?_)
 ·have:fC c=eH:=by unfold fC;rw[g9 λa=>e i5]
  rw[this];exact⟨λ_=>⟨i4,Sp.refl h⟩,λk x h=>j7⟩
 have m:i0 c=64:=i5
 have h3:3<i0 c:=i5
 refine g.Le 3 i4 h3 ((c.getD 3 0).toNat:Int) (by rw[getD_lt h3];rfl) λy o=>⟨⟨i6,i6,i5⟩,?_⟩
 have f:=(g.drop 4 d).take 55 i9;have q:i0 ((c.drop 4).take 55)=55:=i9
 refine(eK ⟨_,55,b.cap-4⟩ ((c.drop 4).take 55) h f i5).mono ?_;rintro _ t ⟨r,rfl,l⟩;refine⟨r,i4,lh l.ac ⟨o,trivial⟩,?_⟩;have z:=(c.getD 3 0).toNat_lt;rw[af ((c.getD 3 0).toNat:Int)];refine(Dd ((c.getD 3 0).toNat:Int) r ((c.drop 4).take 55) t (l.seq 0 i4 λ_=>rfl)).mono ?_;rintro _ u ⟨p,rfl,s⟩;have i:=l.comp s;refine⟨p,i4,(oK b p c _ u (g.up i.ac) (i.seq 1 i4 λ_=>rfl)).mono ?_⟩;rintro _ h3 ⟨rfl,rfl⟩;refine⟨_,i4,aU (λe2=>?_) λe2=>?_⟩
 ·have j:c≠dL ((c.getD 3 0).toNat:Int) ((c.drop 4).take 55):=of_decide_eq_false e2;have:fC c=eH:=by unfold fC;rw[g9 λa=>j a.2.symm]
  rw[this];exact⟨λ_=>⟨i4,.zip i.ac⟩,λk x h=>j7⟩
 ·have n:c=dL ((c.getD 3 0).toNat:Int) ((c.drop 4).take 55):=ii e2;have:fC c=dB (((c.getD 3 0).toNat:Int),(c.drop 4).take 55):=by unfold fC;rw[g0 ⟨m,n.symm⟩]
  rw[this];refine⟨λh=>j7,λk x a=>?_⟩;injection a with a
  injection a with hh1 hh2
  subst hh1;subst hh2;exact⟨r,i4,i.bX [0]⟩
theorem JW(b:Sl)(l:aM)(h:f9)(d:Rd h b 1 aB l)(p:i0 l<=4):ai xJ 226 #[b] h λv h'=>v=xz xF (db l)/\h'=h:=by
 refine ts Tryz.func226 ?_ (.two .n (.two .n (.two (.two .n (.inn (.loop [(3,aT),(8,aT)] [(3,4),(5,6),(8,18)] .n))) .n)));have j:=d.len;refine aq (λi:Nat=>(db (l.take i),(i:Int))) (λi h'=>i<=i0 l/\h'=h) (λi=>i0 l-i) 0 i4 ⟨i5,i4⟩ ?_;rintro i m ⟨o,rfl⟩
 try dsimp only
 refine ae (λe=>?_) (λe=>?_)
 ·have a:i<i0 l:=i5
  refine d.bo i i4 a (l[i].toNat:Int) i4 ⟨i6,?_⟩;have c:=(MN (l.take i) i9)
  have f:=c.2.2 i9;have k:=l[i].toNat_lt;obtain⟨n,g⟩:∃n:Nat,db (l.take i)=(n:Int):=⟨(db (l.take i)).toNat,i5⟩
  refine⟨i+1,?_,⟨i5,i4⟩,i5⟩;rw[aD _ _ a,SI,g,adO n _ i5 i5,af ((i:Int)+1)];rfl
 ·rw[qg i5];exact⟨i4,i4⟩
theorem ER(x:bw)(r:cP)(h:f9)(D:dN gq h x r):ai xJ 205 #[recv x] h λv h'=>v=xD (iR r)/\Sp h h' []:=by
 refine ts Tryz.func205 ?_ (.two .n (.two (.join [(3,nV)] [(3,32)] .n) .n)) (args:=[x]);obtain⟨⟨E,e2,H,l,K,_⟩,I⟩:=D;have o:x.2.2.2.1=r.p.1:=congrArg (·.1) l;have m:x.2.2.2.2.1=r.p.2.1:=congrArg (·.2.1) l;have a:x.2.2.2.2.2.1=r.p.2.2:=congrArg (·.2.2) l;have c:=Seq.len I;refine(Sp.refl h).boxed λk i s=>?_;have f:=s.box 0 i4;have z:f8 i k=dB (xz xF r.object):=by rw[<-E];exact f.cell0 i4
 have u:f8 i (k.add 1)=dB (xz xF r.block):=by rw[<-e2];exact f.cell i4
 have w:f8 i (k.add 2)=dB (xz xF r.id):=by rw[<-H];exact f.cell i4
 have y:∀{h':f9},Sp h h' [av k 153 (cQ x)]->(iR r=eR->False)->Value.bool eS=xD (iR r)/\Sp h h' []:=λ{h'} H' hn=>⟨by cases hq:iR r with|false=>rfl|true=>exact absurd hq hn,.zip H'.ac⟩
 refine bE (λb h'=>b=decide ((0<=r.object/\r.object<=16777215)/\(0<=r.block/\r.block<=7)/\(0<=r.id/\r.id<=65535))/\h'=i) ?_ ?_
 ·refine⟨_,z,ae (λF=>⟨_,z,ae (λd=>⟨_,u,ae (λB=>⟨_,u,ae (λJ=>⟨_,w,ae (λG=>⟨_,w,?_,i4⟩) λG=>⟨?_,i4⟩⟩) λJ=>⟨?_,i4⟩⟩) λB=>⟨?_,i4⟩⟩) λd=>⟨?_,i4⟩⟩) λF=>⟨?_,i4⟩⟩
  ·rw[decide_eq_decide];omega
  all_goals (symm;rw[decide_eq_false_iff_not];omega)
 ·rintro _ _ ⟨rfl,rfl⟩;refine ae (λg=>?_) λg=>y s λt=>g (by have:=(kA r).1 t;omega);refine⟨r.p,by rw[<-o,<-m,<-a];exact f.Ex 3 i4 i4 i4,(dO r.p _).mono ?_⟩;rintro _ h3 ⟨rfl,A⟩;have q:=s.up A.ac;have e:=q.box 0 i4;refine⟨_,i4,bc (λd=>?_) λd=>y q λt=>by have:=((kA r).1 t).2.2.2.1;rw[d]at this;cases this⟩;refine⟨x.2.2.2.2.2.2.2,e.cell i4,r.p.2.2,by rw[<-a];exact e.tO 3 2 i4,?_,.zip q.ac⟩;congr 1;by_cases j:(r.data.length:Int)=r.p.2.2
  ·have:iR r=eR:=(kA r).2 ⟨i5,i5,i5,d,j⟩;rw[this,c];simpa using j
  ·have:iR r=eS:=by
    cases hq:iR r with
    |false=>rfl
    |true=>exact absurd ((kA r).1 hq).2.2.2.2 j
   rw[this,c];simpa using j
theorem mR(s:Sl)(l:aM)(n:Int)(k:Nat)(o:k<=4)(p:i0 l<=2^30)(H:aa B h0 h (an 5 s 1 aB l::As)):
  ai xJ 206 #[s,xz xF n,xz xF k] h λv h'=>∃r:Sl,v=r/\aa B h0 h' (an 5 r 1 aB (l++bS n k)::As):=by
 refine ts Tryz.func206 ?_ (.two .n (.two (.two .n (.inn (.loop [(0,cF),(7,aT)] [(0,1),(7,8),(10,22)] .n))) .n));rw[af ((k:Int)-1)];refine aq (λt:Sl×Nat=>(t.1,(k:Int)-1-t.2)) (λt h'=>t.2<=k/\aa B h0 h' (an 5 t.1 1 aB (l++(bS n k).take t.2)::As)) (λt=>k-t.2) (s,0) jj ⟨jj,l4⟩ ?_;rintro⟨r,t⟩ m ⟨j,b⟩;dsimp only at*;refine ae (λe=>?_) (λe=>?_)
 ·have a:t<k:=i5
  have c:qe xF ((8:Int)*((k:Int)-1-t))=((8*(k-1-t):Nat):Int):=by rw[af _];omega
  rw[c,qj];have e2:min (8*(k-1-t)) (qG xF)=8*(k-1-t):=by have:qG xF=64:=rfl;omega
  rw[e2,dU];refine⟨i5,?_⟩;refine b.push ag 0 i4 gp i4 i6 (λ_=>rfl) gJ (b8 (zx n (2^(8*(k-1-t))))) i4 i6 m5 λi q d=>?_;refine⟨(i,t+1),?_,⟨i7,?_⟩,i7⟩
  ·try dsimp only
   have f:qe xF ((k:Int)-1-t-1)=(k:Int)-1-((t+1:Nat):Int):=by rw[af _];omega
   rw[f]
  ·try dsimp only
   have g:(bS n k).take t++[b8 (zx n (2^(8*(k-1-t))))]=(bS n k).take (t+1):=by rw[aD _ _ (by rw[cm];exact a)];congr 2;simp[bS]
   rw[<-g,<-qn];exact d
 ·have:t=k:=i5
  subst this;rw[qg (by rw[cm];omega)]at b;exact⟨r,i4,b⟩
theorem pY(x:bw)(r:cP)(h:f9)(D:dN gq h x r):ai xJ 137 #[recv x] h λv h'=>∃s:Sl,v=s/\Sp h h' [an 5 s 1 aB (cT r)]:=by
 refine ts Tryz.func137 ?_ (args:=[x]);obtain⟨⟨N,e2,Q,n,U,X,e8⟩,R⟩:=id D;have u:x.2.2.2.1=r.p.1:=congrArg (·.1) n;have o:x.2.2.2.2.1=r.p.2.1:=congrArg (·.2.1) n;have j:x.2.2.2.2.2.1=r.p.2.2:=congrArg (·.2.2) n;refine(Sp.refl h).boxed λP O e=>?_;refine⟨x,(e.box 0 i4).aE _ i4,(ER x r O (gq.mono (gq.loc D e.ac) λ_ J=>qR J e.ac.1)).mono ?_⟩;rintro _ h2 ⟨rfl,S⟩;have m:=e.up S.ac;refine⟨_,i4,aU (λg=>?_) λg=>?_⟩
 ·unfold cT;rw[g];exact⟨⟨eH,0,0⟩,i4,(m.nil 5 1 aB).bX [1]⟩
 have L:=nQ g;have f:=m.box 0 i4;refine⟨r.object,by rw[<-N];exact f.cell0 i4,(mR ⟨eH,0,0⟩ [] r.object 3 i6 jj (m.nil 5 1 aB).aY).mono ?_⟩;rintro _ h3 ⟨B,rfl,F⟩;have t:=F.box 1 i4;refine⟨B,i4,r.block,by rw[<-e2];exact t.cell i4,(mR B _ r.block 1 i6 o8 F).mono ?_⟩;rintro _ Y ⟨E,rfl,G⟩;have k:=G.box 1 i4;refine⟨E,i4,r.id,by rw[<-Q];exact k.cell i4,(mR E _ r.id 2 i6 o8 G).mono ?_⟩;rintro _ Z ⟨M,rfl,H⟩;have a:=H.box 1 i4;refine⟨M,i4,r.p.1,by rw[<-u];exact a.cell i4,r.p.2.1,by rw[<-o];exact a.tO 3 1 i4,r.p.2.2,by rw[<-j];exact a.tO 3 2 i4,?_⟩
 try dsimp only
 rw[dU,dU,dU];refine H.lit ag aB gp i4 [b8 r.p.1,b8 r.p.2.1,b8 r.p.2.2] i4 (show 3*1<=2^20 by decide) i4 λW h6 y=>?_;refine y.append ag 0 i4 gp ⟨_,_,i4,i4⟩ i4 i6 (λ_=>rfl) (y.seq 2 i4 λ_=>rfl) gJ o8 λT h7 d=>?_;have d:=d.bX [0,1];have q:=d.box 1 i4;refine⟨r.seed,by rw[<-U];exact q.cell i4,?_⟩
 try dsimp only
 rw[af r.seed];refine(mR T _ r.seed 4 i6 o8 d).mono ?_;rintro _ h8 ⟨K,rfl,i⟩;have l:=i.box 1 i4;refine⟨K,i4,x.2.2.2.2.2.2.2,l.cell i4,?_⟩;refine i.append ag 0 i4 gp ⟨_,_,i4,i4⟩ i4 i6 (λ_=>rfl) (Seq.up R i.ac) gJ m5 λA z c=>?_;have I:[]++bS r.object 3++bS r.block 1++bS r.id 2++[b8 r.p.1,b8 r.p.2.1,b8 r.p.2.2]++bS r.seed 4++r.data=iN r:=by unfold iN;simp[qn]
 have c:Sp h z [an 5 A 1 aB (iN r),av P 153 (cQ x)]:=by rw[<-I];exact c
 refine(Dd 1 A (iN r) z (c.seq 0 i4 λ_=>rfl)).mono ?_;rintro _ V ⟨b,rfl,w⟩;refine⟨b,i4,b,i4,?_⟩;unfold cT;rw[g,g0 rfl];exact(c.comp w).bX [2]
theorem MO(b:Sl)(c:aM)(h:f9)(hb:Rd h b 1 aB c)(hc:c.length<=2^30)(T:b.len<=b.cap):
  ai xJ 155 #[b] h λv h'=>∃x:bw,v=.tuple #[recv x,xD (dg c).isSome]/\(dg c=eH->Sp h h' [])/\∀r,dg c=dB r->Sp h h' [EA gq x r]:=by
 refine ts Tryz.func155 ?_ (.two .n (.two .n (.two (.join [] [(3,4),(14,21)] .n) (.two (.join [(7,(.sc .adr))] [(7,8),(21,31)] .n) (.two (.join [] [(31,42)] .n) .n))))) [(4,(.y [0,1,3,4,6,7] (.y [2] (.y [5] (.l [8,9,10,11]) (.l [10,8,9,11])) (.l [10,5,8,9,11])) (.l [10,2,5,8,9,11]))),(5,(.l [0,1,3,4,6,7,2,5,8,9,10,11]))];refine(Sp.refl h).alloc ag i4 λs h1 H1=>?_;have z:∀{h':f9} {Bs:List HP},Sp h h' (av s 153 (cQ (0,0,0,0,0,0,0,⟨eH,0,0⟩))::Bs)->dg c=eH->
   aj xJ (qE 153 (xB (dB s)) (recv (0,0,0,0,0,0,0,⟨eH,0,0⟩))) h' λ_ H=>∃V:bw,ba H s 0 (cQ V)/\∃x:bw,Value.tuple #[recv V,xD eS]=.tuple #[recv x,xD (dg c).isSome]/\(dg c=eH->Sp h H [])/\∀r,dg c=dB r->Sp h H [EA gq x r]:=λ{h' Bs} H' E=>by
  refine H'.storeAll ag 0 i4 i4 (cQ (0,0,0,0,0,0,0,⟨eH,0,0⟩)) i4 i4 i4 i4 λH H4=>?_;exact⟨(0,0,0,0,0,0,0,⟨eH,0,0⟩),(H4.box 0 i4).aE _ i4,(0,0,0,0,0,0,0,⟨eH,0,0⟩),by rw[E];rfl,λ_=>.zip H4.ac,λr N=>by rw[E]at N;cases N⟩
 refine(GZ b c h1 (hb.up H1.ac) hc T).mono ?_;rintro _ h2 ⟨Q0,Q1⟩;cases htc:fC c with
 |none=>
  obtain⟨rfl,R2⟩:=Q0 htc;have E:dg c=eH:=by unfold dg;rw[htc]
  exact⟨(0,⟨eH,0,0⟩,eS),i4,aO (aU (λ_=>z (H1.up R2.ac) E) λe=>j1)⟩
 |some kx=>
  obtain⟨k,x⟩:=kx;obtain⟨r,rfl,R2⟩:=Q1 k x htc;have w:=H1.comp R2;have ay:x.length=55:=by
   unfold fC at htc;split at htc
   ·rename_i m;injection htc with htc
    injection htc with _ htc
    rw[<-htc];simp;omega
   ·cases htc
  have a8:=(w.own 1 i4).len;have U:=(w.own 1 i4).cap;refine⟨(k,r,eR),i4,aO (aU (λe=>j1) λ_=>bz (λe=>z w ?_) λI=>?_)⟩
  ·unfold dg;rw[htc];exact g9 λm=>e m.1
  try dsimp only
  have I:k=1:=I;obtain⟨R,t⟩:∃R,R=sl x:=⟨_,rfl⟩
  have J:dg c=if bx R.p=eR/\cT R=c then dB R else eH:=by
   unfold dg;rw[htc]
   try dsimp only
   rw[<-t];by_cases m:bx R.p=eR/\cT R=c
   ·rw[g0 m];exact g0 ⟨I,m⟩
   ·rw[g9 m];exact g9 λh=>m h.2
  have tA:∀{h':f9},Rd h' r 1 aB x->ai xJ 226 #[xA r.ptr 3 r.cap] h' λv M=>v=xz xF R.object/\M=h':=λ{h'} N=>by
   rw[t];exact JW ⟨r.ptr,3,r.cap⟩ (x.take 3) h' (N.take 3 i5) i9
  have O:∀{h':f9} (j n:Nat),j+n<=55->n<=4->Rd h' r 1 aB x->ai xJ 226 #[.slice (if r.cap=j then r.ptr else r.ptr.map (·.add (j*1))) n (r.cap-j)] h' λv M=>v=xz xF (db ((x.drop j).take n))/\M=h':=λ{h'} j n hjn E N=>
   JW ⟨if r.cap=j then r.ptr else r.ptr.map (·.add (j*1)),n,r.cap-j⟩ ((x.drop j).take n) h' ((N.drop j U).take n l9) i9
  have rd:∀{h':f9} {A:HP} {Bs:List HP},Sp h h' (A::an 5 r 1 aB x::Bs)->Rd h' r 1 aB x:=λ{h' A Bs} H'=>H'.seq 1 i4 λ_=>rfl;have Cm:∀{h':f9} {A A2:HP} {Bs:List HP},Sp h h' (A::A2::an 5 r 1 aB x::Bs)->Rd h' r 1 aB x:=λ{h' A A2 Bs} H'=>H'.seq 2 i4 λ_=>rfl;refine bE (λ(a:f7) h'=>Sp h h' [av a 153 (cQ (R.object,R.block,R.id,0,0,0,0,⟨eH,0,0⟩)),av s 153 (cQ (0,0,0,0,0,0,0,⟨eH,0,0⟩)),an 5 r 1 aB x]) ?_ ?_
  ·have eb:db ((x.drop 3).take 1)=R.block:=pt
   have ei:db ((x.drop 4).take 2)=R.id:=pt
   have fin:∀{h':f9} {a:f7},Sp h h' [av s 153 (cQ (0,0,0,0,0,0,0,⟨eH,0,0⟩)),an 5 r 1 aB x,av a 153 (cQ (0,0,0,0,0,0,0,⟨eH,0,0⟩))]->
     aj xJ (qE 153 (xB (dB a)) (recv (R.object,R.block,R.id,0,0,0,0,⟨eH,0,0⟩))) h' λ_ H=>bH.ok [] H/\Sp h H [av a 153 (cQ (R.object,R.block,R.id,0,0,0,0,⟨eH,0,0⟩)),av s 153 (cQ (0,0,0,0,0,0,0,⟨eH,0,0⟩)),an 5 r 1 aB x]:=λ{h' a} H'=>
    H'.storeAll ag 2 i4 i4 (cQ (R.object,R.block,R.id,0,0,0,0,⟨eH,0,0⟩)) i4 i4 i4 i4 λH H4=>⟨trivial,H4.bX [2,0,1]⟩
   have A_:∀{h':f9} {Bs:List HP} {K:Int->f9->Prop},Sp h h' (av s 153 (cQ (0,0,0,0,0,0,0,⟨eH,0,0⟩))::an 5 r 1 aB x::Bs)->K R.object h'->ol xJ 226 #[xA r.ptr 3 r.cap] (.one (.sc (.int .i64))) h' K:=λ{h' Bs K} H' hK=>by
    refine(tA (rd H')).mono ?_;rintro _ _ ⟨rfl,rfl⟩;exact⟨_,i4,hK⟩
   have B_:∀{h':f9} {Bs:List HP} {K:Int->f9->Prop},Sp h h' (av s 153 (cQ (0,0,0,0,0,0,0,⟨eH,0,0⟩))::an 5 r 1 aB x::Bs)->K R.block h'->ol xJ 226 #[.slice (if r.cap=3 then r.ptr else r.ptr.map (·.add (3*1))) 1 (r.cap-3)] (.one (.sc (.int .i64))) h' K:=λ{h' Bs K} H' hK=>by
    refine(O 3 1 i6 i6 (rd H')).mono ?_;rintro _ _ ⟨rfl,rfl⟩;exact⟨_,i4,by rw[eb];exact hK⟩
   have C_:∀{h':f9} {Bs:List HP} {K:Int->f9->Prop},Sp h h' (av s 153 (cQ (0,0,0,0,0,0,0,⟨eH,0,0⟩))::an 5 r 1 aB x::Bs)->K R.id h'->ol xJ 226 #[.slice (if r.cap=4 then r.ptr else r.ptr.map (·.add (4*1))) 2 (r.cap-4)] (.one (.sc (.int .i64))) h' K:=λ{h' Bs K} H' hK=>by
    refine(O 4 2 i6 i6 (rd H')).mono ?_;rintro _ _ ⟨rfl,rfl⟩;exact⟨_,i4,by rw[ei];exact hK⟩
   refine⟨⟨i6,i5⟩,⟨i6,i6,i5⟩,⟨i6,i6,i5⟩,A_ w ⟨trivial,B_ w ⟨trivial,C_ w ⟨trivial,?_⟩,?_⟩,?_⟩,?_⟩
   ·refine w.alloc ag i4 λa9 h9 f=>⟨trivial,?_⟩
    exact fin f
   ·refine w.alloc ag i4 λa9 h9 f=>⟨trivial,?_⟩
    exact C_ f ⟨trivial,fin f⟩
   ·refine w.alloc ag i4 λa9 h9 f=>⟨trivial,?_⟩
    exact B_ f ⟨trivial,C_ f ⟨trivial,fin f⟩⟩
   ·refine w.alloc ag i4 λa9 h9 f=>⟨trivial,?_⟩
    exact A_ f ⟨trivial,B_ f ⟨trivial,C_ f ⟨trivial,fin f⟩⟩⟩
  ·rintro a9 h5 H5;have L:0<=R.seed/\R.seed<4294967296:=by have:=MN ((x.drop 9).take 4) i9;rw[t];exact⟨this.1,this.2.1⟩
   have e6:db ((x.drop 6).take 1)=R.p.1:=pt
   have e7:db ((x.drop 7).take 1)=R.p.2.1:=pt
   have e8:db ((x.drop 8).take 1)=R.p.2.2:=pt
   have e9:db ((x.drop 9).take 4)=R.seed:=pt
   refine aO ⟨⟨i6,i6,i5⟩,⟨i6,i6,i5⟩,⟨i6,i6,i5⟩,(O 6 1 i6 i6 (Cm H5)).mono ?_⟩;rintro _ _ ⟨rfl,rfl⟩;refine⟨_,i4,trivial,(O 7 1 i6 i6 (Cm H5)).mono ?_⟩;rintro _ _ ⟨rfl,rfl⟩;refine⟨_,i4,trivial,(O 8 1 i6 i6 (Cm H5)).mono ?_⟩;rintro _ bb ⟨rfl,rfl⟩;refine⟨_,i4,trivial,?_⟩
   try dsimp only
   rw[e6,e7,e8];refine H5.store ag 0 i4 i4 3 [xz xF R.p.1,xz xF R.p.2.1,xz xF R.p.2.2] i4 i4 i4 jj λa7 S=>⟨trivial,?_⟩
   refine⟨⟨i6,i6,i5⟩,(O 9 4 i6 i6 (Cm S)).mono ?_⟩;rintro _ a4 ⟨rfl,rfl⟩;refine⟨_,i4,?_⟩
   try dsimp only
   have ew:qe xH (db ((x.drop 9).take 4))=R.seed:=by rw[e9];unfold qe;simp[qG,y9];omega
   rw[ew];refine S.store ag 0 i4 i4 6 [xz xH R.seed] i4 i4 i4 jj λao W=>?_;refine⟨R.p,(W.box 0 i4).Ex 3 i4 i4 i4,(dO R.p ao).mono ?_⟩;rintro _ ab ⟨rfl,ar⟩;have B:=W.up ar.ac;refine⟨_,i4,aU (λg=>z (B.aK 2 [1,0]) (by rw[J,g9 λm=>by rw[g]at m;cases m.1])) λg=>?_⟩;have a3:=(bN R.p).1 g;refine⟨R.p.2.2,(B.box 0 i4).tO 3 2 i4,?_⟩
   try dsimp only
   rw[af ((13:Int)+R.p.2.2)];refine⟨⟨i6,i5,i5⟩,?_⟩;have ax:((13:Int)+R.p.2.2).toNat-(13:Int).toNat=R.p.2.2.toNat:=i5
   rw[ax];have F:(x.drop 13).take R.p.2.2.toNat=R.data:=pt
   have G:=((Cm B).drop 13 U).take R.p.2.2.toNat l9;rw[F]at G;have a0:R.data.length=R.p.2.2.toNat:=by rw[<-F];simp;omega
   refine(eK ⟨if r.cap=13 then r.ptr else r.ptr.map (·.add (13*1)),R.p.2.2.toNat,r.cap-13⟩ R.data ab G i5).mono ?_;rintro _ a2 ⟨u,rfl,am⟩;have ah:=B.comp am;refine⟨u,i4,?_⟩;refine ah.store ag 0 i4 i4 7 [u] i4 i4 i4 jj λP i=>?_;have i:Sp h P [av a9 153 (cQ (R.object,R.block,R.id,R.p.1,R.p.2.1,R.p.2.2,R.seed,u)),av s 153 (cQ (0,0,0,0,0,0,0,⟨eH,0,0⟩)),an 5 r 1 aB x,an 5 u 1 aB R.data]:=i;obtain⟨X,hX⟩:∃X:bw,X=(R.object,R.block,R.id,R.p.1,R.p.2.1,R.p.2.2,R.seed,u):=⟨_,rfl⟩
   rw[<-hX]at i;have Z:∀{h':f9} {q:ak},Seq h' q u 1 aB R.data->gq.p h' q X R:=λ{h' q} hs=>by rw[hX];exact⟨⟨i4,i4,i4,i4,i4,L⟩,hs⟩
   refine⟨X,(i.box 0 i4).aE _ i4,(pY X R P (Z (i.seq 3 i4 λ_=>rfl))).mono ?_⟩;rintro _ ad ⟨s5,rfl,ap⟩;have o:=i.comp ap;refine⟨s5,i4,(oK b s5 c (cT R) ad (hb.up o.ac) (o.seq 4 i4 λ_=>rfl)).mono ?_⟩;rintro _ a6 ⟨rfl,rfl⟩;refine⟨_,i4,aU (λQ=>z (o.aK 2 [1,0]) (by rw[J,g9 λm=>(of_decide_eq_false Q) m.2.symm])) λQ=>?_⟩;have Q:c=cT R:=ii Q;refine⟨X,(o.box 0 i4).aE _ i4,?_⟩;refine o.storeAll ag 1 i4 i4 (cQ X) i4 i4 i4 i4 λa5 Y=>?_;have d:dg c=dB R:=by rw[J,g0 ⟨g,Q.symm⟩]
   refine⟨X,(Y.box 1 i4).aE _ i4,X,by rw[d];rfl,λE=>(by rw[d]at E;cases E),λr' D=>?_⟩;rw[d]at D;injection D with D
   subst D;have al:=Y.bX [3];exact al.fM 0 i4 λq hq=>Z (hq.1.seq (λ_=>rfl) hq.2)
variable {X Y Z:HP}
section
variable {L:List HP}
theorem aa.aeW(H:aa B h0 h (X::Y::(L++As))):aa B h0 h (L++(X::Y::As)):=
 H.pick (λi=>if i<i0 L then i+2 else if i=i0 L then 0 else if i=i0 L+1 then 1 else i) (λa b c=>by(try dsimp only at c);split at c<;>split at c<;>(try split at c)<;>(try split at c)<;>(try split at c)<;>(try split at c)<;>omega) λi A d=>by
  try dsimp only
  by_cases g:i<i0 L
  ·rw[qm g]at d;rw[g0 g,qq,qq,qm g];exact d
  ·rw[qi i5]at d;rw[g9 g];by_cases e:i=i0 L
   ·subst e;rw[g0 rfl];rw[qZ]at d;exact d
   ·rw[g9 e];by_cases f:i=i0 L+1
    ·subst f;rw[g0 rfl];rw[show L.length+1-i0 L=1 by omega]at d;exact d
    ·rw[g9 f];obtain⟨j,rfl⟩:∃j,i=i0 L+(j+2):=⟨i-i0 L-2,i5⟩
     rw[zk,qq,qq]at d;rw[show L.length+(j+2)=(i0 L+j)+1+1 by omega,qq,qq,qi i5,zk];exact d
theorem aa.QI(n:Nat)(c:L[n]?=dB X)(H:aa B h0 h (Y::Z::(L++As))):aa B h0 h (X::Z::Y::(L.set n emp++As)):=by
 have a:=(ql.1 c).1;have b:=H.cons (n+2) (A:=X) (by rw[qq,qq,qm a];exact c);have e:(Y::Z::(L++As)).set (n+2) emp=Y::Z::(L.set n emp++As):=by rw[zo,zo,List.set_append_left _ _ a]
 rw[e]at b;exact b.aK 3 [0,2,1]
theorem aa.Ey(n:Nat)(g:n<i0 L)(H:aa B h0 h (X::Z::Y::(L.set n emp++As))):aa B h0 h (Y::Z::(L.set n X++As)):=
 H.pick (λi=>if i=0 then 2 else if i=1 then 1 else if i=n+2 then 0 else i+1) (λa b c=>by(try dsimp only at c);split at c<;>split at c<;>(try split at c)<;>(try split at c)<;>(try split at c)<;>(try split at c)<;>omega) λi A d=>by
  try dsimp only
  match i,d with
  |0,d=>exact d
  |1,d=>exact d
  |i+2,d=>
   rw[g9 i5,g9 i5];rw[qq,qq]at d;by_cases e:i=n
   ·subst e;rw[qm l7,ze g]at d;rw[g0 rfl];exact d
   ·rw[g9 i5,qq,qq,qq];by_cases f:i<i0 L
    ·rw[qm o7,zw i5]at d;rw[qm o7,zw i5];exact d
    ·rw[qi i9,q9]at d;rw[qi i9,q9];exact d
end
structure Kit where
 tS:Nat
 tP:Nat
 tD:Nat
 f:f7->aW->Sl->Sl->aR
def adP(k:Kit)(pw:f7)(a:bK)(d:Option aW):HP:=match a,d with
 |some a,dB d=>ie k.tD (k.f pw) a d
 |_,_=>emp
abbrev cB(a:aR)(pw:f7)(offs:Int)(b:List bK):aR:=a++(xB (dB pw)::xz xF offs::b.map .pointer)
structure ge (mc:aR) (da:List bK) (ds:aC):Prop where
 l8:i0 mc=8
 la:i0 da=64
 ls:i0 ds=64
 same:∀i:Nat,(da.getD i eH).isSome=(ds.getD i eH).isSome
abbrev gb(k:Kit)(pw:f7)(a:List bK)(ds:aC):List HP:=List.zipWith (adP k pw) a ds
def bg(k:Kit)(a pw:f7)(c:aR)(offs:Int)(b:List bK)(w:Pow)(ds:aC):HP:=
 (HP.all (av a k.tS (cB c pw offs b)::dc k.tP pw w::gb k pw b ds)).and (ge c b ds)
variable {mc:aR} {offs:Int} {da:List bK} {w':Pow} {ds:aC} {d':aW} {n:Nat}
section
variable {k:Kit} {pw:f7}
theorem Bg(ok:ge mc da ds):i0 (gb k pw da ds)=64:=by simp[gb,ok.la,ok.ls]
theorem aa.nI(H:aa B h0 h (bg k a pw mc offs da w ds::As)):ge mc da ds/\aa B h0 h (av a k.tS (cB mc pw offs da)::dc k.tP pw w::(gb k pw da ds++As)):=by obtain⟨H,ok⟩:=H.Fp;exact⟨ok,H.nO⟩
theorem aa.nW(ok:ge mc da ds)(H:aa B h0 h (av a k.tS (cB mc pw offs da)::dc k.tP pw w::(gb k pw da ds++As))):aa B h0 h (bg k a pw mc offs da w ds::As):=
 (aa.closeAll (av a k.tS (cB mc pw offs da)::dc k.tP pw w::gb k pw da ds) H).toFp ok
theorem ge.addr(ok:ge mc da ds)(c:ds[n]?=dB (dB d)):∃b,da[n]?=dB (dB b):=by
 have f:n<64:=by have:=(ql.1 c).1;rw[ok.ls]at this;exact this
 have a:=ok.same n;rw[qd,qd,c]at a;have e:n<i0 da:=by rw[ok.la];exact f
 rw[qc e]at a⊢;simp at a;obtain⟨b,g⟩:=vC.1 a;exact⟨b,by rw[g]⟩
theorem ge.VA(ok:ge mc da ds)(c:n<64)(d:ds[n]?=dB eH):da[n]?=dB eH:=by
 have a:=ok.same n;rw[qd,qd,d]at a;have b:n<i0 da:=by rw[ok.la];exact c
 rw[qc b]at a⊢;simp at a;rw[a]
theorem ge.set(ok:ge mc da ds){b:f7}(c:da[n]?=dB (dB b)):ge mc da (ds.set n (dB d')):=by
 refine⟨ok.l8,ok.la,by rw[q9];exact ok.ls,λi=>?_⟩;by_cases a:n=i
 ·subst a;have d:n<i0 ds:=by have:=(ql.1 c).1;rw[ok.la]at this;rw[ok.ls];exact this
  rw[qd,c,qd,ze d];rfl
 ·rw[qd (l:=ds.set n _),zw a,<-qd];exact ok.same i
theorem YE{b:f7}(c:da[n]?=dB (dB b))(e:n<i0 ds):(gb k pw da ds).set n (ie k.tD (k.f pw) b d')=gb k pw da (ds.set n (dB d')):=by
 apply zy;intro j;have d:n<i0 da:=(ql.1 c).1;simp only[gb,qV,wc,y6];by_cases a:n=j
 ·subst a;rw[g0 i4,g0 i5,g0 i4,g0 e,c];rfl
 ·simp[a]
def Lk(k:Kit)(a pw:f7)(c:aR)(offs:Int)(b:List bK)(ds:aC)(n:Nat):HP:=
 (HP.all (av a k.tS (cB c pw offs b)::(gb k pw b ds).set n emp)).and (ge c b ds)
theorem aa.iJ(H:aa B h0 h (bg k a pw mc offs da w ds::As))(c:ds[n]?=dB (dB d)):∃b,da[n]?=dB (dB b)/\aa B h0 h (ie k.tD (k.f pw) b d::dc k.tP pw w::Lk k a pw mc offs da ds n::As):=by
 obtain⟨ok,l⟩:=H.nI;obtain⟨b,e⟩:=ok.addr c;refine⟨b,e,?_⟩;have g:(gb k pw da ds)[n]?=dB (ie k.tD (k.f pw) b d):=by simp only[gb,wc,e,c];rfl
 have i:=l.QI n g;have j:aa B h0 h (ie k.tD (k.f pw) b d::dc k.tP pw w::((av a k.tS (cB mc pw offs da)::(gb k pw da ds).set n emp)++As)):=i;exact(((aa.closeAll _ j.aeW).toFp ok).aK 3 [1,2,0]:aa B h0 h (ie k.tD (k.f pw) b d::dc k.tP pw w::Lk k a pw mc offs da ds n::As))
theorem aa.nJ{b:f7}(j:da[n]?=dB (dB b))(H:aa B h0 h (ie k.tD (k.f pw) b d'::dc k.tP pw w'::Lk k a pw mc offs da ds n::As)):aa B h0 h (bg k a pw mc offs da w' (ds.set n (dB d'))::As):=by
 have m:aa B h0 h (Lk k a pw mc offs da ds n::dc k.tP pw w'::ie k.tD (k.f pw) b d'::As):=H.aK 3 [2,1,0];obtain⟨m,ok⟩:=m.Fp;have p:=m.nO;have o:n<i0 ds:=by have:=(ql.1 j).1;rw[ok.la]at this;rw[ok.ls];exact this
 have t:=Bg (k:=k) (pw:=pw) ok;have g:n<i0 (gb k pw da ds):=by rw[t,<-ok.ls];exact o
 obtain⟨L,r⟩:∃L,L=gb k pw da ds:=⟨_,rfl⟩
 rw[<-r]at p g;have s:aa B h0 h (ie k.tD (k.f pw) b d'::dc k.tP pw w'::av a k.tS (cB mc pw offs da)::(L.set n emp++As)):=by
  refine p.pick (λi=>if i=0 then 1+i0 L+1 else if i=1 then 1+i0 L else if i=2 then 0 else if i<3+i0 L then i-2 else i) (λx y c=>by(try dsimp only at c);split at c<;>split at c<;>(try split at c)<;>(try split at c)<;>(try split at c)<;>(try split at c)<;>(try split at c)<;>(try split at c)<;>omega) λi A e=>?_
  try dsimp only
  have d:i0 (av a k.tS (cB mc pw offs da)::L.set n emp)=1+i0 L:=i9
  match i,e with
  |0,e=>rw[g0 i4,qi i5,d,show 1+i0 L+1-(1+i0 L)=1 by omega];exact e
  |1,e=>rw[g9 i5,g0 i4,qi i5,d,qZ];exact e
  |2,e=>rw[g9 i5,g9 i5,g0 rfl];exact e
  |i+3,e=>
   rw[g9 i5,g9 i5,g9 i5];rw[qq,qq,qq]at e;by_cases l:i<i0 L
   ·rw[g0 i5,show i+3-2=i+1 by omega,qm (by rw[d];omega),qq];rw[qm (by simpa using l)]at e;exact e
   ·rw[g9 i5,qi (by rw[d];omega),d,show i+3-(1+i0 L)=(i-i0 L)+2 by omega,qq,qq];rw[qi i9,q9]at e;exact e
 have q:=aa.Ey n g s;rw[r,YE j o]at q;exact q.nW (ok.set j)
end
def lZ:iF (Int×Sl) (Int×aM):=⟨λh q a b=>a.1=b.1/\Seq h q a.2 1 aB b.2,λa c=>⟨a.1,a.2.ac c⟩,λa d=>⟨a.1,a.2.mono d⟩⟩
def piv(x:Int×Sl):aR:=[xz xF x.1,x.2]
theorem IS:∀x,∀c∈piv x,c.oneCell'=eR:=by intro x c a;simp[piv]at a;rcases a with rfl|rfl<;>rfl
def gH(a:List bK)(slot:Int):bK:=if 0<=slot/\slot<64 then(a[slot.toNat]?).join else eH
theorem nK{g:aR}{c:List bK}{ds:aC}(ok:ge g c ds)(slot:Int):
  (aS ds slot=eH/\gH c slot=eH)∨∃(n:Nat) (d:aW) (b:f7),slot=n/\n<64/\ds[n]?=dB (dB d)/\aS ds slot=dB d/\c[n]?=dB (dB b)/\gH c slot=dB b:=by
 unfold aS gH;by_cases h:0<=slot/\slot<64
 ·rw[g0 h,g0 h];have e:slot.toNat<i0 ds:=by rw[ok.ls];omega
  cases hd:ds[slot.toNat]with
  |none=>
   have a:ds[slot.toNat]?=dB eH:=by rw[qc e,hd]
   exact .inl ⟨q6,by rw[ok.VA i5 a];rfl⟩
  |some d=>
   have a:ds[slot.toNat]?=dB (dB d):=by rw[qc e,hd]
   obtain⟨b,f⟩:=ok.addr a;exact .inr ⟨slot.toNat,d,b,i5,i5,a,q6,f,by rw[f];rfl⟩
 ·rw[g9 h,g9 h];exact .inl ⟨i4,i4⟩
theorem ry{a:aR}{pw:f7}{offs:Int}{b:List bK}(h8:i0 a=8)(n:Nat):(cB a pw offs b)[10+n]?=(b[n]?).map .pointer:=by unfold cB;rw[qi i5,h8,show 10+n-8=n+1+1 by omega,qq,qq,qO]
theorem MP{a:aR}{pw:f7}{offs:Int}{b:List bK}(h8:i0 a=8):(cB a pw offs b)[8]?=dB (xB (dB pw)):=by unfold cB;rw[qi i5,h8];rfl
theorem SJ{a:aR}{pw:f7}{offs:Int}{b:List bK}(h8:i0 a=8):(cB a pw offs b)[9]?=dB (xz xF offs):=by unfold cB;rw[qi i5,h8];rfl
abbrev bB:Qw.Kit:=⟨127,118,155,λpw=>fk pw⟩
theorem MQ{e:TypeId}(s:Sl)(l:au)(h:f9)(c:Own h e s 1 az l)(a:i0 l<2^40):ai xJ 186 #[s] h λv h'=>v=xA s.ptr (Lib.compact l).length s.cap/\Own h' e ⟨s.ptr,i0 (Lib.compact l),s.cap⟩ 1 az (Lib.compact l)/\aP (λb=>¬s.on b) h h':=
 GH Tryz.slices_Compact_int Tryz.slices_Compact_int_empty c a
section
variable {pw:f7}
theorem lV(slot:Int)(ok:ge mc da ds)(d:bT h a 127 (cB mc pw offs da)):ai xJ 56 #[xB (dB a),xz xF slot] h λv h'=>v=.pointer (gH da slot)/\h'=h:=by
 refine ts Tryz.func56 ?_ (.two .n (.two (.join [] [(4,15)] .n) .n));have b:¬(0<=slot/\slot<64)->Value.pointer eH=.pointer (gH da slot)/\h=h:=λe=>by unfold gH;rw[g9 e];exact⟨i4,i4⟩
 refine aO (bc (λe=>j1) λ_=>ae (λe=>b i5) λf=>ae (λe=>b i5) λe2=>?_);have c:slot.toNat<i0 da:=qa
 refine⟨a,i4,⟨i5,i5⟩,da[slot.toNat],?_,?_,i4⟩
 ·rw[zV];refine d.tO 10 slot.toNat ?_;rw[ry ok.l8,qc c];rfl
 ·unfold gH;rw[g0 i5,qc c];rfl
theorem aa.cz(H:aa B h0 h (bg bB a pw mc offs da w ds::As)):ge mc da ds/\bT h a 127 (cB mc pw offs da):=by obtain⟨ok,b⟩:=Qw.aa.nI H;exact⟨ok,b.box 0 i4⟩
theorem Ha(s:Sl)(l:au)(x:Rd h s 1 az l)(L:i0 l<=2^30)(H:aa B h0 h (bg bB a pw mc offs da w ds::As)):
  ai xJ 100 #[.func (.func 56) #[xB (dB a)] #[],s] h λv h'=>∃r:Sl,v=r/\Sp h h' [an 3 r 1 az (aN ds l)]:=by
 refine ts Tryz.func100 ?_ (.two .n (.two .n (.two (.two .n (.inn (.loop [(5,cF),(11,aT)] [(5,6),(7,9),(11,30)] .n))) .n))) (args:=[(.func (.func 56) #[xB (dB a)] #[]),s]);have E:=x.len;obtain⟨ok,u⟩:=aa.cz H;refine aq (λt:Sl×Nat=>(t.1,(t.2:Int))) (λt h'=>t.2<=i0 l/\Sp h h' [an 3 t.1 1 az (aN ds (l.take t.2))]) (λt=>i0 l-t.2) (⟨eH,0,0⟩,0) i4 ⟨jj,by simpa[aN]using(Sp.refl h).nil 3 1 az⟩ ?_;rintro⟨o,i⟩ J ⟨K,j⟩;dsimp only at*;refine ae (λe=>?_) (λe=>?_)
 ·have p:i<i0 l:=i5
  have c:aN ds (l.take (i+1))=aN ds (l.take i)++(if isLive ds l[i]then[l[i]]else[]):=by unfold aN;rw[aD _ _ p,zg,zl,vi]
  have A:i0 (aN ds (l.take i))<=i0 l:=by have:=qJ (isLive ds) (l.take i);unfold aN;simp at this⊢;omega
  have next:∀{h':f9} {k:Sl},Sp h h' [an 3 k 1 az (aN ds (l.take (i+1)))]->∃m:Sl×Nat,((⟨k.ptr,k.len,k.cap⟩:Sl),qe xF ((i:Int)+1))=(m.1,(m.2:Int))/\(m.2<=i0 l/\Sp h h' [an 3 m.1 1 az (aN ds (l.take m.2))])/\l.length-m.2<i0 l-i:=λ{h' k} H'=>
   ⟨(k,i+1),js,⟨i7,H'⟩,i7⟩
  refine(Seq.up x j.ac).bo i i4 p l[i] i4 (eU lb ?_);refine(lV l[i] ok (u.ac j.ac u.lt)).mono ?_;rintro _ M ⟨rfl,rfl⟩;refine⟨_,i4,?_⟩;rcases nK ok l[i]with⟨c1,c2⟩|⟨n,d,b,c0,c1,c2,c3,c4,c5⟩
  ·rw[c2];have g:isLive ds l[i]=eS:=by unfold isLive;rw[c1]
   rw[g]at c;refine aU (λe=>j1) λ_=>next (by rw[c];simpa using j)
  ·rw[c5];have g:isLive ds l[i]=!d.lost:=by unfold isLive;rw[c3]
   refine aU (λ_=>?_) λe=>j1
   obtain⟨G,f,z⟩:=Qw.aa.iJ (aa.up H j.ac) c2;rw[c4]at f;injection f with f
   injection f with f
   subst f;obtain⟨D,y,q,_,_⟩:=iT.box z;refine(Dc D y q).mono ?_;rintro _ h3 ⟨rfl,rfl⟩;refine⟨_,i4,aU (λe=>?_) λe=>?_⟩
   ·rw[g,e]at c;refine j.push ag 0 i4 gy i4 i6 (λ_=>rfl) fx l[i] i4 i6 i5 λk I F=>next ?_
    rw[c];exact F
   ·rw[g,e]at c;exact next (by rw[c];simpa using j)
 ·rw[qg i5]at j;exact⟨o,i4,j⟩
theorem Hb(s:Sl)(l:au)(U:St B h0 As λh=>Rd h s 1 az l)(hl:i0 l<=2^30)(G:∀x∈l,0<=x/\x<64)(H:aa B h0 h (bg bB a pw mc offs da w ds::As)):
  ai xJ 117 #[.func (.func 56) #[xB (dB a)] #[],s] h λv h'=>v=xz xF (eI (cx l) w ds).1/\aa B h0 h' (bg bB a pw mc offs da (eI (cx l) w ds).2.1 (eI (cx l) w ds).2.2::As):=by
 refine ts Tryz.func117 ?_ (.two .n (.two .n (.two .n (.two (.two .n (.inn (.loop [(15,aT)] [(4,5),(6,8),(15,27)] .n))) .n)))) (args:=[(.func (.func 56) #[xB (dB a)] #[]),s]);refine(jC s l h (U.at [_] H) i5).mono ?_;rintro _ S ⟨r,rfl,O⟩;have L:=H.bR O;refine⟨r,i4,(Da r l S (L.own 0 i4) i5).mono ?_⟩;rintro _ X ⟨rfl,M,V⟩;have T:=L.mK 0 i4 V M;refine⟨(),i4,(MQ r (iA l) X M (by rw[Cv];omega)).mono ?_⟩;rintro _ h3 ⟨rfl,W,J⟩;have F:=T.step (D:=an 3 ⟨r.ptr,i0 (Lib.compact (iA l)),r.cap⟩ 1 az (Lib.compact (iA l))) 0 i4 λq y A=>⟨J.mono λb _ m z=>m (y.2 b z),W,λb m=>⟨qR (A b (y.2 b m)) J.1,.inl (y.2 b m)⟩⟩
 rw[Sb l G]at F⊢;obtain⟨u,I⟩:∃u,u=cx l:=⟨_,rfl⟩
 rw[<-I]at F⊢;have Q:i0 u<=64:=by have:=qJ (λi=>decide (i∈l)) ((qt 64).map λi:Nat=>(i:Int));rw[I];unfold cx;simpa using this
 refine⟨⟨r.ptr,i0 u,r.cap⟩,i4,?_⟩;refine aq (λt:Nat×Pow×aC=>(t.1:Int)) (λt h'=>t.1<=i0 u/\eI u w ds=eI (u.drop t.1) t.2.1 t.2.2/\aa B h0 h' (an 3 ⟨r.ptr,i0 u,r.cap⟩ 1 az u::bg bB a pw mc offs da t.2.1 t.2.2::As)) (λt=>i0 u-t.1) (0,w,ds) i4 ⟨jj,i4,F⟩ ?_;rintro⟨i,j,f⟩ h4 ⟨hi,c,p⟩;dsimp only at*;refine ae (λe=>?_) (λe=>?_)
 ·have o:i<i0 u:=i5
  obtain⟨ok,m⟩:=aa.cz p.rest;rw[qI o,si]at c;refine(p.seq 0 i4 λ_=>rfl).bo i i4 o u[i] i4 (eU lb ?_);refine(lV u[i] ok m).mono ?_;rintro _ P ⟨rfl,rfl⟩;refine⟨_,i4,?_⟩;rcases nK ok u[i]with⟨c1,c2⟩|⟨n,d,b,c0,c1,c2,c3,c4,c5⟩
  ·rw[c2];refine(ML P).mono ?_;rintro _ R ⟨rfl,rfl⟩;have E:gB j f u[i]=(5,j,f):=by unfold gB;rw[c1]
   rw[E]at c;refine⟨5,i4,bz (λ_=>?_) λe=>absurd e i6⟩;have:eI u w ds=(5,j,f):=c;rw[this];exact⟨i4,p.rest⟩
  ·rw[c5];obtain⟨Z,g,Y⟩:=Qw.aa.iJ (p.aK 2 [1,0]) c2;rw[c4]at g;injection g with g
   injection g with g
   subst g;refine(Vr Y).mono ?_;rintro _ R ⟨rfl,N⟩;have K:=Qw.aa.nJ (k:=bB) (n:=n) c4 N;have E:gB j f u[i]=((d.sync j).1,(d.sync j).2.1,f.set n (dB (d.sync j).2.2)):=by unfold gB;rw[c3];simp only[bV,c0,qj]
   rw[E]at c;refine⟨_,i4,bz (λe2=>?_) λe2=>?_⟩
   ·have:eI u w ds=((d.sync j).1,(d.sync j).2.1,f.set n (dB (d.sync j).2.2)):=by rw[c];exact g9 e2
    rw[this];exact⟨i4,K.om⟩
   ·refine⟨(i+1,(d.sync j).2.1,f.set n (dB (d.sync j).2.2)),js,⟨i7,?_,K.aK 2 [1,0]⟩,i7⟩;rw[c];exact g0 e2
 ·rw[q8 i5]at c;rw[c];exact⟨i4,p.rest⟩
end
theorem HP.Ai{h:f9}:∀{L:List HP} {q:ak} {i:Nat} {A:HP},(HP.all L).p h q->L[i]?=dB A->A.p h q
 |A::L,q,0,A',⟨q1,q2,_,b,_,d,_⟩,hi=>by simp at hi;subst hi;exact A.mono d b
 |A::L,q,i+1,A',⟨q1,q2,_,_,c,_,e⟩,hi=>A'.mono (HP.Ai e (by simpa using hi)) c
 |[],_,i,_,_,hi=>by simp at hi
variable {β:Type} {e e2:Nat} {ll:List (List α)}
section
variable {f:α->aR}
theorem aa.SK(H:aa B h0 h (fo e s e2 k f ll::As))(n:∀x,i0 (f x)=k):∃rs,aa B h0 h (cJ (cw k f) 1 bi s rs ll::As):=by
 obtain⟨rs,H⟩:=H.pR;obtain⟨H,g⟩:=H.Fp;refine⟨rs,H.fM 0 i4 λq b=>⟨?_,g,λi r l c a=>?_⟩⟩
 ·have:=HP.Ai (i:=0) b i4;exact this.1.seq (λ_=>rfl) this.2
 ·have d:i<i0 ll:=(ql.1 a).1;have j:=fU (e:=e2) (k:=k) (f:=f) g i d;have:=HP.Ai (i:=i+1) b o5;have m:rs[i]'(by omega)=r:=by rw[qc i5]at c;simpa using c
  have e2:ll[i]=l:=by rw[qc d]at a;simpa using a
  rw[m,e2]at this;exact this.1.seq n this.2
end
def bC(m:aw)(a:au):List (Int×aM):=a.flatMap λn=>(aX m).map λc=>(n,c)
theorem kD{m:aw}{a:au}{x:Int×aM}(h:x∈bC m a):x.1∈a/\x.2.length=64:=by unfold bC at h;obtain⟨n,e,b⟩:=zO.1 h;obtain⟨c,d,rfl⟩:=qo.1 b;exact⟨e,sj d⟩
theorem jw(m:aw)(a:cI m):i0 (aX m)<=3000:=by have:=FO m a;unfold aX ik;simp;omega
abbrev MR:bO C.toxZ 96 134 2 [xz xF 0,xA eH 0 0] 32:=⟨_,_,i4,i4,i4,i4,i4,i4⟩
section
variable {pw:f7}
theorem Df(s:Sl)(u:List (Int×Sl))(P:List (Int×aM))(I:St B h0 As λh=>ng lZ 2 piv h s u P)(hl:i0 P<=2^30)(G:∀x∈P,(0<=x.1/\x.1<64)/\x.2.length<=2^20)(H:aa B h0 h (bg bB a pw mc offs da w ds::As)):
  ai xJ 57 #[.func (.func 56) #[xB (dB a)] #[],s] h λv h'=>v=xz xF (layAll P w ds).1/\aa B h0 h' (bg bB a pw mc offs da (layAll P w ds).2.1 (layAll P w ds).2.2::As):=by
 refine ts Tryz.func57 ?_ (.two .n (.two .n (.two (.two .n (.inn (.loop [(5,cF),(11,aT)] [(4,6),(7,9),(11,31)] (.two .n (.two .n (.two (.inn (.two .n (.two (.join [] [(4,5),(8,9),(15,25)] (.two (.join [(8,aT)] [(8,9),(15,22)] .n) .n)) .n))) .n)))))) .n))) [(5,(.l [0,1,2,4,5,3,6,7]))] (args:=[(.func (.func 56) #[xB (dB a)] #[]),s]);have ab:=(I.at [_] H).1.len;have ad:=(I.at [_] H).2.1;have W:=(H.nil 3 1 az).aY;refine aq (λt:Sl×Nat×Pow×aC=>(t.1,(t.2.1:Int))) (λt h'=>t.2.1<=i0 P/\kN P w ds=kN (P.drop t.2.1) t.2.2.1 t.2.2.2/\aa B h0 h' (an 3 t.1 1 az ((P.take t.2.1).map qL)::bg bB a pw mc offs da t.2.2.1 t.2.2.2::As)) (λt=>i0 P-t.2.1) (⟨eH,0,0⟩,0,w,ds) i4 ⟨jj,i4,by simpa using W⟩ ?_;rintro⟨o,i,z,q⟩ h1 ⟨hi,f,J⟩;dsimp only at*;refine ae (λe=>?_) (λe=>?_)
 ·have r:i<i0 P:=i5
  rw[qI r,tk]at f;have Z:=I.at [_,_] J;have L:=G _ (qf r);refine Z.1.dY (g:=piv) i i4 i5 (u[i]'(by omega)) i4 ?_;refine J.alloc ag i4 λa4 h2 A=>?_;have A:=A.aY;refine A.storeAll ag 0 i4 i4 (piv (u[i]'(by omega))) i4 i4 i4 i4 λh3 p=>?_;obtain⟨O,Q⟩:=Fix.row (I.at [_,_,_] p) r;have p:=p.aK 3 [2,0,1];obtain⟨ok,S⟩:=aa.cz p;obtain⟨c,m⟩:∃c,c=fQ z q P[i].1 P[i].2:=⟨_,rfl⟩
  rw[<-m]at f;refine bE (λ_ h'=>c.1=0/\aa B h0 h' (bg bB a pw mc offs da c.2.1 c.2.2::av a4 134 (piv (u[i]'(by omega)))::an 3 o 1 az ((P.take i).map qL)::As)) ?_ ?_
  ·refine bE (λe h'=>e=c.1/\aa B h0 h' (bg bB a pw mc offs da c.2.1 c.2.2::av a4 134 (piv (u[i]'(by omega)))::an 3 o 1 az ((P.take i).map qL)::As)) ?_ ?_
   ·refine⟨P[i].1,by rw[<-O];exact(p.box 1 i4).cell0 i4,(u[i]'(by omega)).2,(p.box 1 i4).cell i4,eU lb ?_⟩;refine(lV P[i].1 ok S).mono ?_;rintro _ K ⟨rfl,rfl⟩;refine⟨_,i4,⟨(p.box 1 i4).cell i4,trivial⟩,?_⟩;rcases nK ok P[i].1 with⟨c1,c2⟩|⟨n,d,b,c0,c1,c2,c3,c4,c5⟩
    ·rw[c2];refine(IR (u[i]'(by omega)).2 P[i].2 K Q).mono ?_;rintro _ T ⟨rfl,rfl⟩;have E:c=(if P[i].2.length≠64 then 1 else 5,z,q):=by rw[m];unfold fQ;rw[c1]
     refine⟨_,i4,trivial,by rw[E],?_⟩;rw[E];exact p
    ·rw[c5];obtain⟨b',j,N⟩:=Qw.aa.iJ p c2;rw[c4]at j;injection j with j
     injection j with j
     subst j;refine(EQ (u[i]'(by omega)).2 P[i].2 N Q L.2).mono ?_;rintro _ h6 ⟨rfl,R⟩;have Y:=Qw.aa.nJ (k:=bB) (n:=n) c4 R;have E:c=((d.append z P[i].2).1,(d.append z P[i].2).2.1,q.set n (dB (d.append z P[i].2).2.2)):=by rw[m];unfold fQ;rw[c3];simp only[bV,c0,qj]
     refine⟨_,i4,trivial,by rw[E],?_⟩;rw[E];exact Y
   ·rintro e4 K ⟨rfl,F⟩;refine bz (λe2=>?_) λe2=>⟨e2,F⟩
    rw[g9 e2]at f;have:layAll P w ds=c:=by unfold layAll;rw[f];exact g9 e2
    rw[this];exact⟨i4,F.om.om⟩
  ·rintro _ K ⟨e2,F⟩;rw[g0 e2]at f;refine⟨P[i].1,by rw[<-O];exact(F.box 1 i4).cell0 i4,?_⟩;refine F.push ag 2 i4 gy i4 i6 (λ_=>rfl) fx P[i].1 i4 i6 i9 λV T N=>?_;refine⟨(V,i+1,c.2.1,c.2.2),js,⟨i7,f,?_⟩,i7⟩
   try dsimp only
   rw[aD _ _ r,qT];exact N.aK 3 [2,0]
 ·have M:i=i0 P:=i5
  subst M;rw[List.drop_length]at f;rw[qU]at J;have A:=(J.freeze 0 i4 λ_=>rfl).aK 2 [1,0];have D:layAll P w ds=eI (cx (P.map qL)) z q:=by unfold layAll;rw[f];rfl
  refine(Hb o (P.map qL) (St.ee 0 i4 λh' X=>X) i9 (λx U=>?_) A).mono ?_
  ·obtain⟨y,hy,rfl⟩:=qo.1 U;exact(G y hy).1
  ·rintro _ h2 ⟨rfl,p⟩;refine⟨_,i4,by rw[D],?_⟩;rw[D];exact p.om
theorem ES(x:bF)(m:aw)(s:Sl)(a:au)(h:f9)(hx:df h x m)(H:cI m)(U:Rd h s 1 az a)(Z:i0 a<=2^10):
  ai xJ 58 #[fN x,s] h λv h'=>∃(r:Sl) (Y:List (Int×Sl)),v=r/\Sp h h' [cJ lZ 2 piv r Y (bC m a)]:=by
 refine ts Tryz.func58 ?_ (.two .n (.two .n (.two .n (.two (.two .n (.inn (.loop [(6,cF),(15,aT)] [(6,7),(8,9),(10,11),(15,33)] (.two .n (.two .n (.two (.inn (.two .n (.two .n (.inn (.loop [(6,cF),(21,aT)] [(6,7),(10,11),(21,32)] .n))))) .n)))))) .n)))) (args:=[x,s]);refine(Sp.refl h).boxed λa1 R P=>?_;refine⟨x,(P.box 0 i4).aE _ i4,(mQ x m R (hx.up P.ac) H).mono ?_⟩;rintro _ h2 ⟨r,rfl,R2⟩;have F:=P.bR R2;refine⟨r,i4,?_⟩;obtain⟨rs,F⟩:=F.SK λ_=>rfl;have Q:=jw m H;obtain⟨d,y⟩:∃d,d=aX m:=⟨_,rfl⟩
 rw[<-y]at F Q;have W:=F.eu 0 i4;have ah:=W.1.len;have ad:=W.2.1;have ab:=U.len;obtain⟨T,I⟩:∃T:Int->List ((Int×Sl)×(Int×aM)),T=λn=>(rs.zip d).map λz=>((n,z.1),(n,z.2)):=⟨_,rfl⟩
 have f:∀n,i0 (T n)=i0 d:=λn=>by rw[I];simp;omega
 have O:∀n,(T n).map zH=d.map λc=>(n,c):=λn=>by
  have H:=List.map_snd_zip (l₁:=rs) (l₂:=d) i5
  conv=>rhs;rw[<-H]
  rw[I];simp[w5,Function.comp_def]
 have L:∀n j (N:j<i0 d),(T n)[j]'(by rw[f];exact N)=((n,rs[j]'(by omega)),(n,d[j])):=λn j N=>by subst I;simp
 have g:=(F.nil 134 2 piv).bX [2,0];have D:∀i,i<=i0 a->i0 ((a.take i).flatMap T)<=i*3000:=λi=>by
  induction i with
  |zero=>simp
  |succ i ih=>
   intro S;rw[aD _ _ (show i<i0 a by omega),zf,qp];have R:=ih i5;have h2:i0 ([a[i]].flatMap T)=i0 d:=by rw[zd,wj,qH,f]
   omega
 refine aq (λt:Sl×Nat=>(t.1,(t.2:Int))) (λt h'=>t.2<=i0 a/\Sp h h' [an 134 t.1 2 piv (((a.take t.2).flatMap T).map qL),cJ (cw 1 aB) 1 bi r rs d]) (λt=>i0 a-t.2) (⟨eH,0,0⟩,0) i4 ⟨jj,g⟩ ?_;rintro⟨o,i⟩ h3 ⟨S,g⟩;dsimp only at*;refine ae (λe=>?_) (λe=>?_)
 ·have A:i<i0 a:=i5
  have ht:=D i S;have hb:i*3000<=2^10*3000:=zq _ i5;refine(Seq.up U g.ac).bo i i4 A a[i] i4 ?_;refine aq (λt:Sl×Nat=>(t.1,(t.2:Int))) (λt h'=>t.2<=i0 d/\Sp h h' [an 134 t.1 2 piv (((a.take i).flatMap T).map qL++((T a[i]).take t.2).map qL),cJ (cw 1 aB) 1 bi r rs d]) (λt=>i0 d-t.2) (o,0) i4 ⟨jj,l7⟩ ?_;rintro⟨u,j⟩ h4 ⟨N,p⟩;dsimp only at*;refine ae (λe2=>?_) (λe2=>?_)
  ·have B:j<i0 d:=i5
   refine(p.eu 1 i4).1.lr j i4 i5 ?_;refine p.push ag 0 i4 MR i4 i6 (λ_=>rfl) IS (a[i],rs[j]'(by omega)) i4 i6 (by simp only[qp,qy,qP,f];omega) λX h5 H5=>?_;refine⟨(X,j+1),js,⟨i7,?_⟩,i7⟩
   try dsimp only
   rw[aD (T a[i]) j (by rw[f];exact B),qT,L _ _ B,<-qn];exact H5
  ·have K:j=i0 d:=i5
   subst K;rw[qg (l:=T a[i]) (by rw[f];exact qk _)]at p;refine⟨(u,i+1),js,⟨i7,?_⟩,i7⟩
   try dsimp only
   rw[aD _ _ A,zf,qT,zd,wj,qH];exact p
 ·have M:i=i0 a:=i5
  subst M;rw[qU]at g;refine⟨o,(a.flatMap T).map qL,i4,?_⟩;have p:=(g.freeze 0 i4 λ_=>rfl).lq;refine p.fM 0 i4 λq ⟨q1,q2,_,b,c,z1,z2⟩=>?_;have E:(a.flatMap T).map zH=bC m a:=by unfold bC;rw[List.map_flatMap,<-y];congr 1;funext n;exact O n
  rw[<-E];refine⟨z2.mono c,jj,λj r' l' w G=>?_⟩;rw[qO]at w G;cases g3:(a.flatMap T)[j]? with
  |none=>rw[g3]at w;cases w
  |some t=>
   rw[g3]at w G;simp at w G;subst w;subst G;obtain⟨n,_,V⟩:=zO.1 (w9 g3);rw[I]at V;obtain⟨z,J,rfl⟩:=qo.1 V;obtain⟨k,hk,rfl⟩:=List.mem_iff_getElem.1 J;rw[vb];exact⟨i4,(z1.2.2 k _ _ (qc _) (qc _)).mono b⟩
end
section
variable {d:List bw}
theorem SL{c d:List bw}{y:bw}(b:Sd ct (c++d))(f:∀z∈c,ct z y=eR)(g:∀z∈d,¬ct z y=eR):Sd ct (c++y::d):=
 Sd.app dQ b.left (zu.2 ⟨λz a=>dQ.Cy (g z a),b.right⟩) λx e z a=>by
  rcases qX.1 a with rfl|a
  ·exact f x e
  ·exact b.Ei x e z a
theorem Aj(X M Y:List bw)(a b:Int)(ha:a=(i0 X:Int))(hb:b=(i0 X+i0 M:Nat))(ab:i0 X+i0 M+i0 Y<=2^40)(H:aa B h0 h (cE s (X++(M++Y))::As)):
  ai xJ 288 #[s,xz xF a,xz xF b,.func (.func 158) #[] #[]] h λv h'=>v=.tuple #[]/\∃M',Sd ct M'/\co ct M M'/\aa B h0 h' (cE s (X++(M'++Y))::As):=by
 refine ts Tryz.func288 ?_ (.two .n (.inn (.loop [(8,aT)] [(8,10),(12,53)] (.two .n (.two (.inn (.two .n (.inn (.loop [(9,aT)] [(9,10),(18,53)] (.two (.join [] [(18,35)] .n) .n))))) .n))))) (args:=[s,(a:Int),(b:Int),(.func (.func 158) #[] #[])]);subst ha;subst hb;rw[af ((i0 X:Int)+1)];refine aq (λt:Nat×List bw=>((i0 X+1+t.1:Nat):Int)) (λt h'=>(t.1+1<=i0 M∨t.1=0)/\Sd ct t.2/\co ct (M.take (t.1+1)) t.2/\t.2.length=i0 (M.take (t.1+1))/\aa B h0 h' (cE s (X++(t.2++(M.drop (t.1+1)++Y)))::As)) (λt=>i0 M-t.1) (0,M.take 1) i4 ?_ ?_
 ·refine⟨.inr i4,?_,co.refl _,i4,?_⟩
  ·cases M with
   |nil=>exact List.Pairwise.nil
   |cons x M=>exact zu.2 ⟨λ_ h=>m0,jj⟩
  ·rw[<-qn (M.take (0+1)),qB];exact H
 rintro⟨t,P⟩ h1 ⟨ht,E,r,W,T⟩;dsimp only at*;refine ae (λe=>?_) (λe=>?_)
 ·have I:t+1<i0 M:=i5
  obtain⟨y,hy⟩:∃y,y=M[t+1]:=⟨_,rfl⟩
  have L:i0 P=t+1:=by rw[W];simp;omega
  have eD:M.drop (t+1)=y::M.drop (t+1+1):=by rw[qI I,hy]
  rw[eD]at T;refine aq (λu:List bw×List bw=>((i0 X+i0 u.1:Nat):Int)) (λu h'=>u.1++u.2=P/\(∀z∈u.2,¬ct z y=eR)/\aa B h0 h' (cE s (X++(u.1++(y::(u.2++(M.drop (t+1+1)++Y)))))::As)) (λu=>i0 u.1) (P,[]) (by dsimp only;rw[L];congr 1;omega) ⟨jj,jj,by simpa using T⟩ ?_;rintro⟨c,d⟩ h2 ⟨J,f,N⟩;dsimp only at*;have ad:i0 c+i0 d=t+1:=by rw[<-L,<-J,qp]
  have k:∀{h':f9},(∀z∈c,ct z y=eR)->aa B h0 h' (cE s (X++(c++(y::(d++(M.drop (t+1+1)++Y)))))::As)->
    ∃l:Nat×List bw,qe xF (((i0 X+1+t:Nat):Int)+1)=((i0 X+1+l.1:Nat):Int)/\((l.1+1<=i0 M∨l.1=0)/\Sd ct l.2/\co ct (M.take (l.1+1)) l.2/\l.2.length=i0 (M.take (l.1+1))/\aa B h0 h' (cE s (X++(l.2++(M.drop (l.1+1)++Y)))::As))/\M.length-l.1<i0 M-t:=λ{h'} hle H'=>by
   refine⟨(t+1,c++y::d),by dsimp only;rw[af _];omega,⟨.inl i7,?_,?_,?_,?_⟩,i7⟩
   ·exact SL qb hle f
   ·try dsimp only
    rw[aD M (t+1) I,<-hy];have h1:co ct (M.take (t+1)++[y]) (P++[y]):=r.app (co.refl _);refine h1.trans ?_;rw[<-J,qn];have h2:co ct (d++[y]) ([y]++d):=co.UH dQ λx hx z O=>by rw[qx.1 O];exact f x hx
    exact(co.refl _).app h2
   ·(try dsimp only);simp;omega
   ·try dsimp only
    have:X++((c++y::d)++(M.drop (t+1+1)++Y))=X++(c++(y::(d++(M.drop (t+1+1)++Y)))):=jj
    rw[this];exact H'
  obtain⟨D,R⟩:∃D,D=X++(c++(y::(d++(M.drop (t+1+1)++Y)))):=⟨_,rfl⟩
  refine bE (λ_ h'=>∃(Q:List bw) (z:bw),c=Q++[z]/\¬ct z y=eR/\aa B h0 h' (cE s D::As)) ?_ ?_
  ·rw[<-R]at N k;refine ae (λe2=>?_) (λe2=>⟨trivial,k (λz O=>?_) N⟩)
   ·have K:c≠[]:=λh=>by rw[h]at e2;simp at e2
    obtain⟨Q,z,p⟩:∃(Q:List bw) (z:bw),c=Q++[z]:=⟨c.dropLast,c.getLast K,(List.dropLast_concat_getLast K).symm⟩
    have Z:i0 c=i0 Q+1:=by rw[p];simp
    have g1:D[i0 X+i0 c]?=dB y:=by rw[R,qi i5,show X.length+i0 c-i0 X=i0 c by omega,qi i5,qZ];rfl
    have g2:D[i0 X+i0 c-1]?=dB z:=by rw[R,qi i5,show X.length+i0 c-1-i0 X=i0 Q by omega,p,qn,qi (qk _),qZ];rfl
    obtain⟨U,q⟩:=ql.1 g1;obtain⟨S,F⟩:=ql.1 g2;refine(N.seq 0 i4 λ_=>rfl).dY (g:=cQ) _ i4 U y (by rw[q]) ?_;have ej:qe xF (((i0 X+i0 c:Nat):Int)-1)=((i0 X+i0 c-1:Nat):Int):=j5
    rw[ej];refine(N.seq 0 i4 λ_=>rfl).dY (g:=cQ) _ i4 S z (by rw[F]) (eU lb ?_);refine(oJ y z h2).mono ?_;rintro _ h3 ⟨rfl,R3⟩;have G:=N.up R3.ac;refine⟨_,i4,trivial,ae (λV=>⟨Q,z,p,(pB y z).1 V,G⟩) λV=>k (λw m=>?_) G⟩;have o:ct z y=eR:=by
     by_cases hc:ct z y=eR
     ·exact hc
     ·exact absurd ((pB y z).2 hc) V
    rw[p]at m;rcases qw.1 m with m|m
    ·refine dQ.trans _ _ _ ?_ o;have:Sd ct (Q++[z]):=by rw[<-p];exact Sd.left (v:=d) qb
     exact this.Ei w m z jj
    ·rw[qx.1 m];exact o
   ·have:c=[]:=by
     cases c with
     |nil=>rfl
     |cons x P=>exfalso;simp only[zc]at e2;omega
    rw[this]at O;cases O
  ·rintro _ h3 ⟨Q,z,p,o,G⟩;have Z:i0 c=i0 Q+1:=by rw[p];simp
   have A:D=(X++Q)++z::([]++y::(d++(M.drop (t+1+1)++Y))):=by rw[R,p];simp
   obtain⟨q1,q2,q3,q4⟩:=MM (X++Q) [] (d++(M.drop (t+1+1)++Y)) z y (i:=i0 X+i0 c-1) (j:=i0 X+i0 c) i9 i9;rw[<-A]at q1 q2 q3 q4;obtain⟨S,F⟩:=ql.1 q1;obtain⟨U,q⟩:=ql.1 q2;have ej:qe xF (((i0 X+i0 c:Nat):Int)-1)=((i0 X+i0 c-1:Nat):Int):=j5
   rw[ej];refine(G.seq 0 i4 λ_=>rfl).dY (g:=cQ) _ i4 S z (by rw[F]) ?_;refine(G.seq 0 i4 λ_=>rfl).dY (g:=cQ) _ i4 U y (by rw[q]) ?_;refine G.set ag 0 i4 (λ_=>rfl) i4 (i0 X+i0 c) i4 U z i4 i4 i4 λh4 H4=>⟨trivial,?_⟩
   refine H4.set ag 0 i4 (λ_=>rfl) i4 (i0 X+i0 c-1) i4 (by simpa using S) y i4 i4 i4 λh5 H5=>⟨trivial,?_⟩
   refine⟨(Q,z::d),by dsimp only;congr 1;omega,⟨by dsimp only;rw[<-J,p];simp,?_,?_⟩,i7⟩
   ·try dsimp only
    intro w m;rcases qX.1 m with rfl|m
    ·exact o
    ·exact f w m
   ·try dsimp only
    have:X++(Q++(y::(z::d++(M.drop (t+1+1)++Y))))=(X++Q)++y::([]++z::(d++(M.drop (t+1+1)++Y))):=jj
    rw[this,<-q4];exact H5
 ·refine⟨i4,P,E,?_,?_⟩
  ·rw[qg i5]at r;exact r
  ·rw[q8 i5]at T;simpa using T
end
theorem Ez(x y:Nat)(h:x+y<=2^62:=by omega):qe xF (zx (qe xI (qe xF ((x:Int)+(y:Int)))) (2^min (1:Int).toNat (qG xI)))=(((x+y)/2:Nat):Int):=by
 rw[af ((x:Int)+y)];have e:qe xI ((x:Int)+(y:Int))=(x:Int)+y:=by unfold qe;simp[qG,y9];omega
 rw[e,show min (1:Int).toNat (qG xI)=1 from i4,Int.fdiv_eq_ediv_of_nonneg _ i6,af _];omega
section
variable {d:List bw}
theorem wn{x y:bw}(h:¬lD x y<0):ct y x=eR:=by
 by_cases a:ct y x=eR
 ·exact a
 ·exact absurd ((pB x y).2 a) h
theorem ka{K:bw->Prop}(H:aa B h0 h (cE s d::As)){i:Int}(n:Nat)(c:i=n){x:bw}(b:d[n]?=dB x)(f:K x):
  ∃a:f7,(s.ptr=dB a/\0<=i/\i<((s.len:Nat):Int))/\∃x:bw,ba h (a.add (i.toNat*8)) 0 (cQ x)/\K x:=by
 obtain⟨j,e⟩:=ql.1 b;exact(H.seq 0 i4 λ_=>rfl).dY (g:=cQ) n c j x (by rw[e]) f
theorem IT(x:bw)(X R Y:List bw)(ab:i0 X+1+i0 R+i0 Y<=2^40)(A:Sd ct R)(H:aa B h0 h (cE s (X++(x::(R++Y)))::As)){K:rI}
  (d:∀h',(∃M,Sd ct M/\co ct (x::R) M/\aa B h0 h' (cE s (X++(M++Y))::As))->K (.tuple #[]) h') (a m b:Int) (ha:a=(i0 X:Int)) (hm:m=(i0 X+1:Nat)) (hb:b=(i0 X+1+i0 R:Nat)):
  gm (σ:=Int×Int) (λc K1 g=>
   Br (decide (c.1<c.2))
   ((0<=(1:Int))/\
   ∃a2:f7,(s.ptr=dB a2/\0<=(qe xF (zx (qe xI (qe xF (c.1+c.2))) (2^min (1:Int).toNat (qG xI))))/\(qe xF (zx (qe xI (qe xF (c.1+c.2))) (2^min (1:Int).toNat (qG xI))))<((s.len:Nat):Int))/\
   ∃x3:bw,ba g (a2.add ((qe xF (zx (qe xI (qe xF (c.1+c.2))) (2^min (1:Int).toNat (qG xI)))).toNat*8)) 0 (cQ x3)/\
   ∃a4:f7,(s.ptr=dB a4/\0<=a/\a<((s.len:Nat):Int))/\
   ∃x5:bw,ba g (a4.add (a.toNat*8)) 0 (cQ x5)/\
   sX C 158 ((#[]:Array Value).toList++[recv x3,recv x5]++(#[]:Array Value).toList) (.one (.sc (.int .i64))) g λr6 n=>
   (bH.ok [] n)/\
   Br (decide (r6<(0:Int)))
   (K1 (qe xF ((qe xF (zx (qe xI (qe xF (c.1+c.2))) (2^min (1:Int).toNat (qG xI))))+(1:Int)),c.2) n)
   (K1 (c.1,qe xF (zx (qe xI (qe xF (c.1+c.2))) (2^min (1:Int).toNat (qG xI)))) n))
   (gm (σ:=Int) (λf K2 h3=>
   Br (decide (f<(qe xF (c.1-(1:Int)))))
   (∃a8:f7,(s.ptr=dB a8/\0<=(qe xF (f+(1:Int)))/\(qe xF (f+(1:Int)))<((s.len:Nat):Int))/\
   ∃x9:bw,ba h3 (a8.add ((qe xF (f+(1:Int))).toNat*8)) 0 (cQ x9)/\
   ∃F:f7,(s.ptr=dB F/\0<=f/\f<((s.len:Nat):Int))/\
   ∃r:bw,ba h3 (F.add (f.toNat*8)) 0 (cQ r)/\
   ∃L:f7,(s.ptr=dB L/\0<=f/\f<((s.len:Nat):Int))/\
   aj xJ (qE 153 (xB (dB (L.add (f.toNat*8)))) (recv x9)) h3 λ_ Z=>
   (bH.ok [] Z)/\
   ∃D:f7,(s.ptr=dB D/\0<=(qe xF (f+(1:Int)))/\(qe xF (f+(1:Int)))<((s.len:Nat):Int))/\
   aj xJ (qE 153 (xB (dB (D.add ((qe xF (f+(1:Int))).toNat*8)))) (recv r)) Z λ_ W=>
   (bH.ok [] W)/\
   K2 (qe xF (f+(1:Int))) W)
   (K (.tuple #[]) h3)) a g)) (m,b) h:=by
 subst ha;subst hm;subst hb;refine aq (λt:Nat×Nat=>(((i0 X+1+t.1:Nat):Int),((i0 X+1+t.2:Nat):Int))) (λt h'=>t.1<=t.2/\t.2<=i0 R/\(∀k (d:k<i0 R),k<t.1->¬ct x R[k]=eR)/\(∀k (d:k<i0 R),t.2<=k->ct x R[k]=eR)/\aa B h0 h' (cE s (X++(x::(R++Y)))::As)) (λt=>t.2-t.1) (0,i0 R) i4 ⟨jj,jj,λ_ _ h=>m0,λ_ g n=>absurd g (by simpa using n),H⟩ ?_;rintro⟨i,j⟩ g ⟨ad,hj,q,y,O⟩;dsimp only at*;refine ae (λe=>?_) (λe=>?_)
 ·have o:i<j:=i5
  rw[Ez _ _];have eh:((i0 X+1+i)+(i0 X+1+j))/2=i0 X+1+(i+j)/2:=i5
  rw[eh];have d:(i+j)/2<i0 R:=i5
  refine⟨i6,ka O _ i4 (x:=R[(i+j)/2]) ?_ (ka O X.length i4 (x:=x) ?_ (eU lb ?_))⟩
  ·rw[qi i5,show X.length+1+(i+j)/2-i0 X=(i+j)/2+1 by omega,qq,qm d,qc d]
  ·rw[qi (qk _),qZ];rfl
  refine(oJ R[(i+j)/2] x g).mono ?_;rintro _ n ⟨rfl,R2⟩;have H2:=O.up R2.ac;refine⟨_,i4,trivial,ae (λe2=>?_) λe2=>?_⟩
  ·have S:=(pB _ _).1 e2;refine⟨((i+j)/2+1,j),js,⟨i7,hj,λk J T=>?_,y,H2⟩,i7⟩;intro hc;exact S (dQ.trans _ _ _ hc (A.at_ dQ (i:=k) (j:=(i+j)/2) (by dsimp only at T;omega) d))
  ·refine⟨(i,(i+j)/2),i4,⟨i7,i7,q,λk J P=>?_,H2⟩,i7⟩;exact dQ.trans _ _ _ (wn e2) (A.at_ dQ (by dsimp only at P;omega) J)
 ·have o:i=j:=i5
  subst o;have hM:Sd ct (R.take i++x::R.drop i):=by
   refine Sd.app dQ (Sd.left (v:=R.drop i) (by rw[qB];exact A)) (zu.2 ⟨λz E=>?_,Sd.right (u:=R.take i) (by rw[qB];exact A)⟩) λz E w I=>?_
   ·obtain⟨k,d,rfl⟩:=qD E;rw[z6];exact y _ _ i5
   ·obtain⟨k,d,rfl⟩:=qD E;rw[yg];have V:k<i:=l6
    have g:=dQ.Cy (q k l6 V);rcases qX.1 I with rfl|I
    ·exact g
    ·obtain⟨l,hl,rfl⟩:=qD I;rw[z6];exact A.at_ dQ i5 (by simp at hl;omega)
  have hE:co ct (x::R) (R.take i++x::R.drop i):=by
   have g:co ct ([x]++R.take i) (R.take i++[x]):=co.UH dQ λz E w I=>by
    rw[qx.1 E];obtain⟨k,d,rfl⟩:=qD I;rw[yg];exact q k l6 l6
   have n:=g.app (co.refl (le:=ct) (R.drop i));have e1:([x]++R.take i)++R.drop i=x::R:=by rw[qn,qB];rfl
   have e2:(R.take i++[x])++R.drop i=R.take i++x::R.drop i:=jj
   rw[e1,e2]at n;exact n
  have el:qe xF (((i0 X+1+i:Nat):Int)-1)=((i0 X+i:Nat):Int):=j5
  rw[el];refine aq (λt:Nat=>((i0 X+t:Nat):Int)) (λt h'=>t<=i/\aa B h0 h' (cE s (X++(R.take t++(x::(R.drop t++Y))))::As)) (λt=>i-t) 0 i4 ⟨i5,by simpa using O⟩ ?_;rintro t h3 ⟨ht,N⟩;refine ae (λe2=>?_) (λe2=>?_)
  ·have ah:t<i:=i5
   have G:t<i0 R:=i5
   have p:X++(R.take t++(x::(R.drop t++Y)))=(X++R.take t)++x::([]++R[t]::(R.drop (t+1)++Y)):=by rw[qI G];simp only[qn,zp,wg]
   obtain⟨Q,U,q3,q4⟩:=MM (X++R.take t) [] (R.drop (t+1)++Y) x R[t] (i:=i0 X+t) (j:=i0 X+t+1) i9 i9;rw[<-p]at Q U q3 q4;have ek:qe xF (((i0 X+t:Nat):Int)+1)=((i0 X+t+1:Nat):Int):=j5
   rw[ek];refine ka N _ i4 U (ka N _ i4 Q ?_);refine N.set ag 0 i4 (λ_=>rfl) i4 (i0 X+t) i4 (ql.1 Q).1 R[t] i4 i4 i4 λZ H4=>⟨trivial,?_⟩
   refine H4.set ag 0 i4 (λ_=>rfl) i4 (i0 X+t+1) i4 (by rw[q9];exact(ql.1 U).1) x i4 i4 i4 λW H5=>⟨trivial,?_⟩
   refine⟨t+1,i4,⟨i5,?_⟩,i5⟩;have e3:X++(R.take (t+1)++(x::(R.drop (t+1)++Y)))=(X++R.take t)++R[t]::([]++x::(R.drop (t+1)++Y)):=by rw[aD R t G];simp only[qn,zp,wg]
   rw[e3,<-q3];exact H5
  ·have:t=i:=i5
   subst this;refine d h3 ⟨R.take t++x::R.drop t,hM,hE,?_⟩;have:X++((R.take t++x::R.drop t)++Y)=X++(R.take t++(x::(R.drop t++Y))):=jj
   rw[this];exact N
theorem He(y:bw)(X L Y:List bw)(ao:i0 X+i0 L+1+i0 Y<=2^40)(O:Sd ct L)(H:aa B h0 h (cE s (X++(L++(y::Y)))::As)){K:rI}
  (d:∀h',(∃M,Sd ct M/\co ct (L++[y]) M/\aa B h0 h' (cE s (X++(M++Y))::As))->K (.tuple #[]) h') (a m:Int) (ha:a=(i0 X:Int)) (hm:m=(i0 X+i0 L:Nat)):
  gm (σ:=Int×Int) (λb K3 W=>
   Br (decide (b.1<b.2))
   ((0<=(1:Int))/\
   ∃J:f7,(s.ptr=dB J/\0<=m/\m<((s.len:Nat):Int))/\
   ∃D:bw,ba W (J.add (m.toNat*8)) 0 (cQ D)/\
   ∃r:f7,(s.ptr=dB r/\0<=(qe xF (zx (qe xI (qe xF (b.1+b.2))) (2^min (1:Int).toNat (qG xI))))/\(qe xF (zx (qe xI (qe xF (b.1+b.2))) (2^min (1:Int).toNat (qG xI))))<((s.len:Nat):Int))/\
   ∃N:bw,ba W (r.add ((qe xF (zx (qe xI (qe xF (b.1+b.2))) (2^min (1:Int).toNat (qG xI)))).toNat*8)) 0 (cQ N)/\
   sX C 158 ((#[]:Array Value).toList++[recv D,recv N]++(#[]:Array Value).toList) (.one (.sc (.int .i64))) W λam h7=>
   (bH.ok [] h7)/\
   Br (!(decide (am<(0:Int))))
   (K3 (qe xF ((qe xF (zx (qe xI (qe xF (b.1+b.2))) (2^min (1:Int).toNat (qG xI))))+(1:Int)),b.2) h7)
   (K3 (b.1,qe xF (zx (qe xI (qe xF (b.1+b.2))) (2^min (1:Int).toNat (qG xI)))) h7))
   (gm (σ:=Int) (λc K4 h8=>
   Br (decide (c>b.1))
   (∃S:f7,(s.ptr=dB S/\0<=(qe xF (c-(1:Int)))/\(qe xF (c-(1:Int)))<((s.len:Nat):Int))/\
   ∃q:bw,ba h8 (S.add ((qe xF (c-(1:Int))).toNat*8)) 0 (cQ q)/\
   ∃E:f7,(s.ptr=dB E/\0<=c/\c<((s.len:Nat):Int))/\
   ∃F:bw,ba h8 (E.add (c.toNat*8)) 0 (cQ F)/\
   ∃a25:f7,(s.ptr=dB a25/\0<=c/\c<((s.len:Nat):Int))/\
   aj xJ (qE 153 (xB (dB (a25.add (c.toNat*8)))) (recv q)) h8 λ_ h9=>
   (bH.ok [] h9)/\
   ∃p:f7,(s.ptr=dB p/\0<=(qe xF (c-(1:Int)))/\(qe xF (c-(1:Int)))<((s.len:Nat):Int))/\
   aj xJ (qE 153 (xB (dB (p.add ((qe xF (c-(1:Int))).toNat*8)))) (recv F)) h9 λ_ T=>
   (bH.ok [] T)/\
   K4 (qe xF (c-(1:Int))) T)
   (K (.tuple #[]) h8)) m W)) (a,m) h:=by
 subst ha;subst hm;refine aq (λt:Nat×Nat=>(((i0 X+t.1:Nat):Int),((i0 X+t.2:Nat):Int))) (λt h'=>t.1<=t.2/\t.2<=i0 L/\(∀k (d:k<i0 L),k<t.1->ct L[k] y=eR)/\(∀k (d:k<i0 L),t.2<=k->¬ct L[k] y=eR)/\aa B h0 h' (cE s (X++(L++(y::Y)))::As)) (λt=>t.2-t.1) (0,i0 L) i4 ⟨jj,jj,λ_ _ h=>m0,λ_ n U=>absurd n (by simpa using U),H⟩ ?_;rintro⟨i,j⟩ n ⟨ar,hj,P,g,Z⟩;dsimp only at*;refine ae (λe=>?_) (λe=>?_)
 ·have f:i<j:=i5
  rw[Ez _ _];have eh:((i0 X+i)+(i0 X+j))/2=i0 X+(i+j)/2:=i5
  rw[eh];have d:(i+j)/2<i0 L:=i5
  refine⟨i6,ka Z (i0 X+i0 L) i4 (x:=y) ?_ (ka Z _ i4 (x:=L[(i+j)/2]) ?_ (eU lb ?_))⟩
  ·rw[qi i5,show X.length+i0 L-i0 X=i0 L by omega,qi (qk _),qZ];rfl
  ·rw[qi i5,show X.length+(i+j)/2-i0 X=(i+j)/2 by omega,qm d,qc d]
  refine(oJ y L[(i+j)/2] n).mono ?_;rintro _ U ⟨rfl,R2⟩;have H2:=Z.up R2.ac;refine⟨_,i4,trivial,?_⟩;by_cases e2:lD y L[(i+j)/2]<0
  ·have ad:=(pB _ _).1 e2;refine aU (λA=>absurd A n3) λ_=>?_;refine⟨(i,(i+j)/2),i4,⟨i7,i7,P,λk R ab=>?_,H2⟩,i7⟩;intro hc;exact ad (dQ.trans _ _ _ (O.at_ dQ (i:=(i+j)/2) (j:=k) (by dsimp only at ab;omega) R) hc)
  ·refine aU (λ_=>?_) λA=>absurd A n3;refine⟨((i+j)/2+1,j),js,⟨i7,hj,λk R ah=>?_,g,H2⟩,i7⟩;exact dQ.trans _ _ _ (O.at_ dQ (by dsimp only at ah;omega) d) (wn e2)
 ·have f:i=j:=i5
  subst f;have hM:Sd ct (L.take i++y::L.drop i):=by
   refine Sd.app dQ (Sd.left (v:=L.drop i) (by rw[qB];exact O)) (zu.2 ⟨λz I=>?_,Sd.right (u:=L.take i) (by rw[qB];exact O)⟩) λz I w Q=>?_
   ·obtain⟨k,d,rfl⟩:=qD I;rw[z6];exact dQ.Cy (g _ l6 i5)
   ·obtain⟨k,d,rfl⟩:=qD I;rw[yg];have al:k<i:=l6
    have n:=P k l6 al;rcases qX.1 Q with rfl|Q
    ·exact n
    ·obtain⟨l,hl,rfl⟩:=qD Q;rw[z6];exact O.at_ dQ i5 (by simp at hl;omega)
  have hE:co ct (L++[y]) (L.take i++y::L.drop i):=by
   have n:co ct (L.drop i++[y]) ([y]++L.drop i):=co.UH dQ λz I w Q=>by
    rw[qx.1 Q];obtain⟨k,d,rfl⟩:=qD I;rw[z6];exact g _ l6 i5
   have U:=(co.refl (le:=ct) (L.take i)).app n;have e1:L.take i++(L.drop i++[y])=L++[y]:=by rw[<-qn,qB]
   rw[e1]at U;exact U
  refine aq (λt:Nat=>((i0 X+t:Nat):Int)) (λt h'=>i<=t/\t<=i0 L/\aa B h0 h' (cE s (X++(L.take t++(y::(L.drop t++Y))))::As)) (λt=>t-i) L.length i4 ⟨i5,i5,by simpa using Z⟩ ?_;rintro t h3 ⟨ht,ap,V⟩;refine ae (λe2=>?_) (λe2=>?_)
  ·obtain⟨u,rfl⟩:∃u,t=u+1:=⟨t-1,i5⟩
   have G:u<i0 L:=i5
   have o:X++(L.take (u+1)++(y::(L.drop (u+1)++Y)))=(X++L.take u)++L[u]::([]++y::(L.drop (u+1)++Y)):=by rw[aD L u G];simp only[qn,zp,wg]
   obtain⟨q1,q2,q3,q4⟩:=MM (X++L.take u) [] (L.drop (u+1)++Y) L[u] y (i:=i0 X+u) (j:=i0 X+(u+1)) i9 i9;rw[<-o]at q1 q2 q3 q4;have ek:qe xF (((i0 X+(u+1):Nat):Int)-1)=((i0 X+u:Nat):Int):=j5
   rw[ek];refine ka V _ i4 q1 (ka V _ i4 q2 ?_);refine V.set ag 0 i4 (λ_=>rfl) i4 (i0 X+(u+1)) i4 (ql.1 q2).1 L[u] i4 i4 i4 λh4 H4=>⟨trivial,?_⟩
   refine H4.set ag 0 i4 (λ_=>rfl) i4 (i0 X+u) i4 (by rw[q9];exact(ql.1 q1).1) y i4 i4 i4 λh5 H5=>⟨trivial,?_⟩
   refine⟨u,i4,⟨i5,i5,?_⟩,i5⟩;have A:X++(L.take u++(y::(L.drop u++Y)))=(X++L.take u)++y::([]++L[u]::(L.drop (u+1)++Y)):=by rw[qI G];simp only[qn,zp,wg]
   rw[A,<-q4];exact H5
  ·have:t=i:=i5
   subst this;refine d h3 ⟨L.take t++y::L.drop t,hM,hE,?_⟩;have:X++((L.take t++y::L.drop t)++Y)=X++(L.take t++(y::(L.drop t++Y))):=jj
   rw[this];exact V
end
theorem VB{L R:List bw}(l:Sd ct L)(k:Sd ct R)(p q:Nat)(s:p<=i0 L)(r:q<=i0 R)
  (m:∀i j (c:i<i0 L) (b:j<i0 R),i+1=p->j=q->ct L[i] R[j]=eR)
  (n:∀i j (c:i<i0 L) (b:j<i0 R),i=p->j+1=q->¬ct L[i] R[j]=eR):
  (∀x∈L.take p,∀y∈R.drop q,ct x y=eR)/\(∀x∈L.drop p,∀y∈R.take q,¬ct x y=eR):=by
 constructor
 ·intro x e y g;obtain⟨i,c,rfl⟩:=qD e;obtain⟨j,b,rfl⟩:=qD g;rw[yg,z6];have d:i<p:=oj
  have a:q+j<i0 R:=by simp at b;omega
  have f:=l.at_ dQ (i:=i) (j:=p-1) i5 i5;have o:=m (p-1) q i5 i5 i5 i4;have h3:=k.at_ dQ (i:=q) (j:=q+j) i5 a;exact dQ.trans _ _ _ f (dQ.trans _ _ _ o h3)
 ·intro x e y g h;obtain⟨i,c,rfl⟩:=qD e;obtain⟨j,b,rfl⟩:=qD g;rw[yg,z6]at h;have a:j<q:=by simp at b;omega
  have d:p+i<i0 L:=oj
  have f:=l.at_ dQ (i:=p) (j:=p+i) i5 d;have h3:=k.at_ dQ (i:=j) (j:=q-1) i5 i5;exact n p (q-1) i5 i5 i4 i5 (dQ.trans _ _ _ f (dQ.trans _ _ _ h h3))
theorem BR:∀(N:Nat) {B:ak} {h0 h:f9} {As:List HP} {s:Sl} (X L R Y:List bw) (a m b:Int),0<i0 L->0<i0 R->i0 L+i0 R<=N->a=(i0 X:Int)->m=(i0 X+i0 L:Nat)->b=(i0 X+i0 L+i0 R:Nat)->i0 X+i0 L+i0 R+i0 Y<=2^40->Sd ct L->Sd ct R->
  aa B h0 h (cE s (X++(L++(R++Y)))::As)->
  ai xJ 289 #[s,xz xF a,xz xF m,xz xF b,.func (.func 158) #[] #[]] h λv h'=>v=.tuple #[]/\∃M,Sd ct M/\co ct (L++R) M/\aa B h0 h' (cE s (X++(M++Y))::As):=by
 intro N
 induction N with
 |zero=>intro B h0 h As s X L R Y a m b hL hR hN;omega
 |succ N ih=>
  intro B h0 h As s X L R Y a m b hL hR hN ha hm hb T U Q H;refine ts Tryz.func289 ?_ (.two (.two .n (.two (.two .n (.two .n (.two (.inn (.loop [(10,aT),(11,aT)] [(10,13),(31,54)] .n)) (.two (.two .n (.inn (.loop [(13,aT)] [(13,14),(55,77)] .n))) .n)))) .n)) (.two (.two .n (.two (.two .n (.two .n (.two (.inn (.loop [(14,aT),(15,aT)] [(14,17),(83,107)] .n)) (.two (.two .n (.inn (.loop [(17,aT)] [(17,18),(108,129)] .n))) .n)))) .n)) (.two .n (.two .n (.two .n (.two (.join [(20,aT),(21,aT)] [(20,22),(138,147)] .n) (.two .n (.two (.inn (.loop [(20,aT),(21,aT)] [(20,22),(23,24),(149,175)] .n)) (.two .n (.two (.join [] [(178,192)] .n) (.two (.join [] [(192,206)] .n) .n))))))))))) (args:=[s,(a:Int),(m:Int),(b:Int),(.func (.func 158) #[] #[])]);have e1:qe xF (m-a)=(i0 L:Int):=j5
  have e2:qe xF (b-m)=(i0 R:Int):=j5
  rw[e1,e2];refine bf (λc=>?_) λc=>bf (λc2=>?_) λc2=>?_
  ·obtain⟨x,hx⟩:∃x,L=[x]:=by
    match L,hL,c with
    |[x],_,_=>exact⟨x,i4⟩
    |x::y::L,_,c=>simp at c;omega
   subst hx;exact IT (K:=λv h'=>v=.tuple #[]/\∃M,Sd ct M/\co ct ([x]++R) M/\aa B h0 h' (cE s (X++(M++Y))::As)) x X R Y (by simp at T⊢;omega) Q H (λh' ⟨M,S,P,V⟩=>⟨i4,M,S,P,V⟩) a m b ha (by rw[hm];simp) (by rw[hb];simp)
  ·obtain⟨y,hy⟩:∃y,R=[y]:=by
    match R,hR,c2 with
    |[x],_,_=>exact⟨x,i4⟩
    |x::y::L,_,c=>simp at c;omega
   subst hy;exact He (K:=λv h'=>v=.tuple #[]/\∃M,Sd ct M/\co ct (L++[y]) M/\aa B h0 h' (cE s (X++(M++Y))::As)) y X L Y (by simp at T⊢;omega) U H (λh' ⟨M,S,P,V⟩=>⟨i4,M,S,P,V⟩) a m ha hm
  ·refine⟨i6,?_⟩;subst ha;subst hm;subst hb;have c':i0 L≠1:=λE=>c i5;have bk:i0 R≠1:=λE=>c2 i5;rw[Ez X.length (i0 X+i0 L+i0 R)];obtain⟨BM,ad⟩:∃BM,BM=(i0 X+(i0 X+i0 L+i0 R))/2:=⟨_,rfl⟩
   rw[<-ad];have en:qe xF ((BM:Int)+((i0 X+i0 L:Nat):Int))=((BM+(i0 X+i0 L):Nat):Int):=j5
   rw[en];obtain⟨n,hn⟩:∃n,n=BM+(i0 X+i0 L):=⟨_,rfl⟩
   rw[<-hn];have ep:qe xF ((n:Int)-1)=((n-1:Nat):Int):=j5
   rw[ep];obtain⟨D,hD⟩:∃D,D=X++(L++(R++Y)):=⟨_,rfl⟩
   have gL:∀i (f:i<i0 L),D[i0 X+i]?=dB L[i]:=λi f=>by
    rw[hD,qi i5,zk,qm f,qc f]
   have gR:∀i (f:i<i0 R),D[i0 X+i0 L+i]?=dB R[i]:=λi f=>by
    rw[hD,qi i5,show X.length+i0 L+i-i0 X=i0 L+i by omega,qi i5,zk,qm f,qc f]
   rw[<-hD]at H;refine bE (λ(k:Int×Int) h'=>h'=h/\∃o f:Nat,k=((o:Int),(f:Int))/\o<=f/\X.length<=o/\f<=i0 X+i0 L/\f<=BM/\n<=o+(i0 X+i0 L+i0 R)/\(o=i0 X∨n=o+(i0 X+i0 L+i0 R))/\(f=i0 X+i0 L∨f=BM)) ?_ ?_
   ·refine ae (λe=>⟨i4,n-(i0 X+i0 L+i0 R),BM,?_,i5,i5,i5,i5,i5,i5,i5⟩) λe=>⟨i4,i0 X,i0 X+i0 L,i4,i5,i5,i5,i5,i5,i5,i5⟩
    have:qe xF ((n:Int)-((i0 X+i0 L+i0 R:Nat):Int))=((n-(i0 X+i0 L+i0 R):Nat):Int):=j5
    rw[this]
   ·rintro⟨bq,bl⟩ _ ⟨rfl,o,f,a6,b1,b2,b3,b4,b5,b6,b7⟩;injection a6 with est1 est2
    subst est1;subst est2
    try dsimp only
    refine aq (λt:Nat×Nat=>((t.1:Int),(t.2:Int))) (λt h'=>o<=t.1/\t.1<=t.2/\t.2<=f/\
     (∀i j (l:i<i0 L) (hj:j<i0 R),i0 X+i+1=t.1->i0 X+i+(i0 X+i0 L+j)=n-1->o<t.1->ct L[i] R[j]=eR)/\
     (∀i j (l:i<i0 L) (hj:j<i0 R),i0 X+i=t.2->i0 X+i+(i0 X+i0 L+j)=n-1->t.2<f->¬ct L[i] R[j]=eR)/\
     aa B h0 h' (cE s D::As)) (λt=>t.2-t.1) (o,f) i4 ⟨jj,by simpa using b1,jj,λ_ _ _ _ _ _ F=>absurd F jj,λ_ _ _ _ _ _ F=>absurd F jj,H⟩ ?_
    rintro⟨k,r⟩ h1 ⟨t1,t2,t3,F1,F2,H1⟩;dsimp only at*;refine ae (λe=>?_) (λe=>?_)
    ·have F:k<r:=i5
     rw[Ez _ _];obtain⟨G,bb⟩:∃G,G=(k+r)/2:=⟨_,rfl⟩
     rw[<-bb];have a0:qe xF (((n-1:Nat):Int)-(G:Int))=((n-1-G:Nat):Int):=j5
     rw[a0];obtain⟨i,l⟩:∃i,G=i0 X+i:=⟨G-i0 X,i5⟩
     obtain⟨j,a2⟩:∃j,n-1-G=i0 X+i0 L+j:=⟨n-1-G-(i0 X+i0 L),i5⟩
     have a1:i<i0 L:=i5
     have a9:j<i0 R:=i5
     rw[a2,l];refine⟨i6,ka H1 _ i4 (gR j a9) (ka H1 _ i4 (gL i a1) (eU lb ?_))⟩;refine(oJ R[j] L[i] h1).mono ?_;rintro _ h2 ⟨rfl,R2⟩;have I:=H1.up R2.ac;refine⟨_,i4,trivial,?_⟩;by_cases e2:lD R[j] L[i]<0
     ·have ar:=(pB _ _).1 e2;refine aU (λe3=>absurd e3 n3) λ_=>?_;refine⟨(k,i0 X+i),i4,⟨t1,i7,i7,F1,λi2 j2 a7 a4 w A _=>?_,I⟩,i7⟩;dsimp only at w;have:i2=i:=i5
      subst this;have:j2=j:=i5
      subst this;exact ar
     ·refine aU (λ_=>?_) λe3=>absurd e3 n3;refine⟨(i0 X+i+1,r),js,⟨i7,i7,t3,λi2 j2 a7 a4 w A _=>?_,F2,I⟩,i7⟩;dsimp only at w;have:i2=i:=i5
      subst this;have:j2=j:=i5
      subst this;exact wn e2
    ·have ap:k=r:=i5
     subst ap;have ay:qe xF ((n:Int)-(k:Int))=((n-k:Nat):Int):=j5
     rw[ay];obtain⟨p,hp⟩:∃p,k=i0 X+p:=⟨k-i0 X,i5⟩
     obtain⟨q,hq⟩:∃q,n-k=i0 X+i0 L+q:=⟨n-k-(i0 X+i0 L),i5⟩
     have a5:p<=i0 L:=i5
     have am:q<=i0 R:=i5
     obtain⟨ao,a3⟩:=VB U Q p q a5 am (λi j l hj w A=>F1 i j l hj i5 i5 (by
      by_cases a8:o<k
      ·exact a8
      ·exfalso;have:k=o:=i5
       omega)) (λi j l hj w A=>F2 i j l hj i5 i5 (by
      by_cases ax:k<f
      ·exact ax
      ·exfalso;have:k=f:=i5
       omega))
     have eL:L.take p++L.drop p=L:=qB _ _;have Z:R.take q++R.drop q=R:=qB _ _;have l1:i0 (L.take p)=p:=i9
     have l2:i0 (L.drop p)=i0 L-p:=jj
     have r1:i0 (R.take q)=q:=i9
     have r2:i0 (R.drop q)=i0 R-q:=jj
     have ah:Sd ct (L.take p):=Sd.left (v:=L.drop p) (by rw[eL];exact U);have W:Sd ct (L.drop p):=Sd.right (u:=L.take p) (by rw[eL];exact U);have al:Sd ct (R.take q):=Sd.left (v:=R.drop q) (by rw[Z];exact Q);have ab:Sd ct (R.drop q):=Sd.right (u:=R.take q) (by rw[Z];exact Q);rw[hq,hp];refine bE (λ_ h'=>aa B h0 h' (cE s (X++(L.take p++(R.take q++(L.drop p++(R.drop q++Y)))))::As)) ?_ ?_
     ·have z:aa B h0 h1 (cE s ((X++L.take p)++(L.drop p++(R.take q++(R.drop q++Y))))::As):=by
       have:(X++L.take p)++(L.drop p++(R.take q++(R.drop q++Y)))=D:=by
        rw[hD]
        conv=>rhs;rw[<-eL,<-Z]
        simp only[qn,zp,wg]
       rw[this];exact H1
      refine ae (λw=>ae (λA=>?_) λA=>?_) λw=>?_
      ·refine(ON (X++L.take p) (L.drop p) (R.take q) (R.drop q++Y) _ _ _ i5 i5 i9 i9 i9 i9 z).mono ?_;rintro _ h2 ⟨rfl,I⟩;refine⟨(),i4,?_⟩;rw[qn]at I;exact I
      ·have:R.take q=[]:=qW i5;rw[this]at z⊢;simpa using z
      ·have:L.drop p=[]:=qW i5;rw[this]at z⊢;simpa using z
     ·rintro _ h2 I;refine bE (λ_ h'=>∃g,Sd ct g/\co ct (L.take p++R.take q) g/\g.length=p+q/\aa B h0 h' (cE s (X++(g++(L.drop p++(R.drop q++Y))))::As)) ?_ ?_
      ·have d:(L.take p=[]∨R.take q=[])->∃g,Sd ct g/\co ct (L.take p++R.take q) g/\g.length=p+q/\aa B h0 h2 (cE s (X++(g++(L.drop p++(R.drop q++Y))))::As):=λJ=>by
        refine⟨L.take p++R.take q,?_,co.refl _,i9,by rw[qn];exact I⟩;rcases J with E|E
        ·rw[E];exact al
        ·rw[E,qH];exact ah
       refine ae (λw=>ae (λA=>?_) λA=>d (.inr (qW i5))) λw=>d (.inl (qW i5));refine(ih X (L.take p) (R.take q) (L.drop p++(R.drop q++Y)) _ _ _ i5 i5 i5 i4 (by rw[l1]) (by rw[l1,r1];omega) i9 ah al I).mono ?_;rintro _ h3 ⟨rfl,g,S,P,V⟩;refine⟨(),i4,g,S,P,?_,V⟩;have O:=sM dQ P;rw[<-O];simp;omega
      ·rintro _ h3 ⟨g,m1,m2,m3,H3⟩;have fin:∀{h':f9} {M2:List bw},Sd ct M2->co ct (L.drop p++R.drop q) M2->aa B h0 h' (cE s (X++(g++(M2++Y)))::As)->(Value.tuple #[]=.tuple #[]/\∃M,Sd ct M/\co ct (L++R) M/\aa B h0 h' (cE s (X++(M++Y))::As)):=λ{h' M2} k1 k2 k3=>by
        obtain⟨f1,f2⟩:=UI dQ (by rw[eL];exact U) (by rw[Z];exact Q) ao a3 m2 m1 k2 k1;rw[eL,Z]at f2;exact⟨i4,g++M2,f1,f2,by rw[qn];exact k3⟩
       have d:(L.drop p=[]∨R.drop q=[])->(Value.tuple #[]=.tuple #[]/\∃M,Sd ct M/\co ct (L++R) M/\aa B h0 h3 (cE s (X++(M++Y))::As)):=λJ=>by
        refine fin (M2:=L.drop p++R.drop q) ?_ (co.refl _) (by rw[qn];exact H3);rcases J with E|E
        ·rw[E];exact ab
        ·rw[E,qH];exact W
       refine ae (λw=>ae (λA=>?_) λA=>d (.inr (qW i5))) λw=>d (.inl (qW i5));have bd:aa B h0 h3 (cE s ((X++g)++(L.drop p++(R.drop q++Y)))::As):=by rw[qn];exact H3
       refine(ih (X++g) (L.drop p) (R.drop q) Y _ _ _ i5 i5 i5 i9 i9 i9 i9 W ab bd).mono ?_;rintro _ h4 ⟨rfl,M2,k1,k2,k3⟩;refine⟨(),i4,fin k1 k2 (by rw[qn]at k3;exact k3)⟩
def Bs(k:Nat)(l:List bw):Prop:=∀q,Sd ct ((l.drop (q*k)).take k)
theorem Bs.nil(k:Nat):Bs k []:=λq=>by simp[Sd]
theorem Bs.first{k:Nat}{l:List bw}(h:Bs k l):Sd ct (l.take k):=by have:=h 0;simpa using this
theorem Bs.rest{k:Nat}{l:List bw}(h:Bs k l):Bs k (l.drop k):=λq=>by
 have:=h (q+1);rw[zE,show k+q*k=(q+1)*k by rw[zI,Nat.add_comm]];exact this
theorem Bs.snoc{k t:Nat}{l M:List bw}(h:Bs k l)(b:i0 l=t*k)(d:Sd ct M)(c:i0 M<=k:=by omega):Bs k (l++M):=λq=>by
 rcases Nat.lt_trichotomy q t with hq|hq|hq
 ·have a:(q+1)*k<=t*k:=zq _ hq;rw[zI]at a;rw[List.drop_append_of_le_length i5,zW l9];exact h q
 ·subst hq;rw[<-b,List.drop_left,qg c];exact d
 ·have a:(t+1)*k<=q*k:=zq _ hq;rw[zI]at a;rw[q8 (by rw[qp];omega)];simp[Sd]
theorem Bs.whole{k:Nat}{l:List bw}(h:Bs k l)(a:i0 l<=k):Sd ct l:=by have:=h.first;rw[qg a]at this;exact this
section
variable {d:List bw}
theorem OO(d:List bw)(n:Int)(hn:n=i0 d)(hd:i0 d<=2^30)(H:aa B h0 h (cE s d::As)):
  ai xJ 228 #[s,xz xF n,.func (.func 158) #[] #[]] h λv h'=>v=.tuple #[]/\aa B h0 h' (cE s (d.mergeSort ct)::As):=by
 subst hn;refine ts Tryz.func228 ?_ (.two .n (.two .n (.two (.inn (.loop [(7,aT),(8,aT)] [(7,9),(11,23)] .n)) (.two .n (.inn (.loop [(6,aT)] [(6,10),(28,63)] (.two .n (.inn (.two .n (.two (.inn (.loop [(7,aT),(8,aT)] [(7,9),(33,49)] .n)) .n)))))))))) (args:=[s,(i0 d:Int),(.func (.func 158) #[] #[])]);refine aq (λP:List bw=>((i0 P:Int),((i0 P+20:Nat):Int))) (λP h'=>i0 P<=i0 d/\(∃t,i0 P=t*20)/\Bs 20 P/\co ct (d.take P.length) P/\aa B h0 h' (cE s (P++d.drop P.length)::As)) (λP=>i0 d-i0 P) [] i4 ⟨jj,⟨0,jj⟩,Bs.nil _,by simpa using co.refl _,l4⟩ ?_;rintro P Z ⟨hP,⟨t,F⟩,S,W,L⟩
 try dsimp only
 refine ae (λe=>?_) (λe=>?_)
 ·have X:i0 P+20<=i0 d:=i5
  have eY:(d.drop P.length).take 20++d.drop (i0 P+20)=d.drop P.length:=by rw[<-zE];exact qB _ _
  have R:i0 ((d.drop P.length).take 20)=20:=i9
  rw[<-eY]at L;refine(Aj P ((d.drop P.length).take 20) (d.drop (i0 P+20)) _ _ i4 (by rw[R]) i9 L).mono ?_;rintro _ h2 ⟨rfl,m,p,b,H2⟩;have x:i0 m=20:=by rw[<-sM dQ b,R]
  have f:i0 (P++m)=i0 P+20:=by rw[qp,x]
  refine⟨(),i4,P++m,?_,⟨i5,⟨t+1,by rw[f,F,zI]⟩,S.snoc F p,?_,?_⟩,i5⟩
  ·rw[f,af _];congr 1
  ·rw[f];have:d.take (i0 P+20)=d.take P.length++(d.drop P.length).take 20:=by rw[List.take_add]
   rw[this];exact W.app b
  ·rw[f,qn];exact H2
 ·have N:aa B h0 Z (cE s (P++(d.drop P.length++[]))::As):=by rw[qH];exact L
  refine(Aj P (d.drop P.length) [] _ _ i4 l9 i9 N).mono ?_;rintro _ h3 ⟨rfl,m,p,b,U⟩;have x:i0 m=i0 d-i0 P:=by rw[<-sM dQ b,q7]
  have K:=S.snoc F p;have c:co ct d (P++m):=by have:=W.app b;rw[qB]at this;exact this
  refine⟨(),i4,?_⟩;refine aq (λt:Nat×List bw=>(t.1:Int)) (λt h'=>0<t.1/\t.1<=2^32/\t.2.length=i0 d/\Bs t.1 t.2/\co ct d t.2/\aa B h0 h' (cE s t.2::As)) (λt=>2^32-t.1) (20,P++m) i4 ⟨i7,i7,by dsimp only;rw[qp];omega,K,c,by rw[qH]at U;exact U⟩ ?_;rintro⟨k,l⟩ h4 ⟨al,hk,hl,T,w,I⟩;dsimp only at*;refine ae (λe2=>?_) (λe2=>?_)
  ·have ad:k<i0 d:=i5
   have D:qe xF ((2:Int)*k)=((2*k:Nat):Int):=j5
   have G:qe xF ((k:Int)*2)=((2*k:Nat):Int):=j5
   rw[D];have next:∀{h':f9} (l':List bw),i0 l'=i0 d->Bs (2*k) l'->co ct l l'->aa B h0 h' (cE s l'::As)->∃g:Nat×List bw,qe xF ((k:Int)*2)=(g.1:Int)/\(0<g.1/\g.1<=2^32/\g.2.length=i0 d/\Bs g.1 g.2/\co ct d g.2/\aa B h0 h' (cE s g.2::As))/\2^32-g.1<2^32-k:=λ{h'} l' q1 q2 q3 q4=>
    ⟨(2*k,l'),G,⟨i7,i7,q1,q2,w.trans q3,q4⟩,i7⟩
   refine aq (λt:List bw×List bw=>((i0 t.1:Int),((i0 t.1+2*k:Nat):Int))) (λt h'=>(∃u,i0 t.1=u*(2*k))/\t.1.length+i0 t.2=i0 d/\Bs (2*k) t.1/\Bs k t.2/\co ct l (t.1++t.2)/\aa B h0 h' (cE s (t.1++t.2)::As)) (λt=>i0 t.2) ([],l) (by dsimp only;rw[yE,Nat.zero_add];rfl) ⟨⟨0,jj⟩,by simpa using hl,Bs.nil _,T,by simpa using co.refl _,by simpa using I⟩ ?_;rintro⟨P,Q⟩ V ⟨⟨u,z⟩,ab,i,a,c,O⟩;dsimp only at*;have J:qe xF ((i0 P:Int)+k)=((i0 P+k:Nat):Int):=j5
   rw[J];have eQ:Q.take k++Q.drop k=Q:=qB _ _;refine ae (λe3=>?_) (λe3=>ae (λe4=>?_) λe4=>?_)
   ·have ah:2*k<=i0 Q:=i5
    have r:Q.take k++((Q.drop k).take k++Q.drop (2*k))=Q:=by
     have:Q.drop (2*k)=(Q.drop k).drop k:=by rw[zE];congr 1;omega
     rw[this,qB,eQ]
    have l1:i0 (Q.take k)=k:=i9
    have l2:i0 ((Q.drop k).take k)=k:=i9
    have j:aa B h0 V (cE s (P++(Q.take k++((Q.drop k).take k++Q.drop (2*k))))::As):=by rw[r];exact O
    refine(BR _ P (Q.take k) ((Q.drop k).take k) (Q.drop (2*k)) _ _ _ i5 i5 (qk _) i4 (by rw[l1]) (by rw[l1,l2];omega) i9 a.first a.rest.first j).mono ?_;rintro _ h6 ⟨rfl,M,p,b,A⟩;have y:i0 M=2*k:=by rw[<-sM dQ b,qp,l1,l2];omega
    have o:i0 (P++M)=i0 P+2*k:=by rw[qp,y]
    refine⟨(),i4,(P++M,Q.drop (2*k)),?_,⟨⟨u+1,by dsimp only;rw[o,z];exact(zI u (2*k)).symm⟩,by dsimp only;rw[o,q7];omega,i.snoc z p,?_,?_,?_⟩,by dsimp only;rw[q7];omega⟩
    ·try dsimp only
     rw[o,af _];congr 1
    ·try dsimp only
     have:Q.drop (2*k)=(Q.drop k).drop k:=by rw[zE];congr 1;omega
     rw[this];exact a.rest.rest
    ·try dsimp only
     refine c.trans ?_
     conv=>arg 2;rw[<-r]
     rw[qn];have:=(co.refl P).app (b.app (co.refl (Q.drop (2*k))));rw[qn]at this;exact this
    ·try dsimp only
     rw[qn];exact A
   ·have q:k<i0 Q:=i5
    have Y:i0 Q<2*k:=i5
    have l1:i0 (Q.take k)=k:=i9
    have l2:i0 (Q.drop k)=i0 Q-k:=jj
    have E:Sd ct (Q.drop k):=by have:=a.rest.first;rw[qg i5]at this;exact this
    have j:aa B h0 V (cE s (P++(Q.take k++(Q.drop k++[])))::As):=by rw[qH,eQ];exact O
    refine(BR _ P (Q.take k) (Q.drop k) [] _ _ _ i5 i5 (qk _) i4 (by rw[l1]) (by rw[l1,l2];omega) i9 a.first E j).mono ?_;rintro _ h6 ⟨rfl,M,p,b,A⟩;have y:i0 M=i0 Q:=by rw[<-sM dQ b,eQ]
    rw[eQ]at b;rw[qH]at A;exact⟨(),i4,next (P++M) (by rw[qp];omega) (i.snoc z p) (c.trans ((co.refl _).app b)) A⟩
   ·have q:i0 Q<=k:=i5
    exact next (P++Q) (by rw[qp];omega) (i.snoc z (a.whole q)) c O
  ·have hs:=T.whole i5;rw[aal dQ hs w]at I;exact⟨i4,I⟩
theorem Hg(d:List bw)(b:i0 d<=2^30)(H:aa B h0 h (cE s d::As)):
  ai xJ 157 #[s,.func (.func 158) #[] #[]] h λv h'=>v=.tuple #[]/\aa B h0 h' (cE s (d.mergeSort ct)::As):=by
 refine ts Tryz.func157 ?_ (args:=[s,(.func (.func 158) #[] #[])]);refine(OO d _ (by rw[(H.own 0 i4).len]) b H).mono ?_;rintro _ c ⟨rfl,a⟩;exact⟨(),i4,i4,a⟩
def jT:bw:=(0,0,0,0,0,0,0,⟨eH,0,0⟩)
end
def kU(l:List bw)(k:Nat):Bool:=decide (k=0)||decide (lD (l.getD k jT) (l.getD (k-1) jT)≠0)
def kq(l:List bw)(k:Nat):List bw:=((qt k).filter (kU l)).map λi=>l.getD i jT
def VC(l:List bw):List bw:=kq l l.length
theorem mS(l:List bw)(k:Nat):kq l (k+1)=kq l k++if kU l k then[l.getD k jT]else[]:=by unfold kq;rw[zL,zg,qT,zl,vi];split<;>rfl
section
variable {d:List bw}
theorem Hj(a b:bw)(h:f9):ai xJ 160 #[recv a,recv b] h λv h'=>v=xD (decide (lD a b=0))/\Sp h h' []:=by refine ts Tryz.func160 ?_ (args:=[a,b]);refine(Sp.refl h).boxed λg j e=>e.boxed λi f c=>?_;refine⟨a,(c.box 0 i4).aE _ i4,b,(c.box 1 i4).aE _ i4,(oJ a b f).mono ?_⟩;rintro _ h3 ⟨rfl,d⟩;refine⟨_,i4,?_,.zip (aa.up c d.ac).ac⟩;congr 1
theorem FQ(l:List bw)(hd:i0 l<=2^30)(H:aa B h0 h (cE s l::As)):
  ai xJ 159 #[s,.func (.func 160) #[] #[]] h λv h'=>∃r:Sl,v=r/\aa B h0 h' (cE r (VC l)::As):=by
 refine ts Tryz.func159 ?_ (.two .n (.two .n (.two (.two .n (.inn (.loop [(5,aT)] [(4,8),(12,65)] (.two .n (.two (.inn (.two .n (.two (.two .n (.two (.two .n (.inn (.loop [(5,aT),(7,aT)] [(5,6),(7,8),(32,59)] .n))) .n)) .n))) .n))))) .n))) (args:=[s,(.func (.func 160) #[] #[])]);have ad:=(H.own 0 i4).len;have y:=(H.own 0 i4).cap;have g:(∀j,j<i0 l->kU l j=eR)->VC l=l:=λz=>by
  have:∀k,k<=i0 l->kq l k=l.take k:=λk=>by
   induction k with
   |zero=>simp[kq]
   |succ k ih=>
    intro J;rw[mS,ih i5,g0 (z k i5),aD l k,getD_lt (show k<i0 l by omega)]
  unfold VC;rw[this _ (qk _),qU]
 refine ae (λe=>⟨s,i4,?_⟩) (λe=>?_)
 ·rw[g λj f=>by unfold kU;rw[hU (show j=0 by omega)];rfl];exact H
 refine aq (λi:Nat=>(i:Int)) (λi h'=>1<=i/\i<=i0 l/\(∀j,j<i->kU l j=eR)/\aa B h0 h' (cE s l::As)) (λi=>i0 l-i) 1 i4 ⟨i5,i5,λj f=>by unfold kU;rw[hU (show j=0 by omega)];rfl,H⟩ ?_;rintro i h1 ⟨ah,hi,z,I⟩;refine ae (λN=>?_) (λN=>?_)
 ·have w:i<i0 l:=by have e':=N;omega
  have ei:qe xF ((i:Int)-1)=((i-1:Nat):Int):=j5
  rw[ei];refine ka I i i4 (x:=l.getD i jT) (by rw[getD_lt w,qc w]) (ka I (i-1) i4 (x:=l.getD (i-1) jT) (by rw[getD_lt (show i-1<i0 l by omega),qc]) (eU lb ?_));refine(Hj _ _ h1).mono ?_;rintro _ h2 ⟨rfl,R2⟩;have Y:=I.up R2.ac;refine⟨_,i4,trivial,bc (λe2=>?_) λe2=>?_⟩
  ·have m:kU l i=eS:=by unfold kU;rw[hZ (show¬i=0 by omega)];simpa using e2
   have q:kq l i=l.take i:=by
    have:∀k,k<=i->kq l k=l.take k:=λk=>by
     induction k with
     |zero=>simp[kq]
     |succ k ih=>
      intro J;rw[mS,ih i5,g0 (z k i5),aD l k,getD_lt (show k<i0 l by omega)]
    exact this i (qk _)
   refine⟨⟨i5,i5⟩,?_⟩;rw[qj];refine aq (λt:Nat×List bw=>((i0 (kq l (i+t.1)):Int),(t.1:Int))) (λt h'=>1<=t.1/\i+t.1<=i0 l/\t.2.length=i0 l/\(kq l (i+t.1)).length+1<=i+t.1/\t.2.take (kq l (i+t.1)).length=kq l (i+t.1)/\(∀j,i+t.1-1<=j->t.2[j]?=l[j]?)/\aa B h0 h' (cE s t.2::As)) (λt=>i0 l-t.1) (1,l) ?_ ⟨jj,i7,i4,?_,?_,λ_ _=>rfl,Y⟩ ?_
   ·try dsimp only
    rw[mS,m,q];simp;omega
   ·try dsimp only
    rw[mS,m,q];simp;omega
   ·try dsimp only
    rw[mS,m,q];simp
   rintro⟨k,D⟩ h3 ⟨ab,am,u,M,d,p,G⟩;dsimp only at*;obtain⟨c,P⟩:∃c,c=i0 (kq l (i+k)):=⟨_,rfl⟩
   rw[<-P]at M d⊢;have al:=(G.own 0 i4).len;have E:=(G.seq 0 i4 λ_=>rfl).drop i y;refine ae (λe3=>?_) (λe3=>?_)
   ·have T:i+k<i0 l:=i5
    have ek:qe xF ((k:Int)-1)=((k-1:Nat):Int):=j5
    rw[ek];have W:∀j,k-1<=j->(f:i+j<i0 l)->(D.drop i)[j]?=dB (l.getD (i+j) jT):=λj f F=>by
     rw[List.getElem?_drop,p _ i5,getD_lt F,qc F]
    have gk:=W k i5 T;have K:=W (k-1) i5 i5;obtain⟨V,X⟩:=ql.1 gk;obtain⟨Z,q2⟩:=ql.1 K;refine Seq.dY E k i4 V (l.getD (i+k) jT) (by rw[X]) ?_;refine Seq.dY E (k-1) i4 Z (l.getD (i+(k-1)) jT) (by rw[q2]) (eU lb ?_);refine(Hj _ _ h3).mono ?_;rintro _ h4 ⟨rfl,R4⟩;have O:=G.up R4.ac;have o:kU l (i+k)=!decide (lD (l.getD (i+k) jT) (l.getD (i+(k-1)) jT)=0):=by unfold kU;rw[hZ (show¬i+k=0 by omega),show i+k-1=i+(k-1)by omega];simp
    have b:=mS l (i+k);rw[o]at b;refine⟨_,i4,trivial,aU (λS=>?_) λS=>?_⟩
    ·rw[S]at b;have a:i0 (kq l (i+(k+1)))=c+1:=by rw[<-wY,b];simp[P]
     have A:=(O.seq 0 i4 λ_=>rfl).drop i y;refine Seq.dY A k i4 V (l.getD (i+k) jT) (by rw[X]) ?_;refine O.set ag 0 i4 (λ_=>rfl) i4 c i4 i5 (l.getD (i+k) jT) i4 i4 i4 λh5 H5=>?_;refine⟨(k+1,D.set c (l.getD (i+k) jT)),?_,⟨i7,i7,by dsimp only;rw[q9];exact u,by dsimp only;rw[a];omega,?_,λj f=>?_,H5⟩,i7⟩
     ·try dsimp only
      rw[a,af _,af _];rfl
     ·try dsimp only
      rw[a,aD _ c (by rw[q9];omega),List.getElem_set_self,List.take_set_of_le (qk _),d,<-wY,b];simp
     ·dsimp only at f⊢;rw[zw i5];exact p j i5
    ·rw[S]at b;have a:i0 (kq l (i+(k+1)))=c:=by rw[<-wY,b];simp[P]
     refine⟨(k+1,D),?_,⟨i7,i7,u,by dsimp only;rw[a];omega,?_,λj f=>p j (by dsimp only at f;omega),O⟩,i7⟩
     ·try dsimp only
      rw[a,af _];rfl
     ·try dsimp only
      rw[a,d,<-wY,b];simp
   ·have R:i+k=i0 l:=i5
    refine⟨⟨i5,i5⟩,?_⟩;rw[qj];refine G.rp ag 0 i4 adN (λ_=>rfl) i4 i6 c i5 λh6 U=>⟨⟨i5,i5⟩,⟨s.ptr,c,s.cap⟩,i4,?_⟩
    rw[d,R]at U;exact U
  ·refine⟨i+1,j0,⟨i5,i5,λj f=>?_,Y⟩,i5⟩;by_cases L:j=i
   ·subst L;unfold kU;rw[hU (show lD (l.getD j jT) (l.getD (j-1) jT)≠0 by simpa using e2)];simp
   ·exact z j i5
 ·have Q:i=i0 l:=by have e':=N;omega
  subst Q;rw[g z];exact⟨s,i4,I⟩
end
def fieldsOf(d:Option TypeDesc):List (Bool×TypeId×Nat):=match d with|some (.struct fs)=>fs.toList.map (λf=>(f.name== "_",f.type,f.offset))|_=>[]
theorem VD:fieldsOf (Tryz.prog.underlying 25)=[(eS,3,0),(eS,3,1),(eS,3,2)]:=j3
theorem YF:Tryz.prog.stoodInHeld 25=eS:=j3
theorem YG:Tryz.prog.eqGuardType Tryz.prog.depth 25=eS:=j3
theorem MS{P:Program}{t:TypeId}{a b c:TypeId×Nat}(h:fieldsOf (P.underlying t)=[(eS,a.1,a.2),(eS,b.1,b.2),(eS,c.1,c.2)]):
  ∃f g e:Field,P.underlying t=dB (.struct #[f,g,e])/\(f.name≠ "_" /\f.type=a.1/\f.offset=a.2)/\(g.name≠ "_" /\g.type=b.1/\g.offset=b.2)/\(e.name≠ "_" /\e.type=c.1/\e.offset=c.2):=by
 cases hu:P.underlying t with
 |none=>rw[hu]at h;cases h
 |some d=>
  rw[hu]at h;cases d with
  |struct fs=>
   simp only[fieldsOf]at h;obtain⟨l⟩:=fs;have i:i0 l=3:=by simpa using congrArg vJ h
   obtain⟨f,r,rfl⟩:=yB i;obtain⟨g,k,rfl⟩:=yB (by simpa using i:i0 r=1+1);obtain⟨e,j,rfl⟩:=yB (by simpa using i:i0 k=0+1);obtain rfl:j=[]:=sR
   simp at h;exact⟨f,g,e,i4,⟨h.1.1,h.1.2.1,h.1.2.2⟩,⟨h.2.1.1,h.2.1.2.1,h.2.1.2.2⟩,⟨h.2.2.1,h.2.2.2.1,h.2.2.2.2⟩⟩
  |_=>cases h
theorem ji{P:Program}{d:Nat}{t:TypeId}{k:IntKind}(h:∃c,P.underlying t=dB (.int c))(a b:Int):aF P (Op.equalIn (d+1) t (.int k a) (.int k b)) (a==b):=by obtain⟨c,h⟩:=h;unfold Op.equalIn;refine(aH h).bind ?_;simp only[if_true];exact .pure
theorem lW{P:Program}{t:TypeId}{k:IntKind}(h:P.underlying t=dB (.int k)){a:Array Value}{i:Nat}{v:Value}(b:a[i]?=dB v):aF P (part t a i) v:=by unfold part isAgg;refine aF.bind (v:=eS) ((aH h).bind .pure) ?_;simp only[zb,if_false,b];exact .pure
theorem aeX(p q:Pm):aF xJ (Op.equal 25 (xE #[xz xF p.1,xz xF p.2.1,xz xF p.2.2]) (xE #[xz xF q.1,xz xF q.2.1,xz xF q.2.2])) (decide (p=q)):=by
 obtain⟨f,g,u,z,⟨y,H,F⟩,⟨E,D,A⟩,⟨I,B,u3⟩⟩:=MS (a:=(3,0)) (b:=(3,1)) (c:=(3,2)) VD;have G:∃k,Tryz.prog.underlying 3=dB (.int k):=⟨.i64,j3⟩
 obtain⟨k,d⟩:=G;unfold Op.equal;rw[show Op.maxDepth=9998+1+1 from i4,Op.equalIn];refine(aH z).bind ?_;refine aF.bind (v:=xJ) (λw=>rfl) ?_;simp only[YF,zb,if_false,List.forIn_toArray,List.forIn_cons,List.forIn_nil,ne_eq,y,E,I,not_false_eq_true,if_true,H,F,D,A,B,u3];obtain⟨a,b,c⟩:=p;obtain⟨h,i,j⟩:=q
 try dsimp only
 have n:aF xJ (part 3 #[Value.int xF a,Value.int xF b,Value.int xF c] 0) _:=lW d i4;have o:aF xJ (part 3 #[Value.int xF h,Value.int xF i,Value.int xF j] 0) _:=lW d i4;have s:aF xJ (part 3 #[Value.int xF a,Value.int xF b,Value.int xF c] 1) _:=lW d i4;have r:aF xJ (part 3 #[Value.int xF h,Value.int xF i,Value.int xF j] 1) _:=lW d i4;have t:aF xJ (part 3 #[Value.int xF a,Value.int xF b,Value.int xF c] 2) _:=lW d i4;have x:aF xJ (part 3 #[Value.int xF h,Value.int xF i,Value.int xF j] 2) _:=lW d i4;by_cases l:a=h
 ·by_cases m:b=i
  ·by_cases h3:c=j
   ·have e:decide ((a,b,c)=(h,i,j))=eR:=by simp[l,m,h3]
    rw[e];refine aF.bind (v:=(eH,())) (aF.bind (v:=ForInStep.yield (eH,())) (n.bind (o.bind ((ji ⟨k,d⟩ a h).bind ?_))) (aF.bind (v:=ForInStep.yield (eH,())) (s.bind (r.bind ((ji ⟨k,d⟩ b i).bind ?_))) (aF.bind (v:=ForInStep.yield (eH,())) (t.bind (x.bind ((ji ⟨k,d⟩ c j).bind ?_))) .pure))) .pure
    ·simp only[l,beq_self_eq_true,yb,zb,if_false];exact .pure
    ·simp only[m,beq_self_eq_true,yb,zb,if_false];exact .pure
    ·simp only[h3,beq_self_eq_true,yb,zb,if_false];exact .pure
   ·have e:decide ((a,b,c)=(h,i,j))=eS:=by simp[h3]
    rw[e];refine aF.bind (v:=(dB eS,())) (aF.bind (v:=ForInStep.yield (eH,())) (n.bind (o.bind ((ji ⟨k,d⟩ a h).bind ?_))) (aF.bind (v:=ForInStep.yield (eH,())) (s.bind (r.bind ((ji ⟨k,d⟩ b i).bind ?_))) (aF.bind (v:=ForInStep.done (dB eS,())) (t.bind (x.bind ((ji ⟨k,d⟩ c j).bind ?_))) .pure))) .pure
    ·simp only[l,beq_self_eq_true,yb,zb,if_false];exact .pure
    ·simp only[m,beq_self_eq_true,yb,zb,if_false];exact .pure
    ·rw[show(c==j)=eS by simpa using h3];simp only[yx,if_true];exact .pure
  ·have e:decide ((a,b,c)=(h,i,j))=eS:=by simp[m]
   rw[e];refine aF.bind (v:=(dB eS,())) (aF.bind (v:=ForInStep.yield (eH,())) (n.bind (o.bind ((ji ⟨k,d⟩ a h).bind ?_))) (aF.bind (v:=ForInStep.done (dB eS,())) (s.bind (r.bind ((ji ⟨k,d⟩ b i).bind ?_))) .pure)) .pure
   ·simp only[l,beq_self_eq_true,yb,zb,if_false];exact .pure
   ·rw[show(b==i)=eS by simpa using m];simp only[yx,if_true];exact .pure
 ·have e:decide ((a,b,c)=(h,i,j))=eS:=by simp[l]
  rw[e];refine aF.bind (v:=(dB eS,())) (aF.bind (v:=ForInStep.done (dB eS,())) (n.bind (o.bind ((ji ⟨k,d⟩ a h).bind ?_))) .pure) .pure;rw[show(a==h)=eS by simpa using l];simp only[yx,if_true];exact .pure
theorem adQ(x y:Operand)(p q:Pm):kf xJ .neq 25 x y (xE #[xz xF p.1,xz xF p.2.1,xz xF p.2.2]) (xE #[xz xF q.1,xz xF q.2.1,xz xF q.2.2]) (xD (!decide (p=q))):=by
 unfold kf eqGuard;refine aF.bind (v:=()) ?_ ?_
 ·simp only[yb,zb,if_false];refine aF.bind (v:=xJ) (λw=>rfl) ?_;refine aF.bind (v:=xJ) (λw=>rfl) ?_;simp only[YG,yx,if_true];exact .pure
 ·exact(aeX p q).bind .pure
def SM(P:ci->Bool)(l:List ci)(i:Int):Prop:=(i=-1/\l.any P=eS)∨∃n:Nat,∃h:n<i0 l,i=n/\P l[n]=eR/\(l.take n).any P=eS
theorem MT{P:ci->Bool}{l:List ci}{i:Int}(h:SM P l i):decide (i>=0)=l.any P:=by
 rcases h with⟨rfl,h⟩|⟨n,hn,rfl,h,_⟩
 ·rw[h];rfl
 ·rw[zY.2 ⟨_,qf hn,h⟩];exact hU i5
theorem ET(f:FuncId)(pre post:Array Value)(P:Qw.ci->Bool)(l:Sl)(a:List Qw.ci)(h:f9)(r:C.fns[f]?=dB eR)(m:dN sS h l a)(B:i0 a<=2^30)
  (p:∀(u:dP) (E:Qw.ci) (h':f9),Sp h h' []->dN jN h' u E->E∈a->ai xJ f (pre.toList++[Value.agg #[xC u.1,xz xF u.2.1,xz xF u.2.2.1,u.2.2.2]]++post.toList).toArray h' λv g=>v=xD (P E)/\Sp h' g []):
  ai xJ 142 #[l,.func (.func f) pre post] h λv h'=>(∃i:Int,v=xz xF i/\SM P a i)/\Sp h h' []:=by
 refine gT l (f,pre,post) ?_;obtain⟨k,o,z,y⟩:=bD.kg m;have x:=bD.len m;refine aq (λi:Nat=>(i:Int)) (λi h'=>i<=i0 a/\(a.take i).any P=eS/\Sp h h' []) (λi=>i0 a-i) 0 i4 ⟨i5,jj,Sp.refl h⟩ ?_;rintro i s ⟨A,b,d⟩;refine ae (λe=>?_) (λe=>?_)
 ·have c:i<i0 a:=by have t:=e;omega
  have n:=jN.mono (jN.loc (y i i5 c) d.ac) λ_ q=>qR q d.ac.1;refine(Seq.up o d.ac).dY i i4 i5 (k[i]'(by omega)) i4 (eU r ?_);refine(p (k[i]'(by omega)) a[i] s d n (qf c)).mono ?_;rintro _ D ⟨rfl,w⟩;have j:=d.up w.ac;refine⟨_,i4,bc (λe2=>⟨⟨i,i4,.inr ⟨i,c,i4,e2,b⟩⟩,j⟩) λe2=>?_⟩;refine⟨i+1,j0,⟨i5,?_,j⟩,i5⟩;rw[aD _ _ c,yU,b,List.any_cons,List.any_nil,e2];rfl
 ·have t:=e;rw[qg i5]at b;exact⟨⟨-1,i4,.inl ⟨i4,b⟩⟩,d⟩
theorem IU(f:FuncId)(pre post:Array Value)(P:Qw.ci->Bool)(l:Sl)(a:List Qw.ci)(h:f9)(d:C.fns[f]?=dB eR)(k:dN sS h l a)(j:i0 a<=2^30)
  (c:∀(u:dP) (E:Qw.ci) (h':f9),Sp h h' []->dN jN h' u E->E∈a->ai xJ f (pre.toList++[Value.agg #[xC u.1,xz xF u.2.1,xz xF u.2.2.1,u.2.2.2]]++post.toList).toArray h' λv b=>v=xD (P E)/\Sp h' b []):
  ai xJ 175 #[l,.func (.func f) pre post] h λv h'=>v=xD (a.any P)/\Sp h h' []:=by
 refine ts Tryz.func175 ?_ (args:=[l,(.func (.func f) pre post)]);refine(ET f pre post P l a h d k j c).mono ?_;rintro _ m ⟨⟨i,rfl,g⟩,e⟩;exact⟨i,i4,by rw[MT g],e⟩
theorem oL(o b t:Int)(h:f9):ai xJ 89 #[xz xF o,xz xF b,xz xF t] h λv h'=>v=xz xH (cb o b t)/\h'=h:=by
 refine ts Tryz.func89 ?_;refine⟨?_,i4⟩;have:qe xH ((qe xH ((qe xH ((128:Int)*(qe xH o)))+(qe xH ((16:Int)*(qe xH b)))))+(qe xH t))=cb o b t:=by unfold cb qe;simp[qG,y9];omega
 rw[this]
theorem OP(x:bF)(m:aw)(y:bw)(r:cP)(h:f9)(l:df h x m)(X:cI m)(Q:dN gq h y r):
  ai xJ 156 #[fN x,recv y] h λv h'=>v=xD (dz m r)/\Sp h h' []:=by
 refine ts Tryz.func156 ?_ (.two .n (.two (.join [] [(4,15)] .n) .n)) (args:=[x,y]);refine(Sp.refl h).boxed λa1 h1 H1=>H1.boxed λj h2 o=>?_;obtain⟨⟨Y,e2,e3,F,e5,e7,e8⟩,e6⟩:=id Q;have I:=congrArg (·.1) l.p;have H:=congrArg (·.2.1) l.p;have t:=congrArg (·.2.2) l.p;have z:=congrArg (·.1) F;have G:=congrArg (·.2.1) F;have D:=congrArg (·.2.2) F;have Z:=X.ob;refine aO ⟨y,(o.box 1 i4).aE _ i4,(ER y r h2 (gq.mono (gq.loc Q o.ac) λ_ W=>qR W o.ac.1)).mono ?_⟩;rintro _ h3 ⟨rfl,S⟩;have d:=o.up S.ac;have K:=d.box 0 i4;have B:=d.box 1 i4;refine⟨_,i4,aU (λg=>⟨by unfold dz;rw[g];rfl,.zip d.ac⟩) λg=>?_⟩;obtain⟨_,g2,_⟩:=(kA r).1 g;refine⟨r.p,by rw[<-z,<-G,<-D];exact B.Ex 3 i4 i4 i4,m.p,by rw[<-I,<-H,<-t];exact K.Ex 2 i4 i4 i4,_,adQ _ _ r.p m.p,aU (λw=>⟨?_,.zip d.ac⟩) λw=>?_⟩
 ·unfold dz;rw[g,w];rfl
 obtain⟨P,J⟩:∃P:Qw.ci->Bool,P=λx=>decide (x.object=r.object)&&(decide (r.block<(x.tries.length:Int))&&decide (r.seed=cb r.object r.block (x.tries.getD r.block.toNat 0))):=⟨_,rfl⟩
 have A:dz m r=m.objs.any P:=by unfold dz;rw[g,w,J];rfl
 refine⟨x.2.2.2.2.2.2.2,K.cell i4,?_⟩;refine(IU 227 #[] #[xB (dB j)] P x.2.2.2.2.2.2.2 m.objs h3 lb (l.up d.ac).objs i5 λu E U H4 T _=>?_).mono ?_
 ·obtain⟨⟨y1,y2,y3⟩,N⟩:=T;have V:=Seq.len N;have i:=B.ac H4.ac B.lt;refine ts Tryz.func227 ?_ (args:=[u,j]);refine(Sp.refl U).boxed λa5 a e=>?_;have O:=e.box 0 i4;have b:=i.ac e.ac i.lt;have q:f8 a (a5.add 1)=dB (xz xF E.object):=by rw[<-y2];exact O.cell i4
  have f:f8 a (a5.add 3)=dB (xA u.2.2.2.ptr u.2.2.2.len u.2.2.2.cap):=O.cell i4;have k:f8 a j=dB (xz xF r.object):=by rw[<-Y];exact b.cell0 i4
  have c:f8 a (j.add 1)=dB (xz xF r.block):=by rw[<-e2];exact b.cell i4
  have M:f8 a (j.add 6)=dB (xz xH r.seed):=by rw[<-e5];exact b.cell i4
  rw[J];refine⟨E.object,q,r.object,k,bf (λs=>?_) λs=>⟨⟨k,q,trivial⟩,?_,.zip e.ac⟩⟩
  ·refine⟨u.2.2.2,f,r.block,c,ae (λR=>?_) λR=>⟨⟨c,f,k,q,trivial⟩,?_,.zip e.ac⟩⟩
   ·have L:r.block.toNat<E.tries.length:=i5
    refine⟨r.seed,M,r.object,k,r.block,c,u.2.2.2,f,r.block,c,?_⟩;refine Seq.bo (Seq.up N e.ac) r.block.toNat i5 L (E.tries.getD r.block.toNat 0) (by rw[getD_lt L];rfl) ?_;refine(oL _ _ _ a).mono ?_;rintro _ _ ⟨rfl,rfl⟩;refine⟨_,i4,⟨c,f,M,c,f,k,q,trivial⟩,?_,.zip e.ac⟩
    try dsimp only
    rw[hU s,hU (show r.block<(E.tries.length:Int)by omega),zS,zS];congr 1
   ·try dsimp only
    rw[hZ (show¬r.block<(E.tries.length:Int)by omega)];simp
  ·try dsimp only
   rw[hZ s];rfl
 ·rintro _ a ⟨rfl,R5⟩;exact⟨_,i4,by rw[A],.zip (aa.up d R5.ac).ac⟩
def uK(k:Nat)(f:α->aR):iF Sl (List α):=⟨λh q s l=>Seq h q s k f l/\s.len<=s.cap,λa b=>⟨a.1.ac b,a.2⟩,λa c=>⟨a.1.mono c,a.2⟩⟩
theorem aa.aaS{B:ak}{m h:f9}{As:List HP}{e a k:Nat}{s:Sl}{f:α->aR}{b:List (List α)}(H:aa B m h (fo e s a k f b::As))(t:∀x,i0 (f x)=k):∃rs,aa B m h (cJ (uK k f) 1 bi s rs b::As):=by
 obtain⟨rs,H⟩:=H.pR;obtain⟨H,n⟩:=H.Fp;refine⟨rs,H.fM 0 i4 λq d=>⟨?_,n,λi r l g c=>?_⟩⟩
 ·have:=HP.Ai (i:=0) d i4;exact this.1.seq (λ_=>rfl) this.2
 ·have j:=(ql.1 c).1;have o:=fU (e:=a) (k:=k) (f:=f) n i j;have:=HP.Ai (i:=i+1) d p9;have p:rs[i]'(by omega)=r:=by rw[qc i5]at g;simpa using g
  have a:b[i]=l:=by rw[qc j]at c;simpa using c
  rw[p,a]at this;exact⟨this.1.seq t this.2,this.1.cap⟩
def EB(T:List (bw×cP)):HP:=⟨λh q=>∀t∈T,gq.p h q t.1 t.2,λa c t b=>gq.loc (a t b) c,λa d t b=>gq.mono (a t b) d⟩
def Keyed(T:List (bw×cP)):Prop:=∀t∈T,t.1.1=t.2.object/\t.1.2.1=t.2.block/\t.1.2.2.1=t.2.id
def MU(a b:bw×cP):Bool:=oZ a.2 b.2
theorem YH{T:List (bw×cP)}(k:Keyed T):∀a∈T,∀b∈T,MU a b=ct a.1 b.1:=λa i b h=>by
 obtain⟨c,g,a3⟩:=k a i;obtain⟨f,e,d⟩:=k b h;unfold MU oZ ct;rw[decide_eq_decide,Ah,c,g,a3,f,e,d]
theorem SN{T:List (bw×cP)}(k:Keyed T):(T.mergeSort MU).map qL=(T.map qL).mergeSort ct/\(T.mergeSort MU).map zH=(T.map zH).mergeSort oZ/\Keyed (T.mergeSort MU):=
 ⟨vI (YH k),vI λa _ b _=>rfl,λt c=>k t (yL.1 c)⟩
def Hk:bw×cP:=(jT,GI)
def Dg(T:List (bw×cP)):List (bw×cP):=((qt T.length).filter (pU (T.map zH))).map λi=>T.getD i Hk
theorem getD_map{α β:Type}(f:α->β)(l:List α)(i:Nat)(d:α):(l.map f).getD i (f d)=f (l.getD i d):=by rw[qd,qd,qO];cases l[i]?<;>rfl
theorem VE{T:List (bw×cP)}(k:Keyed T):(Dg T).map qL=VC (T.map qL)/\(Dg T).map zH=pu (T.map zH)/\∀t∈Dg T,t∈T:=by
 have p:∀i,i<i0 T->kU (T.map qL) i=pU (T.map zH) i:=λi a=>by
  unfold kU pU;have g:∀j,j<i0 T->(T.map qL).getD j jT=(T[j]?.getD Hk).1/\(T.map zH).getD j GI=(T[j]?.getD Hk).2:=λj n=>by
   rw[qd,qd,qO,qO,qc n];exact⟨i4,i4⟩
  by_cases h0:i=0
  ·rw[hU h0];rfl
  ·rw[hZ h0,vB,vB,(g i a).1,(g i a).2,(g (i-1) i5).1,(g (i-1) i5).2];rw[qc a,qc (show i-1<i0 T by omega)];obtain⟨o,m,a3⟩:=k _ (qf a);obtain⟨l,f,q⟩:=k _ (qf (show i-1<i0 T by omega));unfold mL;simp only[Option.getD_some];have c:=Vz T[i].1 (T[i-1]'(by omega)).1;rw[o,m,a3,l,f,q]at c;by_cases b:lD T[i].1 (T[i-1]'(by omega)).1=0
   ·rw[hZ λh=>h b,hU (c.1 b)];rfl
   ·rw[hU b,hZ λr=>b (c.2 r)];rfl
 have e:=List.filter_congr λi a=>p i (qA.1 a);refine⟨?_,?_,λt d=>?_⟩
 ·unfold Dg VC kq;rw[qy,e,w5];congr 1;funext i;exact(getD_map qL T i Hk).symm
 ·unfold Dg pu;rw[qy,w5];congr 1;funext i;exact(getD_map zH T i Hk).symm
 ·unfold Dg at d;obtain⟨i,a,rfl⟩:=qo.1 d;have:=qA.1 (qC.1 a).1;rw[getD_lt this];exact qf this
theorem KJ(a pw:f7)(d:aW)(s b:Sl)(x:bF)(m:aw)(h:f9)(F:bT h a 155 (fk pw d s b))(hl:fA h s 1 aB d.l)(ok:im d)(hx:df h x m)(hz:cI m):
  ai xJ 95 #[xB (dB a),fN x] h λv h'=>∃(r:Sl) (T:List (bw×cP)),v=r/\T.map zH=fp m d.l/\Keyed T/\Sp h h' [cE r (T.map qL),EB T]:=by
 refine ts Tryz.func95 ?_ (.two .n (.scope 0 [(6,cF),(7,aT)] [(4,5),(6,10),(12,40)] [.n,.n,.n] [(.two .n (.two .n (.two (.join [(6,cF)] [(6,7),(8,10),(18,36)] .n) .n)))] [(1,[.n])])) (args:=[(dB a),x]);have Z:=ok.len;have U:=ok.room;refine(Sp.refl h).boxed λG h1 W=>?_;refine(FL s b (F.ac W.ac F.lt) (hl.up W.ac) ok).mono ?_;rintro _ h2 ⟨H,rfl,R2⟩;have L:=W.bR R2;obtain⟨rs,L⟩:=aa.aaS L λ_=>rfl;refine⟨H,i4,?_⟩;have F2:=L.eu 0 i4;have al:=F2.1.len;have ah:=F2.2.1;have B:Sp h h2 [cE ⟨eH,0,0⟩ [],EB [],cJ (uK 1 aB) 1 bi H rs d.l,av G 85 (bh x)]:=
  ((L.comp (.one (aP.refl _ _) λt f=>(by cases f))).nil 153 8 cQ).bX [3,2,0,1]
 refine aq (λt:Sl×Nat×List (bw×cP)=>(t.1,(t.2.1:Int)-1)) (λt h'=>t.2.1<=i0 d.l/\t.2.2.length<=t.2.1/\Keyed t.2.2/\t.2.2.map zH=(d.l.take t.2.1).filterMap (jg m)/\Sp h h' [cE t.1 (t.2.2.map qL),EB t.2.2,cJ (uK 1 aB) 1 bi H rs d.l,av G 85 (bh x)]) (λt=>i0 d.l-t.2.1) (⟨eH,0,0⟩,0,[]) i4 ⟨jj,jj,(λt f=>(by cases f)),jj,B⟩ ?_;rintro⟨o,i,T⟩ h3 ⟨hi,am,K,k,B⟩;dsimp only at*;have ei:qe xF ((i:Int)-1+1)=(i:Int):=j5
 rw[ei];refine ae (λe=>?_) (λe=>?_)
 ·have S:i=i0 d.l:=i5
  subst S;rw[qU]at k;refine(Hg (T.map qL) q0 B).mono ?_;rintro _ h4 ⟨rfl,H4⟩;obtain⟨s1,s2,s3⟩:=SN K;rw[<-s1]at H4;refine⟨(),i4,(FQ _ (by rw[qy,List.length_mergeSort];omega) H4).mono ?_⟩;rintro _ h5 ⟨r5,rfl,H5⟩;obtain⟨c1,c2,c3⟩:=VE s3;rw[<-c1]at H5;refine⟨r5,i4,r5,Dg (T.mergeSort MU),i4,?_,λt f=>s3 t (c3 t f),?_⟩
  ·have hr:fp m d.l=(Dg (T.mergeSort MU)).map zH:=by unfold fp;rw[<-k,c2,s2]
   exact hr.symm
  ·exact(H5.fM 1 i4 λq z t f=>z t (yL.1 (c3 t f))).bX [0,1]
 ·have A:i<i0 d.l:=i5
  have g:=Se m d.l i A;have next:∀{h':f9} {u:Sl} {T':List (bw×cP)},i0 T'<=i+1->Keyed T'->T'.map zH=(d.l.take (i+1)).filterMap (jg m)->Sp h h' [cE u (T'.map qL),EB T',cJ (uK 1 aB) 1 bi H rs d.l,av G 85 (bh x)]->
    ∃j:Sl×Nat×List (bw×cP),((⟨u.ptr,u.len,u.cap⟩:Sl),(i:Int))=(j.1,(j.2.1:Int)-1)/\(j.2.1<=i0 d.l/\j.2.2.length<=j.2.1/\Keyed j.2.2/\j.2.2.map zH=(d.l.take j.2.1).filterMap (jg m)/\Sp h h' [cE j.1 (j.2.2.map qL),EB j.2.2,cJ (uK 1 aB) 1 bi H rs d.l,av G 85 (bh x)])/\d.l.length-j.2.1<i0 d.l-i:=λ{h' u T'} q1 q2 q3 q4=>
   ⟨(u,i+1,T'),by dsimp only;congr 1;omega,⟨i7,q1,q2,q3,q4⟩,i7⟩
  refine aO ?_;refine(B.eu 2 i4).1.lr i i4 i5 ?_;obtain⟨p,P⟩:=Fix.row (B.eu 2 rfl) A;obtain⟨c,hc⟩:∃c,c=d.l[i]:=⟨_,rfl⟩
  rw[<-hc]at p g;have ab:i0 c=64:=by rw[hc];exact ok.cell _ (qf A)
  refine(MO (rs[i]'(by omega)) c h3 p i5 P).mono ?_;rintro _ h6 ⟨y,rfl,Q0,Q1⟩;refine⟨(y,(dg c).isSome),i4,?_⟩
  try dsimp only
  cases htr:dg c with
  |none=>
   have J:jg m c=eH:=by unfold jg;rw[htr]
   rw[J,Option.toList_none,qH]at g;have O:=B.up (Q0 htr).ac;refine O.alloc ag i4 λa9 h7 R=>?_;refine R.storeAll ag 4 i4 i4 (cQ y) i4 i4 i4 i4 λh8 E=>bc (λe=>j1) λ_=>?_;exact next i5 K (by rw[k,g]) (E.bX [0,1,2,3])
  |some r=>
   have O:=B.bR (Q1 r htr);refine O.alloc ag i4 λa9 h7 R=>?_;refine R.storeAll ag 5 i4 i4 (cQ y) i4 i4 i4 i4 λh8 E=>bc (λ_=>?_) λe=>j1
   have X:=E.eAt 0 i4;have Y:ba h8 G 0 (bh x):=(E.box 4 i4).aE _ i4;have N:ba h8 a9 0 (cQ y):=(E.box 5 i4).aE _ i4;have Q:=OP x m y r h8 (hx.up E.ac) hz X;refine⟨x,Y,y,N,Q.mono ?_⟩;rintro _ h9 ⟨rfl,R9⟩;have M:=E.up R9.ac;refine⟨_,i4,bc (λe2=>?_) λe2=>?_⟩
   ·have J:jg m c=dB r:=by unfold jg;rw[htr];exact g0 e2
    rw[J,Option.toList_some]at g;refine⟨y,(M.box 5 i4).aE _ i4,?_⟩;refine M.push ag 1 i4 adN i4 i6 (λ_=>rfl) abH y j3 i6 q0 λu ad I=>?_;have w:=(I.eAt 0 i4).1;have V:=I.merge 2 0 i6 i4 i4 (D:=EB (T++[(y,r)])) (λq1 q2 _ p1 p2 t f=>by
     rcases qw.1 f with f|f
     ·exact gq.mono (p1 t f) λ_ F=>.inl F
     ·rw[qx.1 f];exact gq.mono p2 λ_ F=>.inr F)
    refine next (T':=T++[(y,r)]) i9 (λt f=>?_) (by rw[qT,k,g];rfl) ?_
    ·rcases qw.1 f with f|f
     ·exact K t f
     ·rw[qx.1 f];exact⟨w.1,w.2.1,w.2.2.1⟩
    ·rw[qT];exact V.bX [1,2,3,4]
   ·have J:jg m c=eH:=by unfold jg;rw[htr];exact g9 (by rw[e2];simp)
    rw[J,Option.toList_none,qH]at g;exact next i5 K (by rw[k,g]) (M.bX [1,2,3,4])
theorem Dh(a pw:f7)(d:aW)(s b:Sl)(x:bF)(m:aw)(h:f9)(k:bT h a 155 (fk pw d s b))(y:fA h s 1 aB d.l)(ok:im d)(o:df h x m)(n:cI m):
  ai xJ 95 #[xB (dB a),fN x] h λv h'=>∃(r:Sl) (w:List bw),v=r/\Sp h h' [cJ gq 8 cQ r w (fp m d.l)]:=by
 refine(KJ a pw d s b x m h k y ok o n).mono ?_;rintro _ h' ⟨r,T,rfl,p,_,H⟩;refine⟨r,T.map qL,i4,?_⟩;have g:=(H.freeze 0 i4 λ_=>rfl).lq;have u:aa _ _ _ (cJ gq 8 cQ r (T.map qL) (fp m d.l)::_):=g.fM 0 i4 λq ⟨B,A,_,b,c,i,z⟩=>by
  rw[<-p];refine⟨Seq.mono z c,jj,λj D l' e f=>?_⟩;rw[qO]at e f;cases g3:T[j]? with
  |none=>rw[g3]at e;cases e
  |some t=>
   rw[g3]at e f;simp at e f;subst e;subst f;exact gq.mono (i t (w9 g3)) b
 exact u.bX [0]
def be(l:au)(k:Nat):au:=((qt k).map λi:Nat=>(i:Int)).filter λi=>decide (0<l.getD i.toNat 0)
def fy(l:au):au×Bool:=
 if l.all (fz · 0 512)then(be l l.length,decide (i0 l<=64)&&decide (0<i0 (be l l.length)))else([],eS)
theorem BS(l:au)(k:Nat)(a:k<i0 l):be l (k+1)=be l k++if 0<l[k]then[(k:Int)]else[]:=by unfold be;rw[zL,qT,zg];congr 1;simp only[List.map_cons,List.map_nil,zl,vi,qj,qd,qc a,Option.getD_some];by_cases h:0<l[k]<;>simp[h]
theorem oM(l:au)(k:Nat):i0 (be l k)<=k:=by unfold be;exact qY (qJ _ _) jj
theorem OQ(s:Sl)(l:au)(h:f9)(m:Rd h s 1 az l)(G:i0 l<=2^20):
  ai xJ 72 #[s] h λv h'=>∃r:Sl,v=.tuple #[r,xD (fy l).2]/\Sp h h' [an 3 r 1 az (fy l).1]:=by
 refine ts Tryz.func72 ?_ (.two .n (.two .n (.two (.two .n (.inn (.loop [(4,cF),(9,aT)] [(2,7),(9,27)] (.two .n (.two .n (.two (.inn (.two .n (.two (.join [] [(2,4),(14,20)] .n) .n))) .n)))))) .n)));have A:=m.len;have x:=(Sp.refl h).nil 3 1 az;refine aq (λt:Sl×Nat=>(t.1,(t.2:Int))) (λt h'=>t.2<=i0 l/\(l.take t.2).all (fz · 0 512)=eR/\Sp h h' [an 3 t.1 1 az (be l t.2)]) (λt=>i0 l-t.2) (⟨eH,0,0⟩,0) i4 ⟨jj,jj,x⟩ ?_;rintro⟨o,i⟩ E ⟨F,b,f⟩;dsimp only at*;have d:∀(a:i<i0 l),fz l[i] 0 512=eS->fy l=([],eS):=λa g=>by
  unfold fy;rw[g9];intro p;have:=qK.1 p _ (qf a);rw[g]at this;cases this
 refine ae (λe=>?_) (λe=>?_)
 ·have a:i<i0 l:=i5
  have q:=oM l i;refine(Seq.up m f.ac).bo i i4 a l[i] i4 ?_;refine aO (ae (λj=>?_) λj=>ae (λe2=>?_) λe2=>?_)
  ·have g:=d a n8;rw[g];exact⟨⟨eH,0,0⟩,i4,(f.bX []).nil 3 1 az⟩
  ·have g:=d a n8;rw[g];exact⟨⟨eH,0,0⟩,i4,(f.bX []).nil 3 1 az⟩
  ·have c:(l.take (i+1)).all (fz · 0 512)=eR:=by rw[aD l i a,yT,b,zS,List.all_cons,List.all_nil,Bool.and_true];unfold fz;simp;omega
   refine ae (λy=>?_) (λy=>?_)
   ·refine f.push ag 0 i4 gy i4 i6 (λ_=>rfl) fx (i:Int) i4 i6 i5 λw D B=>?_;refine⟨(w,i+1),js,⟨i7,c,?_⟩,i7⟩
    try dsimp only
    rw[BS l i a,g0 i5];exact B
   ·refine⟨(o,i+1),js,⟨i7,c,?_⟩,i7⟩
    try dsimp only
    rw[BS l i a,g9 i5,qH];exact f
 ·have k:i=i0 l:=i5
  subst k;rw[qU]at b;have z:=(f.own 0 i4).len;have u:fy l=(be l l.length,decide (i0 l<=64)&&decide (0<i0 (be l l.length))):=by unfold fy;rw[g0 b]
  rw[u];refine ae (λj=>⟨o,?_,f⟩) (λj=>⟨o,?_,f⟩)
  ·try dsimp only
   rw[hU (show l.length<=64 by omega),zS];congr 4;refine congrArg Value.bool ?_;rw[decide_eq_decide];omega
  ·try dsimp only
   rw[hZ (show¬i0 l<=64 by omega),Bool.false_and]
section
variable {pw:f7}
theorem dM(x:bF)(m:aw)(b:df h x m)(d:cI m)(H:aa B h0 h (bg bB a pw (bh x) offs da w ds::As)):
  ai xJ 50 #[xB (dB a)] h λv h'=>∃r:Sl,v=r/\Sp h h' [an 3 r 1 az (aN ds m.drives)]:=by
 refine ts Tryz.func50 ?_;obtain⟨ok,f⟩:=aa.cz H;have c:=d.dr;refine bc (λe=>j1) λ_=>⟨a,i4,x.2.2.2.2.2.2.1,f.cell i4,(Ha _ m.drives b.drives i5 H).mono ?_⟩;rintro _ i ⟨r,rfl,g⟩;exact⟨r,i4,r,i4,g⟩
theorem Ak(x:bF)(m:aw)(i:df h x m)(g:cI m)(H:aa B h0 h (bg bB a pw (bh x) offs da w ds::As)):
  ai xJ 40 #[xB (dB a)] h λv h'=>∃y:bF,v=fN y/\Sp h h' [cU y m]:=by
 refine ts Tryz.func40 ?_;obtain⟨ok,d⟩:=aa.cz H;refine(Sp.refl h).alloc ag i4 λn j b=>?_;have c:=d.ac b.ac d.lt;refine bc (λe=>j1) λ_=>⟨a,i4,x,c.aE _ i4,(GY x m j (i.up b.ac) g).mono ?_⟩;rintro _ o ⟨y,rfl,l⟩;have k:=b.comp l;refine⟨y,i4,?_⟩;refine k.store ag 0 i4 i4 0 (bh y) i4 i4 i4 k7 λh3 f=>?_;exact⟨y,(f.box 0 i4).aE _ i4,y,i4,f.bX [1]⟩
end
def dn(w:Pow)(offs:Int):Bool:=w.off||w.offs !=offs
section
variable {pw:f7}
theorem aa.abI(H:aa B h0 h (bg bB a pw mc offs da w ds::As)):∃l,GV w l/\bT h pw 118 (powC w l):=by obtain⟨ok,e⟩:=Qw.aa.nI H;have b:=e.rest;obtain⟨l,d,c⟩:=aa.Ag b;exact⟨l,d,c.box 0 i4⟩
theorem pD(H:aa B h0 h (bg bB a pw mc offs da w ds::As)):
  ai xJ 37 #[xB (dB a)] h λv h'=>v=xD (dn w offs)/\h'=h:=by
 refine ts Tryz.func37 ?_ .n [(1,(.l [0,1,2,3,4,5,6,7,8,9,10,11,12,13,15,16,17,18,14,19,20,21,22]))];obtain⟨ok,c⟩:=aa.cz H;obtain⟨l,i,f⟩:=aa.abI H;have g:f8 h (a.add 8)=dB (xB (dB pw)):=c.cell (MP ok.l8);have d:f8 h (a.add 9)=dB (xz xF offs):=c.cell (SJ ok.l8);refine bc (λ_=>?_) (λe=>j1);refine⟨a,i4,dB pw,g,(Ew l f).mono ?_⟩;rintro _ _ ⟨rfl,rfl⟩;refine⟨_,i4,trivial,aU (λe=>⟨trivial,?_⟩) λe=>?_⟩
 ·have b:w.off=eR:=mn
  exact⟨by unfold dn;rw[b];rfl,i4⟩
 ·have b:w.off=eS:=mn
  refine⟨a,i4,dB pw,g,a,i4,offs,d,(JT l f).mono ?_⟩;rintro _ _ ⟨rfl,rfl⟩;exact⟨_,i4,⟨d,trivial⟩,by unfold dn;rw[b];rfl,i4⟩
theorem KK(H:aa B h0 h (bg bB a pw mc offs da w ds::As)):
  ai xJ 45 #[xB (dB a)] h λv h'=>v=xB (dB pw)/\h'=h:=by
 refine ts Tryz.func45 ?_;obtain⟨ok,b⟩:=aa.cz H;exact bc (λe=>j1) λ_=>⟨a,i4,dB pw,b.cell (MP ok.l8),i4,i4⟩
end
section
variable {k:Kit} {pw:f7}
theorem aa.adR(H:aa B h0 h As):∀n,aa B h0 h (qh n emp++As)
 |0=>H
 |n+1=>(((aa.adR H n).comp (.one (A:=emp) (aP.refl _ _) trivial)).aY:aa B h0 h (emp::(qh n emp++As)))
theorem aa.VF(h8:i0 mc=8)(H:aa B h0 h (av a k.tS (cB mc pw offs (qh 64 eH))::dc k.tP pw w::As)):aa B h0 h (bg k a pw mc offs (qh 64 eH) w (qh 64 eH)::As):=by
 have ok:ge mc (qh 64 eH) (qh 64 (eH:Option aW)):=⟨h8,jj,jj,λi=>by
  simp only[qd,wk];split<;>rfl⟩
 have f:gb k pw (qh 64 eH) (qh 64 (eH:Option aW))=qh 64 emp:=by simp[gb,adP]
 refine aa.nW ok ?_;rw[f];have e:=aa.adR H 64;refine e.pick (λi=>if i=0 then 64 else if i=1 then 65 else if i<66 then i-2 else i) (λx y b=>by(try dsimp only at b);split at b<;>split at b<;>(try split at b)<;>(try split at b)<;>(try split at b)<;>(try split at b)<;>omega) λi A d=>?_;rcases i with _|_|i
 ·simpa using d
 ·simpa using d
 ·by_cases g:i<64
  ·have c:(qh 64 emp++As)[i]?=dB A:=d;rw[qm l7]at c
   try dsimp only
   rw[g9 i5,g9 i5,g0 i5,qm i9];simpa using c
  ·have c:(qh 64 emp++As)[i]?=dB A:=d;rw[qi i9]at c
   try dsimp only
   rw[g9 i5,g9 i5,g9 i5,qi i9];simp only[List.length_replicate]at c⊢;obtain⟨j,rfl⟩:∃j,i=j+64:=⟨i-64,i5⟩
   have e2:j+64+1+1-64=j+1+1:=i5
   rw[e2];simpa using c
end
theorem VG(x:bF)(pw:f7)(offs:Int):aF xJ (Instr.build 127 #[(0,fN x),(1,xB (dB pw)),(2,xz xF offs)]) (xE (cB (bh x) pw offs (qh 64 eH)).toArray):=
 sZ ag (i:=_) i4 i4 i4 (vs:=[(0,fN x),(1,xB (dB pw)),(2,xz xF offs)]) (cells:=(cB (bh x) pw offs (qh 64 eH)).toArray) j3
section
variable {k:Kit} {pw b:f7}
theorem JX(h8:i0 mc=8):(cB mc pw offs da).set (10+n) (xB (dB b))=cB mc pw offs (da.set n (dB b)):=by unfold cB;rw[qQ _ _ i5,h8,show 10+n-8=n+1+1 by omega,zo,zo,List.map_set]
theorem aa.abJ(ok:ge mc da ds)(y:n<64)(u:ds[n]?=dB eH)(H:aa B h0 h (av a k.tS (cB mc pw offs (da.set n (dB b)))::dc k.tP pw w::(gb k pw da ds++(ie k.tD (k.f pw) b d::As)))):aa B h0 h (bg k a pw mc offs (da.set n (dB b)) w (ds.set n (dB d))::As):=by
 have r:=ok.VA y u;have s:=ok.la;have m:=ok.ls;have q:ge mc (da.set n (dB b)) (ds.set n (dB d)):=⟨ok.l8,by simp[s],by simp[m],λi=>by
  by_cases c:n=i
  ·subst c;rw[qd,qd,ze i5,ze i5];rfl
  ·have:=ok.same i;rw[qd,qd]at this⊢;rw[zw c,zw c];exact this⟩
 have t:=Bg (k:=k) (pw:=pw) ok;have x:(gb k pw da ds)[n]?=dB emp:=by simp only[gb,wc,r,u];rfl
 have g:gb k pw (da.set n (dB b)) (ds.set n (dB d))=(gb k pw da ds).set n (ie k.tD (k.f pw) b d):=by
  apply zy;intro j;simp only[gb,qV,wc,y6];by_cases l:n=j
  ·subst l;rw[g0 i4,g0 i5,g0 i4,g0 i5,g0 i4,g0 i5];rfl
  ·simp[l]
 refine aa.nW q ?_;rw[g];obtain⟨L,o⟩:∃L,L=gb k pw da ds:=⟨_,rfl⟩
 rw[<-o]at H x t⊢;have v:=H.cons (i0 L+2) (A:=ie k.tD (k.f pw) b d) (by
  rw[qq,qq,qi (qk _),qZ];rfl)
 have e:(av a k.tS (cB mc pw offs (da.set n (dB b)))::dc k.tP pw w::(L++(ie k.tD (k.f pw) b d::As))).set (i0 L+2) emp=av a k.tS (cB mc pw offs (da.set n (dB b)))::dc k.tP pw w::(L++(emp::As)):=by rw[zo,zo,qQ _ _ (qk _),qZ];rfl
 rw[e]at v;have D:=v.aK 3 [0,2,1];have p:L.set n emp=L:=by
  obtain⟨z,F⟩:=ql.1 x
  conv=>lhs;rw[<-F]
  exact List.set_getElem_self z
 have E:aa B h0 h (ie k.tD (k.f pw) b d::dc k.tP pw w::av a k.tS (cB mc pw offs (da.set n (dB b)))::(L.set n emp++(emp::As))):=by rw[p];exact D
 have G:=aa.Ey n i5 E;have I:=aa.closeAll (av a k.tS (cB mc pw offs (da.set n (dB b)))::dc k.tP pw w::L.set n (ie k.tD (k.f pw) b d)) G;exact aa.nO (L:=av a k.tS (cB mc pw offs (da.set n (dB b)))::dc k.tP pw w::L.set n (ie k.tD (k.f pw) b d)) I.om
end
def cC(p:Pm)(extra:Int)(l:au):aw:=⟨1,0,p,extra,be l l.length,[]⟩
def gZ(l:au)(k:Nat):aC:=(qt 64).map λi:Nat=>if(i:Int)∈(be l l.length).take k then dB (aW.new (l.getD i 0).toNat)else eH
def dH(p:Pm)(extra:Int)(w:Pow)(l:au):Int×Pow×aC:=
 if(fy l).2&&(bx p&&fz extra 0 16)then
  if(be l l.length).any λi=>decide (l.getD i.toNat 0<(i0 (aX (cC p extra l)):Int))then(7,w,[])
  else layAll (bC (cC p extra l) (be l l.length)) w (gZ l (be l l.length).length)
 else(1,w,[])
theorem MV(l:au):gZ l 0=qh 64 eH:=by
 unfold gZ;rw[List.take_zero];apply zy;intro j;simp only[qO,wk,zn,List.not_mem_nil,if_false];by_cases h:j<64
 ·simp[h,zn]
 ·simp[h]
theorem OR(l:au)(k:Nat):i0 (gZ l k)=64:=by simp[gZ]
theorem MW(l:au)(k n:Nat)(c:k<i0 (be l l.length))(d:(be l l.length)[k]=(n:Int))(b:n<64):(gZ l k).set n (dB (aW.new (l.getD n 0).toNat))=gZ l (k+1):=by
 apply zy;intro j;unfold gZ;rw[aD _ _ c,d,qV,qy,zA];by_cases e:j<64
 ·simp only[qO,zn e,qS,qw,qx];by_cases a:n=j
  ·subst a;rw[g0 i4,g0 b,g0 (Or.inr i4)]
  ·rw[g9 a];have:¬(j:Int)=(n:Int):=i5
   simp only[this,or_false]
 ·rw[g9 i5];rw[qM i9,qM i9]
theorem tQ(l:au)(k:Nat)(x:Int):x∈be l k↔∃n:Nat,n<k/\x=(n:Int)/\0<l.getD n 0:=by
 unfold be;rw[qC,qo];constructor
 ·rintro⟨⟨n,b,rfl⟩,a⟩;exact⟨n,qA.1 b,i4,j9⟩
 ·rintro⟨n,b,rfl,a⟩;exact⟨⟨n,qA.2 b,i4⟩,j9⟩
theorem OS(l:au)(k i:Nat)(a:i<i0 (be l k)):∃n:Nat,n<k/\(be l k)[i]=(n:Int)/\0<l.getD n 0:=(tQ l k _).1 (qf a)
def dJ(p:Int×Int×Int):Nat:=(p.1*p.2.2).toNat
def sC(a:Nat)(b:aM)(i:Nat):aM:=(b.drop (i*a)).take a++(qh a 0).drop (b.drop (i*a)).length
theorem Di(a:Nat)(b:aM)(i:Nat):i0 (sC a b i)=a:=by unfold sC;simp;omega
def splitB(p:Int×Int×Int)(b:aM):bY:=(qt (countP p b.length).toNat).map (sC (dJ p) b)
def Bh(p:Int×Int×Int)(o b:Int)(n:Nat):Bool:=fq p (cb o b n) (eF p)
def ma(p:Int×Int×Int)(o b:Int):Option Nat:=(qt 16).find? (Bh p o b)
def cA(p:Int×Int×Int)(o:Int):Nat->Option (au)
 |0=>dB []
 |n+1=>(cA p o n).bind λl=>(ma p o n).map λt=>l++[(t:Int)]
theorem jk{p:Int×Int×Int}{o:Int}:∀{n:Nat} {l:au},cA p o n=dB l->i0 l=n
 |0,l,h=>by cases h;rfl
 |n+1,l,h=>by
  unfold cA at h;cases h1:cA p o n with
  |none=>rw[h1]at h;cases h
  |some k=>
   rw[h1]at h;cases h2:ma p o n with
   |none=>rw[h2]at h;cases h
   |some t=>
    rw[h2]at h;have h:dB (k++[(t:Int)])=dB l:=h;injection h with h
    rw[<-h,qp,jk h1];rfl
theorem Dj{p:Int×Int×Int}{o b:Int}{t:Nat}(h:ma p o b=dB t):t<16/\Bh p o b t=eR/\∀k,k<t->Bh p o b k=eS:=by
 unfold ma at h;obtain⟨e,us,vs,d,h3⟩:=List.find?_eq_some_iff_append.1 h;have c:=congrArg vJ d;have f:t=i0 us:=by
  have:(qt 16)[i0 us]?=dB t:=by rw[d,qi (qk _),qZ];rfl
  rw[zn oj]at this;injection this with this;exact this.symm
 refine⟨oj,e,λk g=>?_⟩;have a:k∈us:=by
  have:(qt 16)[k]?=us[k]?:=by rw[d,qm i5]
  rw[zn oj]at this;exact w9 this.symm
 simpa using h3 k a
theorem uL{p:Int×Int×Int}{o:Int}:∀{n:Nat} {l:au},cA p o n=dB l->∀i (b:i<i0 l),∃t:Nat,l[i]=(t:Int)/\ma p o i=dB t
 |0,l,h=>by cases h;intro i b;simp at b
 |n+1,l,h=>by
  unfold cA at h;cases h1:cA p o n with
  |none=>rw[h1]at h;cases h
  |some k=>
   rw[h1]at h;cases h2:ma p o n with
   |none=>rw[h2]at h;cases h
   |some t=>
    rw[h2]at h;have h:dB (k++[(t:Int)])=dB l:=h;injection h with h
    subst h;intro i b;have c:=jk h1;by_cases a:i<i0 k
    ·rw[List.getElem_append_left a];exact uL h1 i a
    ·have:i=i0 k:=by simp at b;omega
     subst this;refine⟨t,jj,?_⟩;rw[c];exact h2
theorem Dk(p:Pm)(h:f9)(b:bx p=eR):ai xJ 131 #[jv p] h λv h'=>v=xz xF (dJ p)/\Sp h h' []:=by
 have d:=(bN p).1 b;refine Ae p ?_;refine(Sp.refl h).boxed λf h3 a=>⟨p.1,(a.box 0 i4).cell0 i4,p.2.2,(a.box 0 i4).cell i4,?_,a.bX []⟩
 have e:p.1*p.2.2<=16*24:=yf i5 i5 i5 i5;have c:0<=p.1*p.2.2:=vQ i5 i5;rw[af _];unfold dJ;congr 1;omega
theorem kV{p:Pm}(a:bx p=eR):1<=dJ p/\dJ p<=384/\(dJ p:Int)=p.1*p.2.2:=by have c:=(bN p).1 a;have d:p.1*p.2.2<=16*24:=yf i5 i5 i5 i5;have b:0<p.1*p.2.2:=Int.mul_pos i5 i5;unfold dJ;omega
theorem lN{p:Pm}(a:bx p=eR)(n:Nat):0<=countP p n/\countP p n<=n/\∀i:Nat,(i:Int)<countP p n->i*dJ p<n:=by
 obtain⟨e,f,b⟩:=kV a;unfold countP;rw[a,zS];by_cases h0:0<(n:Int)
 ·rw[hU h0,g0 i4,<-b];have j:((n:Int)-1)/(dJ p:Int)<=n-1:=Int.ediv_le_self _ i5;have g:0<=((n:Int)-1)/(dJ p:Int):=Int.ediv_nonneg i5 i5;refine⟨i5,i5,λi c=>?_⟩;have h3:(i:Int)<=((n:Int)-1)/(dJ p:Int):=i5
  have h:=(Int.le_ediv_iff_mul_le i5).1 h3;have d:((i*dJ p:Nat):Int)=(i:Int)*(dJ p:Int):=wA i (dJ p);omega
 ·rw[hZ h0,g9 i6];exact⟨i5,i5,λi c=>i5⟩
theorem OT(p:Pm)(s:Sl)(b:aM)(h:f9)(f:bx p=eR)(m:Rd h s 1 aB b)(w:s.len<=s.cap)(W:i0 b<=2^30):ai xJ 132 #[jv p,s] h λv h'=>∃r:Sl,v=r/\Sp h h' [fP r (splitB p b)]:=by
 refine ts Tryz.func132 ?_ (.two .n (.two .n (.two (.two .n (.inn (.loop [(5,cF),(12,aT)] [(5,8),(12,31)] .n))) .n))) (args:=[p,s]);have d:=m.len;obtain⟨P,Y,S⟩:=kV f;obtain⟨R,U,c3⟩:=lN f b.length;refine(Sp.refl h).boxed λl F q=>?_;refine⟨p,(q.box 0 i4).aE _ i4,?_⟩;refine(sB p s.len F).mono ?_;rintro _ X ⟨rfl,K⟩;have H:=q.up K.ac;refine⟨_,i4,?_⟩;obtain⟨n,E⟩:∃n:Nat,n=(countP p b.length).toNat:=⟨_,rfl⟩
 have c:(countP p (s.len:Nat))=(n:Int):=by rw[d];omega
 rw[c];have y:i0 (splitB p b)=n:=by unfold splitB;rw[<-E];simp
 have a:=H.te 34 5 1 aB;refine aq (λt:Sl×Nat=>(t.1,(t.2:Int))) (λt h'=>t.2<=n/\Sp h h' [fP t.1 ((splitB p b).take t.2),av l 25 [xz xF p.1,xz xF p.2.1,xz xF p.2.2]]) (λt=>n-t.2) (⟨eH,0,0⟩,0) i4 ⟨jj,a⟩ ?_;rintro⟨o,i⟩ h3 ⟨V,a⟩;dsimp only at*;refine ae (λe=>?_) (λe=>?_)
 ·have L:i<n:=i5
  have A:=c3 i (by rw[<-d,c];omega);refine⟨p,(a.box 1 i4).aE _ i4,(Dk p h3 f).mono ?_⟩;rintro _ Q ⟨rfl,B⟩;have M:=a.up B.ac;refine⟨_,i4,M.Lg ag aB gp i6 (0:UInt8) i4 i4 (dJ p) (dJ p) i4 i4 (qk _) i5 λv x O N g=>?_⟩;have g:=g.aY;refine⟨p,(g.box 2 i4).aE _ i4,(Dk p x f).mono ?_⟩;rintro _ T ⟨rfl,D⟩;have k:=g.up D.ac;refine⟨_,i4,?_⟩;have em:qe xF ((i:Int)*(dJ p:Int))=((i*dJ p:Nat):Int):=by rw[<-wA,af _]
  try dsimp only
  rw[em,qj];refine⟨⟨i5,i5⟩,?_⟩;have G:=(Seq.up m k.ac).drop (i*dJ p) w;refine k.GB ag 0 i4 gp (λ_=>rfl) (v:=⟨_,s.len-i*dJ p,s.cap-i*dJ p⟩) G gJ λ_ I j=>?_;have j:Sp h I [an 5 v 1 aB (sC (dJ p) b i),fP o ((splitB p b).take i),av l 25 [xz xF p.1,xz xF p.2.1,xz xF p.2.2]]:=by simpa[sC]using j
  refine(j.aK 2 [1,0]).AJ ag fu i9 λz h8 u=>?_;refine⟨(z,i+1),js,⟨i7,?_⟩,i7⟩
  try dsimp only
  rw[aD _ _ (show i<i0 (splitB p b) by omega)];have J:(splitB p b)[i]'(by omega)=sC (dJ p) b i:=by simp[splitB]
  rw[J];exact u
 ·rw[qg i5]at a;exact⟨o,i4,a.bX [0]⟩
theorem mz(a b:UInt8):qe xG ((qN (qG xG) (a.toNat:Int)^^^qN (qG xG) (b.toNat:Int)).toNat:Nat)=((a^^^b).toNat:Int):=by
 have e:∀a:UInt8,qN (qG xG) (a.toNat:Int)=a.toBitVec:=λa=>by
  apply BitVec.eq_of_toNat_eq;have:=wZ a;simp[qG]
 rw[e,e];have c:=(a.toBitVec^^^b.toBitVec).isLt;have:((a^^^b).toNat:Int)=((a.toBitVec^^^b.toBitVec).toNat:Int):=rfl;rw[this];show(((a.toBitVec^^^b.toBitVec).toNat:Nat):Int)%256=_;have:(a.toBitVec^^^b.toBitVec).toNat<256:=c;omega
def tri(a:UInt8):Nat->Int×Int×Int
 |0=>((a.toNat:Int),(3:Int),(0:Int))
 |1=>(((Gf.x2 a).toNat:Int),(1:Int),(a.toNat:Int))
 |_=>(((Gf.x2 (Gf.x2 a)).toNat:Int),(0:Int),((Gf.x3 a).toNat:Int))
theorem OU(a:UInt8)(h:f9):ai xJ 311 #[xz xG a.toNat,xz xG 3] h λv h'=>v=xz xG (Gf.x3 a).toNat/\h'=h:=by
 have e:∀n:Nat,n<256->
   ((qe xG ((qN (qG xG) (n:Int)&&&(qN (qG xG) (128:Int))).toNat:Nat)) !=(0:Int))=eR->qe xG ((qN (qG xG) (qe xG ((n:Int)*2^min (1:Int).toNat (qG xG)))^^^(qN (qG xG) (27:Int))).toNat:Nat)=((Gf.x2 (yH n)).toNat:Int):=j4
 have c:∀n:Nat,n<256->
   ((qe xG ((qN (qG xG) (n:Int)&&&(qN (qG xG) (128:Int))).toNat:Nat)) !=(0:Int))=eS->qe xG ((n:Int)*2^min (1:Int).toNat (qG xG))=((Gf.x2 (yH n)).toNat:Int):=j4
 refine ts Tryz.func311 ?_ (.two .n (.scope 0 [(0,(.sc (.int .u8))),(1,(.sc (.int .u8))),(5,(.sc (.int .u8)))] [(0,2),(4,26)] [.n] [(.two .n (.two (.join [(5,(.sc (.int .u8)))] [(5,6),(10,16)] .n) (.two .n (.two .n (.two (.join [(0,(.sc (.int .u8)))] [(0,1),(21,24)] .n) .n)))))] []));refine aq (tri a) (λt h'=>h'=h/\t<=2) (λt=>2-t) 0 i4 ⟨i4,i5⟩ ?_;rintro t h' ⟨rfl,f⟩;rcases(show t=0∨t=1∨t=2 by omega)with rfl|rfl|rfl
 ·rw[show tri a 0=((a.toNat:Int),(3:Int),(0:Int))from rfl]
  try dsimp only
  refine sY i6 (aO (Cj i6 ?_));refine⟨i6,aO ?_⟩;refine bc (λd=>?_) (λd=>?_)
  ·rw[e _ (wZ a) d,yX];refine⟨i6,1,?_,⟨i4,i6⟩,i6⟩;have:=mz 0 a;simp only[wz]at this;exact vd i4 (vd i4 this)
  ·rw[c _ (wZ a) d,yX];refine⟨i6,1,?_,⟨i4,i6⟩,i6⟩;have:=mz 0 a;simp only[wz]at this;exact vd i4 (vd i4 this)
 ·rw[show tri a 1=(((Gf.x2 a).toNat:Int),(1:Int),(a.toNat:Int))from rfl]
  try dsimp only
  refine sY i6 (aO (Cj i6 ?_));refine⟨i6,aO ?_⟩;refine bc (λd=>?_) (λd=>?_)
  ·rw[e _ (wZ (Gf.x2 a)) d,yX];refine⟨i6,2,?_,⟨i4,i6⟩,i6⟩;refine vd i4 (vd i4 ?_);have:=mz a (Gf.x2 a);rw[vo]at this;exact this
  ·rw[c _ (wZ (Gf.x2 a)) d,yX];refine⟨i6,2,?_,⟨i4,i6⟩,i6⟩;refine vd i4 (vd i4 ?_);have:=mz a (Gf.x2 a);rw[vo]at this;exact this
 ·exact Cj (b:=(0:Int)==0) i6 ⟨i4,i4⟩
def jl:au:=(qt 255).map λi=>((Gf.pw i).toNat:Int)
def pE:au:=(qt 256).map λx=>if x=0 then 0 else((Gf.lg (yH x):Nat):Int)
theorem gU:i0 jl=255:=by simp[jl]
theorem tR:i0 pE=256:=by simp[pE]
def dG:aR:=jl.map (Sc.enc (.int .u8))++pE.map (Sc.enc (.int .i64))
abbrev fG(h:f9)(a:f7):Prop:=bT h a 325 dG
theorem IV(k:IntKind)(l:au):(l.map (Sc.enc (.int k))).all (·.oneCell')=eR:=by rw[List.all_map,qK];intro x _;rfl
theorem OV(h:f9):ai xJ 251 #[] h λv h'=>v=xE (jl.map (Sc.enc (.int .u8))).toArray/\Sp h h' []:=by
 refine ts Tryz.func251 ?_ (.two .n (.two .n (.two (.two .n (.inn (.loop [(1,(.sc (.int .u8))),(3,aT)] [(1,12)] .n))) .n)));refine(Sp.refl h).alloc ag i4 λa s q=>?_;refine aq (λi:Nat=>(((Gf.pw i).toNat:Int),(i:Int))) (λi h'=>i<=255/\Sp h h' [av a 320 (((qt 255).map λj=>if j<i then((Gf.pw j).toNat:Int)else 0).map (Sc.enc (.int .u8)))]) (λi=>255-i) 0 i4 ⟨i5,?_⟩ ?_
 ·have e:((qt 255).map λj=>if j<0 then((Gf.pw j).toNat:Int)else 0).map (Sc.enc (.int .u8))=qh 255 (xz xG 0):=by simp;rfl
  rw[e];exact q
 ·rintro i u ⟨t,f⟩;refine ae (λk=>?_) (λo=>?_)
  ·dsimp only at k;refine⟨⟨i7,i7⟩,?_⟩
   try dsimp only
   rw[show((i:Int).toNat*1)=i by omega];refine f.storeAt ag 0 i4 i4 i4 i4 i4 i9 λh3 g=>?_;refine(OU (Gf.pw i) h3).mono ?_;rintro v r ⟨rfl,rfl⟩;refine⟨_,i4,i+1,?_,⟨i5,?_⟩,i5⟩
   ·rw[af _];rfl
   ·have e:((((qt 255).map λj=>if j<i then((Gf.pw j).toNat:Int)else 0).map (Sc.enc (.int .u8))).set i (xz xG (Gf.pw i).toNat))=(((qt 255).map λj=>if j<i+1 then((Gf.pw j).toNat:Int)else 0).map (Sc.enc (.int .u8))):=by
     apply zy;intro j;simp only[qV,qO,qy,zA];by_cases c:i=j
     ·subst c;have:i<255:=i5
      simp[this]
     ·by_cases b:j<255
      ·simp only[c,if_false,zn b,qS];by_cases d:j<i
       ·rw[g0 d,g0 i5]
       ·rw[g9 d,g9 i5]
      ·simp[c,b]
    rw[<-e];exact g
  ·have l:i=255:=by dsimp only at o;omega
   subst l;have e:((qt 255).map λj=>if j<255 then((Gf.pw j).toNat:Int)else 0)=jl:=by unfold jl;apply List.map_congr_left;intro j c;rw[g0 (qA.1 c)]
   rw[e]at f;have p:=f.box 0 i4;refine⟨jl,⟨gU,p.aE _ n7⟩,?_⟩;refine f.storeAll ag 0 i4 i4 (jl.map (Sc.enc (.int .u8))) i4 (by rw[qy,gU]) (IV _ _) i4 λh3 g=>?_;have m:=g.box 0 i4;exact⟨jl,⟨gU,m.aE _ n7⟩,i4,.zip g.ac⟩
theorem VH(h:f9):ai xJ 252 #[xE (jl.map (Sc.enc (.int .u8))).toArray] h λv h'=>v=xE (pE.map (Sc.enc (.int .i64))).toArray/\Sp h h' []:=by
 refine ts Tryz.func252 ?_ (.two .n (.two (.two .n (.inn (.loop [(6,aT)] [(3,5),(6,14)] .n))) .n)) (args:=[(xE (jl.map (Sc.enc (.int .u8))).toArray)]);refine(Sp.refl h).boxed λa D z=>?_;refine z.alloc ag i4 λy F r=>?_;have o:=r.box 0 i4;refine⟨jl,⟨gU,o.aE _ (by show List.take _ (jl.map _)=_;rw[qg (qk _)])⟩,?_⟩;let L:Nat->au:=λi=>(qt 256).map λx=>if x≠0/\Gf.lg (yH x)<i then((Gf.lg (yH x):Nat):Int)else 0
 refine aq (λi:Nat=>(i:Int)) (λi h'=>i<=255/\Sp h h' [emp,av y 322 ((L i).map (Sc.enc (.int .i64)))]) (λi=>255-i) 0 i4 ⟨i5,?_⟩ ?_
 ·have e:(L 0).map (Sc.enc (.int .i64))=qh 256 (xz xF 0):=by simp[L];rfl
  rw[e];exact r.fM 0 i4 λ_ _=>trivial
 ·rintro i h3 ⟨E,g⟩;refine ae (λw=>?_) (λA=>?_)
  ·have c:i<255:=i5
   have q:=wZ (Gf.pw i);refine⟨((Gf.pw i).toNat:Int),⟨i5,i5,by simp[jl,c]⟩,⟨i5,i5⟩,?_⟩;rw[show(((Gf.pw i).toNat:Int).toNat*1)=(Gf.pw i).toNat by omega];refine g.storeAt ag 1 i4 i4 i4 i4 i4 (by simp[L];omega) λt k=>?_;refine⟨i+1,j0,⟨i5,?_⟩,i5⟩;have e:((L i).map (Sc.enc (.int .i64))).set (Gf.pw i).toNat (xz xF i)=(L (i+1)).map (Sc.enc (.int .i64)):=by
    apply zy;intro j;simp only[qV,qO,qy,zA,L];by_cases f:(Gf.pw i).toNat=j
    ·subst f;simp only[if_true,zn q,qS,q];have m:(Gf.pw i).toNat≠0:=λh0=>Gf.RS i c (wy.1 h0);rw[yX,Gf.RR i c,g0 ⟨m,i5⟩]
    ·by_cases d:j<256
     ·simp only[f,if_false,zn d,qS];by_cases b:j=0
      ·simp[b]
      ·have B:Gf.lg (yH j)≠i:=λh0=>by
        apply f;rw[<-h0,Gf.RQ _ λu=>b (by have:=congrArg UInt8.toNat u;simpa[wh d]using this)];simp[wh d]
       by_cases p:Gf.lg (yH j)<i
       ·rw[g0 ⟨b,p⟩,g0 ⟨b,i5⟩]
       ·rw[g9 λs=>p s.2,g9 λs=>p i5]
     ·simp[f,d]
   rw[<-e];exact k
  ·have c:i=255:=i5
   subst c;have e:L 255=pE:=by
    unfold pE;apply List.map_congr_left;intro j f;by_cases b:j=0
    ·simp[b]
    ·rw[g0 ⟨b,Gf.GC _⟩,g9 b]
   rw[e]at g;have o:=g.box 1 i4;refine⟨pE,⟨tR,o.aE _ n7⟩,?_⟩;refine g.storeAll ag 1 i4 i4 (pE.map (Sc.enc (.int .i64))) i4 (by rw[qy,tR]) (IV _ _) i4 λt k=>?_;have l:=k.box 1 i4;exact⟨pE,⟨tR,l.aE _ n7⟩,i4,.zip k.ac⟩
theorem oN(h:f9):ai xJ 195 #[] h λv h'=>∃a:f7,v=xB (dB a)/\Sp h h' [av a 325 dG]:=by
 refine ts Tryz.func195 ?_;refine(OV h).mono ?_;rintro v t ⟨rfl,q⟩;refine⟨jl,i4,?_⟩;refine q.alloc ag i4 λa u p=>?_;refine p.storeAll ag 0 i4 i4 (jl.map (Sc.enc (.int .u8))) i4 (by rw[qy,gU]) (IV _ _) (by rw[qy,gU];rfl) λh3 j=>?_;have f:=j.box 0 i4;have d:ba h3 a 0 (jl.map (Sc.enc (.int .u8))):=f.aE _ n7;refine⟨jl,⟨gU,d⟩,jl,⟨gU,d⟩,?_⟩;refine(VH h3).mono ?_;rintro v r ⟨rfl,k⟩;refine⟨pE,i4,na.2 ⟨(k.ac).cells f.lt d,trivial⟩,_,sZ ag (i:=_) i4 i4 i4 (cells:=dG.toArray) ?_,?_⟩
 ·have b:∀z:aR,i0 z=511->wE (λn=>[(0,255),(255,256)][n]?) z.toArray [(0,xE (jl.map (Sc.enc (.int .u8))).toArray),(1,xE (pE.map (Sc.enc (.int .i64))).toArray)]=dB dG.toArray:=by
   intro z b;have e:z=[]++z.take 255++z.drop 255:=jj
   conv=>lhs;rw[e]
   rw[LO (vs:=jl.map (Sc.enc (.int .u8))) i4 (by simp[gU]) (by simp[gU,b])];have e2:[]++jl.map (Sc.enc (.int .u8))++z.drop 255=jl.map (Sc.enc (.int .u8))++z.drop 255++[]:=jj
   rw[e2,LO (vs:=pE.map (Sc.enc (.int .i64))) i4 (by simp[gU,tR]) (by simp[tR,b])];simp[wE,dG]
  exact b _ i4
 ·have o:(Value.agg dG.toArray).cells.toList=dG:=rfl;refine(j.comp k).boxed λm s l=>?_;have c:=l.box 0 i4;exact⟨na.2 ⟨c.aE _ n7,trivial⟩,m,i4,l.take 1 λi A g=>by cases i with|zero=>exact g|succ i=>simp at g⟩
theorem Dl{h:f9}{a:f7}(c:fG h a)(n:Nat)(b:n<255):f8 h (a.add n)=dB (xz xG (Gf.pw n).toNat):=
 c.cell (by rw[dG,qm (by simp[gU,b])];simp[jl,b])
theorem Dm{h:f9}{a:f7}(c:fG h a)(x:UInt8)(d:x≠0):f8 h ((a.add 255).add x.toNat)=dB (xz xF (Gf.lg x)):=by
 have f:=c.addr;have e:(a.add 255).add x.toNat=a.add (255+x.toNat):=by rw[f,add_eq,add_eq,add_eq];congr 1;omega
 rw[e];refine c.cell ?_;have b:=wZ x;have h0:x.toNat≠0:=λh0=>d (wy.1 h0);rw[dG,qi (by simp[gU])];simp[gU,pE,b,h0]
theorem pF(a:f7)(h:f9):ai xJ 334 #[xB (dB a)] h λv h'=>v=xB (dB a)/\h'=h:=by refine ts Tryz.func334 ?_;exact sY i4 ⟨i4,i4⟩
theorem rS(a:f7)(h:f9):ai xJ 249 #[xB (dB a)] h λv h'=>v=xB (dB a)/\h'=h:=by refine ts Tryz.func249 ?_;exact sY i4 ⟨i4,i4⟩
theorem KL(a:f7)(h:f9):ai xJ 346 #[xB (dB a)] h λv h'=>v=xB (dB a)/\h'=h:=by refine ts Tryz.func346 ?_;exact sY i4 ⟨i4,i4⟩
theorem ww{x:UInt8}:((x.toNat:Int)=0)↔x=0:=⟨λh=>wy.1 j6,λh=>by rw[h];rfl⟩
theorem FR(a:f7)(x y:UInt8)(h:f9)(d:fG h a):ai xJ 284 #[xB (dB a),xz xG x.toNat,xz xG y.toNat] h λv h'=>v=xz xG (Gf.mul x y).toNat/\h'=h:=by
 refine ts Tryz.func284 ?_ (.two .n (.two (.join [] [(6,7),(8,14)] .n) .n));refine aO ?_;refine bf (λh0=>⟨by rw[Gf.mul,g0 (.inl (ww.1 h0))];rfl,i4⟩) λg=>?_;refine bf (λh0=>⟨by rw[Gf.mul,g0 (.inr (ww.1 h0))];rfl,i4⟩) λi=>?_;have c:x≠0:=λh0=>g (ww.2 h0);have b:y≠0:=λh0=>i (ww.2 h0);refine(pF a h).mono ?_;rintro v l ⟨rfl,rfl⟩;have k:=wZ x;have j:=wZ y;have l1:=Gf.GC x;have l2:=Gf.GC y;refine⟨dB a,i4,a,i4,⟨i5,i5⟩,(Gf.lg x:Int),?_,a,i4,⟨i5,i5⟩,(Gf.lg y:Int),?_,i6,a,i4,?_⟩
 ·rw[show((x.toNat:Int).toNat*1)=x.toNat by omega];exact Dm d x c
 ·rw[show((y.toNat:Int).toNat*1)=y.toNat by omega];exact Dm d y b
 rw[af _];have e:xq ((Gf.lg x:Int)+(Gf.lg y:Int)) 255=(((Gf.lg x+Gf.lg y)%255:Nat):Int):=by rw[yN i5];rfl
 rw[e];have f:=yK (Gf.lg x+Gf.lg y) (show 255>0 by decide);refine⟨⟨i5,i5⟩,_,?_,by rw[Gf.mul,g9 (by simp[c,b])],i4⟩;rw[show((((Gf.lg x+Gf.lg y)%255:Nat):Int).toNat*1)=(Gf.lg x+Gf.lg y)%255 by omega];exact Dl d _ f
theorem YI(a:f7)(x:UInt8)(h:f9)(d:fG h a):ai xJ 307 #[xB (dB a),xz xG x.toNat] h λv h'=>v=xz xG (Gf.inv x).toNat/\h'=h:=by
 refine ts Tryz.func307 ?_;refine bf (λh0=>⟨by rw[Gf.inv,g0 (ww.1 h0)];rfl,i4⟩) λf=>?_;have b:x≠0:=λh0=>f (ww.2 h0);refine(pF a h).mono ?_;rintro v g ⟨rfl,rfl⟩;have i:=wZ x;have l1:=Gf.GC x;refine⟨dB a,i4,a,i4,⟨i5,i5⟩,(Gf.lg x:Int),?_,i6,a,i4,?_⟩
 ·rw[show((x.toNat:Int).toNat*1)=x.toNat by omega];exact Dm d x b
 rw[af _];have e:xq (255-(Gf.lg x:Int)) 255=(((255-Gf.lg x)%255:Nat):Int):=by rw[yN i5];omega
 rw[e];have c:=yK (255-Gf.lg x) (show 255>0 by decide);refine⟨⟨i5,i5⟩,_,?_,by rw[Gf.inv,g9 b],i4⟩;rw[show((((255-Gf.lg x)%255:Nat):Int).toNat*1)=(255-Gf.lg x)%255 by omega];exact Dl d _ c
theorem YJ(a:f7)(n:Int)(h:f9)(i:fG h a):ai xJ 293 #[xB (dB a),xz xF n] h λv h'=>v=xz xG (Gf.pw (n%255).toNat).toNat/\h'=h:=by
 refine ts Tryz.func293 ?_ (.two .n (.two .n (.two (.join [(1,aT)] [(1,2),(7,11)] .n) .n)));have j:=vF n (show(0:Int)<255 by decide);have g:-255<n.tmod 255:=Int.lt_tmod_of_pos n i6;have b:=LN n 255 i6;have c:=Int.emod_nonneg n (show(255:Int)≠0 by decide);have d:=Int.emod_lt_of_pos n (show(0:Int)<255 by decide);refine⟨i6,bE (λs h'=>s=n%255/\h'=h) ?_ ?_⟩
 ·refine ae (λf=>?_) (λe=>?_)
  ·rw[g0 f]at b;exact⟨by rw[af _,b],i4⟩
  ·rw[g9 e]at b;exact⟨b.symm,i4⟩
 ·rintro s h' ⟨rfl,rfl⟩;refine(pF a h').mono ?_;rintro v g ⟨rfl,rfl⟩;refine⟨dB a,i4,a,i4,⟨c,d⟩,_,?_,i4,i4⟩;rw[zV];exact Dl i _ i5
theorem kb(p:Pm)(h:f9):ai xJ 213 #[jv p] h λv h'=>v=xz xF (bu p)/\Sp h h' []:=by refine ts Tryz.func213 ?_ (args:=[p]);refine(Sp.refl h).boxed λa g c=>?_;refine⟨p,(c.box 0 i4).aE _ i4,?_⟩;refine(dO p g).mono ?_;rintro v i ⟨rfl,f⟩;have b:=c.comp f;have d:=b.box 0 i4;refine⟨_,i4,aU (λe=>⟨by simp[bu,e],.zip b.ac⟩) λe=>?_⟩;refine⟨_,d.cell0 i4,_,d.cell i4,?_,.zip b.ac⟩;have:=(bN p).1 e;rw[af _,bu,g0 e]
theorem VI(n i:Int)(h:f9):ai xJ 292 #[xz xF n,xz xF i] h λv h'=>∃s:Sl,v=s/\
  Sp h h' [an 5 s 1 aB (if 1<=n/\n<=64/\0<=i/\i<n then(qh n.toNat (0:UInt8)).set i.toNat 1 else[])]:=by
 refine ts Tryz.func292 ?_ (.two .n (.two (.join [] [(4,5),(6,21)] .n) .n));have a:∀c:Prop,¬c->[Decidable c]->Sp h h [an 5 ⟨eH,0,0⟩ 1 aB (if c then(qh n.toNat (0:UInt8)).set i.toNat 1 else[])]:=λc b _=>by
  rw[g9 b];exact(Sp.refl h).nil 5 1 aB
 refine aO ?_;refine ae (λe=>⟨⟨eH,0,0⟩,i4,a _ i5⟩) λg=>?_;refine ae (λe=>⟨⟨eH,0,0⟩,i4,a _ i5⟩) λe2=>?_;refine ae (λe=>⟨⟨eH,0,0⟩,i4,a _ i5⟩) λk=>?_;refine ae (λe=>⟨⟨eH,0,0⟩,i4,a _ i5⟩) λl=>?_;refine(Sp.refl h).make ag aB ⟨_,_,i4,i4,i4,i4,i4,i4⟩ i6 0 i4 i4 n.toNat n.toNat i5 i5 (qk _) i5 λs j m b f=>?_;refine f.set ag 0 i4 (λ_=>rfl) i4 i.toNat i5 i9 1 i4 i4 i4 λo d=>?_;refine⟨s,i4,?_⟩;rw[g0 i5];exact d
theorem KM(s:Int)(h:f9):ai xJ 221 #[xz xH s] h λv h'=>∃a:f7,v=xB (dB a)/\Sp h h' [av a 361 [xz xI (qe xI s)]]:=by refine ts Tryz.func221 ?_;exact(Sp.refl h).boxed λa c b=>⟨a,i4,b⟩
theorem Am(a:f7)(s:Int)(h:f9)(d:bT h a 361 [xz xI s]):ai xJ 222 #[xB (dB a)] h λv h'=>v=xz xH (told s)/\bT h' a 361 [xz xI (rZ s)]/\aP (·≠a.block) h h':=by refine ts Tryz.func222 ?_;refine sY i4 ⟨a,i4,s,d.cell0 i4,a,i4,?_⟩;refine AG ag d i4 _ i4 i4 i4 (qk _) λe b c _=>?_;exact⟨a,i4,_,b.cell0 i4,i6,i4,b,c⟩
theorem Hl(a:f7)(s n:Int)(h:f9)(f:bT h a 361 [xz xI s])(g:0<n:=by omega)(d:n<=2^62:=by omega):ai xJ 286 #[xB (dB a),xz xF n] h λv h'=>v=xz xF (lJ s n)/\bT h' a 361 [xz xI (rZ s)]/\aP (·≠a.block) h h':=by refine ts Tryz.func286 ?_ (.two .n (.two (.join [] [(4,11)] .n) .n));refine aO (sY i4 (ae (λe=>i5) λ_=>?_));refine(Am a s h f).mono ?_;rintro v i ⟨rfl,c,b⟩;exact⟨_,i4,o6,i4,c,b⟩
theorem QJ(a b:Nat)(d:a<=2^40)(c:b<=2^40):qe xF ((a:Int)+(b:Int))=((a+b:Nat):Int):=by rw[af _];rfl
theorem VJ(l:Nat)(h:f9)(f:l<=20):ai xJ 335 #[xz xF l] h λv h'=>v=xz xF (fB l)/\h'=h:=by
 have k:∀l:Nat,l<=20->∀r:Nat,r<=5->(∀j,j<r->j*j<l)->r*r<l->r<5:=i6
 have g:∀l:Nat,l<=20->∀r:Nat,r<=5->(∀j,j<r->j*j<l)->¬r*r<l->r=fB l:=i6
 refine ts Tryz.func335 ?_ (.two .n (.two .n (.two (.inn (.loop [(3,aT)] [(3,11)] .n)) .n)));refine aq (λr:Nat=>(r:Int)) (λr h'=>h'=h/\r<=5/\∀j,j<r->j*j<l) (λr=>5-r) 0 i4 ⟨i4,i5,λj d=>i5⟩ ?_;rintro r h' ⟨rfl,c,d⟩;have o:r*r<=25:=Nat.mul_le_mul c c;have e:qe xF ((r:Int)*(r:Int))=((r*r:Nat):Int):=by rw[<-wA];exact sh _
 rw[e];refine ae (λi=>?_) (λm=>?_)
 ·have a:r*r<l:=i5
  have p:=k l f r c d a;refine⟨r+1,j0,⟨i4,i5,λj b=>?_⟩,i5⟩;rcases Nat.lt_succ_iff_lt_or_eq.1 b with b|rfl
  ·exact d j b
  ·exact a
 ·exact⟨by rw[g l f r c d i5],i4⟩
theorem VK(r:Nat)(h:f9)(b:r<=5):ai xJ 98 #[xz xI r] h λv h'=>v=xz xF (Eg r)/\h'=h:=by
 intro w a;refine(Tryz.bits_Len (r:Int) w i5 i5).mono ?_;rintro e w' ⟨rfl,rfl⟩;have k:∀r:Nat,r<=5->Lib.bitLen r=Eg r:=j4
 exact⟨_,i4,cX.refl _,by rw[qj,k r b],a⟩
theorem OW(l k:Nat)(h:f9)(b:l<=20)(a:1<=l)(d:k<=20)(f:1<=k):ai xJ 287 #[xz xF l,xz xF k] h λv h'=>v=xz xF (po l k)/\h'=h:=by
 have j:∀k:Nat,k<=20->1<k->qe xF ((k:Int)*qe xF ((k:Int)-1))=((k*(k-1):Nat):Int)/\k*(k-1)≠0:=i6
 have q:∀l:Nat,l<=20->1<=l->1<=fB l/\fB l<=5:=i6
 have c3:∀l:Nat,l<=20->1<=l->qe xF (yn (l:Int) (fB l))=((l/fB l:Nat):Int):=i6
 have o:∀l:Nat,l<=20->1<=l->∀k:Nat,k<=20->1<=k->qe xF ((l:Int)*k)≠0:=j4
 have p:∀k:Nat,k<=20->1<k->qe xF (yn (1048576:Int) (qe xF ((k:Int)*qe xF ((k:Int)-1))))=((1048576/(k*(k-1)):Nat):Int):=j4
 have w:∀l:Nat,l<=20->1<=l->qe xF (yn (1048576:Int) (l:Int))=((1048576/l:Nat):Int):=j4
 have x:∀l:Nat,l<=20->1<=l->∀k:Nat,k<=20->1<=k->qe xF (yn (qe xF ((1048576:Int)*fB l)) (qe xF ((l:Int)*k)))=((1048576*fB l/(l*k):Nat):Int):=j4
 have z:∀l:Nat,l<=20->1<=l->qe xF (yn (qe xF ((qe xF ((1048576:Int)*fB l))*Eg (fB l))) (l:Int))=((1048576*fB l*Eg (fB l)/l:Nat):Int):=j4
 have m:∀l:Nat,l<=20->∀k:Nat,k<=20->1048576*fB l/(l*k)<=2^30/\1048576*fB l*Eg (fB l)/l<=2^30/\1048576/(k*(k-1))<=2^30/\1048576/l<=2^30:=j4
 refine ts Tryz.func287 ?_ (.two .n (.two .n (.two .n (.two (.join [(6,aT)] [(6,7),(12,19)] .n) (.two (.join [(6,aT)] [(6,8),(19,48)] .n) .n)))));have i:=m l b k d;refine(VJ l h b).mono ?_;rintro v t ⟨rfl,rfl⟩;have r:=q l b a;refine⟨_,i4,i5,bE (λs h'=>s=(((if k>1 then 1048576/(k*(k-1))else 1048576/l):Nat):Int)/\h'=t) ?_ ?_⟩
 ·refine ae (λe=>?_) (λe=>?_)
  ·have:=j k d i5;refine⟨by rw[this.1];omega,by rw[p k d i5,g0 i5],i4⟩
  ·refine⟨by rw[w l b a,g9 i5],i4⟩
 ·rintro s y ⟨rfl,rfl⟩;have A:(if k>1 then 1048576/(k*(k-1))else 1048576/l)<=2^30:=by split<;>first|exact i.2.2.1|exact i.2.2.2
  refine aO ?_;try dsimp only
  refine⟨show((fB l:Nat):Int)≠0 by omega,?_⟩;rw[c3 l b a];refine ae (λe=>⟨o l b a k d f,?_,i4⟩) (λe=>?_)
  ·rw[x l b a k d f,QJ _ _ i5 (qY i.1 i6),po,g0 (c:=k<l/fB l) (Int.ofNat_lt.1 e)]
  ·refine bf (λe2=>?_) (λe2=>?_)
   ·have u:qe xI (fB l:Int)=(fB l:Int):=o6
    rw[u];refine(VK (fB l) y r.2).mono ?_;rintro v h3 ⟨rfl,rfl⟩;refine⟨_,i4,i5,?_,i4⟩;rw[z l b a,QJ _ _ i5 (qY i.2.1 i6),po,g9 (c:=k<l/fB l) λg=>e (Int.ofNat_lt.2 g),g0 (c:=k=l/fB l) (xo.1 e2)]
   ·exact⟨by rw[po,g9 (c:=k<l/fB l) λg=>e (Int.ofNat_lt.2 g),g9 (c:=k=l/fB l) λg=>e2 (xo.2 g),Nat.add_zero],i4⟩
theorem SO(l:Nat)(h:f9)(c:l<=20)(a:1<=l):ai xJ 224 #[xz xF l] h λv h'=>∃s:Sl,v=s/\Sp h h' [an 3 s 1 az (jH l)]:=by
 refine ts Tryz.func224 ?_ (.two .n (.two (.join [] [(2,3),(6,12)] .n) (.two .n (.two .n (.two (.two .n (.inn (.loop [(3,cF),(4,aT),(5,aT)] [(3,6),(14,28)] .n))) .n)))));refine aO (ae (λe=>i5) λ_=>ae (λe=>i5) λ_=>?_);refine(Sp.refl h).make ag az gy i6 0 i4 i4 0 l i4 i4 i5 i5 λs u d o i=>?_;refine aq (λt:Sl×Nat=>(t.1,((mi l t.2:Nat):Int),((t.2+1:Nat):Int))) (λt h'=>t.2<=l/\Sp h h' [an 3 t.1 1 az ((jH l).take t.2)]) (λt=>l-t.2) (s,0) i4 ⟨jj,sR⟩ ?_;rintro⟨s,k⟩ j ⟨w,b⟩;dsimp only at*;refine ae (λe=>?_) (λe=>?_)
 ·refine(OW l (k+1) j c a i5 i5).mono ?_;rintro v h3 ⟨rfl,rfl⟩;refine⟨_,i4,?_⟩;have r:=Eh l c k i5;have q:=GD l c (k+1) i5;have e2:qe xF ((mi l k:Int)+(po l (k+1):Int))=((mi l (k+1):Nat):Int):=by rw[af _,mi];rfl
  try dsimp only
  rw[e2];refine b.push ag 0 i4 gy i4 i6 (λ_=>rfl) fx _ i4 i6 m7 λg p m=>?_;refine⟨(g,k+1),js,⟨i7,?_⟩,i7⟩;have f:(jH l).take (k+1)=(jH l).take k++[((mi l (k+1):Nat):Int)]:=by rw[aD _ _ rb];simp[jH]
  dsimp only;rw[f];exact m
 ·refine⟨s,i4,?_⟩;rw[qg rb]at b;exact b
theorem OX{p:ak}(t:Sl)(lt:au)(x b:Int)(h:f9)(c:Seq h p t 1 az lt)(r:0<=x)(a:lt.getLast?=dB b)(j:x<b)(s:i0 lt<=2^40):
  ai xJ 285 #[t,xz xF x] h λv h'=>v=xz xF (RT lt x)/\h'=h:=by
 refine ts Tryz.func285 ?_ (.two .n (.two (.join [] [(4,5),(7,24)] .n) (.two (.two .n (.inn (.loop [(26,aT)] [(4,7),(26,37)] .n))) .n)));have u:=c.len;have d:lt≠[]:=λe=>by rw[e]at a;cases a
 have m:0<i0 lt:=List.length_pos_iff.2 d;have l:lt[i0 lt-1]=b:=by rw[List.getLast?_eq_getElem?,qc i5]at a;simpa using a
 refine aO (bf (λe=>i5) λ_=>ae (λe=>i5) λ_=>?_);rw[af _];refine c.bo (i0 lt-1) i5 i5 _ i4 ?_;rw[l];refine ae (λe=>i5) λ_=>?_;have i:(lt.findIdx λy=>decide (y>x))<i0 lt:=List.findIdx_lt_length_of_exists ⟨b,List.mem_of_getLast? a,o5⟩;refine aq (λk:Nat=>(k:Int)) (λk h'=>h'=h/\k<=(lt.findIdx λy=>decide (y>x))) (λk=>i0 lt-k) 0 i4 ⟨i4,i5⟩ ?_;rintro k h' ⟨rfl,o⟩;refine ae (λe=>?_) (λe=>i5);have g:k<i0 lt:=i5
 refine c.bo k i4 g _ i4 ?_;rw[af _];refine ae (λe2=>?_) (λe2=>?_)
 ·have:(lt.findIdx λy=>decide (y>x))=k:=Nat.le_antisymm (Nat.le_of_not_lt λf=>by have:=List.not_of_lt_findIdx f;simp at this;omega) o;exact⟨by rw[RT,this];rfl,i4⟩
 ·refine⟨k+1,i4,⟨i4,?_⟩,i5⟩;refine Nat.lt_of_le_of_ne o λq=>?_;have:=List.findIdx_getElem (xs:=lt) (p:=λy=>decide (y>x)) (w:=i);simp only[<-q]at this;simp at this;omega
theorem EG(t:Sl)(n:Nat)(a:f7)(s:Int)(h:f9)(f:Seq h (·≠a.block) t 1 az (jH n))(j:bT h a 361 [xz xI s])(b:1<=n)(g:n<=20):
  ai xJ 223 #[t,xB (dB a)] h λv h'=>v=xz xF (uw s n)/\bT h' a 361 [xz xI (rZ s)]/\aP (·≠a.block) h h':=by
 refine ts Tryz.func223 ?_;have o:=f.len;rw[lu]at o;refine bf (λe=>i5) λ_=>?_;rw[af _];refine f.bo (n-1) i5 rb _ i4 ?_;have l:(jH n)[n-1]'(by rw[lu];omega)=((mi n n:Nat):Int):=by simp only[jH,List.getElem_map,List.getElem_range];rw[show n-1+1=n by omega]
 rw[l];have p:=LY n g b;have k:=Eh n g n g;refine(Hl a s _ h j).mono ?_;rintro v m ⟨rfl,i,c⟩;have d:=tl s (mi n n);refine⟨_,i4,(OX t (jH n) _ _ m (f.ac c) d.1 (GF n b) d.2 rb).mono ?_⟩;rintro v q ⟨rfl,rfl⟩;exact⟨_,i4,i4,i,c⟩
theorem VL(a:f7)(s:Int)(n k:Nat)(h:f9)(F:bT h a 361 [xz xI s])(P:n<=64)(T:k<=n):
  ai xJ 225 #[xB (dB a),xz xF n,xz xF k] h λv h'=>∃r:Sl,v=r/\aa (λb=>b<h.size/\¬b=a.block) h h' [av a 361 [xz xI (go n s (upto n) k).1],an 3 r 1 az (AK s n k)]:=by
 refine ts Tryz.func225 ?_ (.two .n (.two (.join [] [(6,7),(12,27)] .n) (.two .n (.two (.two .n (.inn (.loop [(31,aT)] [(8,9),(31,39)] .n))) (.two (.two .n (.inn (.loop [(40,aT)] [(9,11),(40,65)] .n))) .n)))));refine aO (ae (λe=>i5) λ_=>ae (λe=>i5) λ_=>ae (λe=>i5) λ_=>ae (λe=>i5) λ_=>?_);have J:aa (λb=>b<h.size/\¬b=a.block) h h [av a 361 [xz xI s]]:=.Uu (λb=>b=a.block) (λb x=>by rw[x];exact F.lt) ⟨F,i4⟩;refine J.make ag az gy i6 0 i4 i4 n n i4 i4 (qk _) i5 λv Q U N L=>?_;refine aq (λi:Nat=>(i:Int)) (λi h'=>i<=n/\aa (λb=>b<h.size/\¬b=a.block) h h' [av a 361 [xz xI s],an 3 v 1 az ((upto n).take i++qh (n-i) 0)]) (λi=>n-i) 0 i4 ⟨i5,by simpa using L⟩ ?_;rintro i V ⟨S,y⟩;refine ae (λe=>?_) (λe=>?_)
 ·have l:i<n:=i5
  refine y.set ag 1 i4 (λ_=>rfl) i4 i i4 (by simp[gK];omega) (i:Int) i4 i4 i4 λh3 f=>?_;refine⟨i+1,j0,⟨i5,?_⟩,i5⟩;have e2:((upto n).take i++qh (n-i) 0).set i (i:Int)=(upto n).take (i+1)++qh (n-(i+1)) 0:=by
   have q:i0 ((upto n).take i)=i:=by rw[qP,gK];omega
   rw[aD _ _ rc,qQ _ _ i5,q,qZ,show n-i=n-(i+1)+1 by omega,yh,zh];simp[upto]
  rw[<-e2];exact f
 ·have l:i=n:=i5
  subst l;have e2:(upto i).take i++qh (i-i) 0=upto i:=by rw[qg rc];simp
  rw[e2]at y;refine aq (λj:Nat=>(j:Int)) (λj h'=>j<=k/\aa (λb=>b<h.size/\¬b=a.block) h h' [av a 361 [xz xI (go i s (upto i) j).1],an 3 v 1 az (go i s (upto i) j).2]) (λj=>k-j) 0 i4 ⟨i5,y⟩ ?_;rintro j h3 ⟨R,f⟩;have B:=tm i s (upto i) j;rw[gK]at B;refine ae (λK=>?_) (λK=>?_)
  ·rw[af _];have c:((i:Int)-(j:Int))=((i-j:Nat):Int):=i5
   rw[c];refine(Hl a _ _ h3 (f.box 0 i4)).mono ?_;rintro w E ⟨rfl,p,o⟩;have m:=f.Aa 0 i4 o p;have M:=tl (go i s (upto i) j).1 ((i-j:Nat):Int);refine⟨_,i4,?_⟩
   try dsimp only
   rw[af _,af _];have I:(j:Int)+lJ (go i s (upto i) j).1 ((i-j:Nat):Int)=((j+(lJ (go i s (upto i) j).1 ((i-j:Nat):Int)).toNat:Nat):Int):=i5
   have d:j+(lJ (go i s (upto i) j).1 ((i-j:Nat):Int)).toNat<(go i s (upto i) j).2.length:=i5
   rw[I];have g:=m.seq 1 i4 λ_=>rfl;refine g.bo _ i4 d _ i4 ?_;refine g.bo j i4 i5 _ i4 ?_;refine m.set ag 1 i4 (λ_=>rfl) i4 j i4 i5 _ i4 i4 i4 λH D=>⟨trivial,?_⟩
   refine D.set ag 1 i4 (λ_=>rfl) i4 _ i4 o4 _ i4 i4 i4 λO G=>⟨trivial,?_⟩
   refine⟨j+1,i4,⟨i5,?_⟩,i5⟩;rw[go,pS,kO,kO,Qw.getD_lt d,Qw.getD_lt (show j<(go i s (upto i) j).2.length by omega)];exact G
  ·have u:j=k:=i5
   subst u;refine⟨⟨i5,i5⟩,?_⟩;have t:=f.seq 1 i4 λ_=>rfl;refine(jC ⟨v.ptr,j,v.cap⟩ ((go i s (upto i) j).2.take j) h3 (t.take j i5) m7).mono ?_;rintro w E ⟨r,rfl,m⟩;refine⟨r,i4,?_⟩;refine(Da r _ E (m.own 0 i4) m7).mono ?_;rintro w H ⟨rfl,A,z⟩;have D:=(f.comp m).mK 2 i4 z A;exact⟨(),i4,r,i4,D.del 1⟩
theorem uM(p:Pm)(seed id:Int)(h:f9):ai xJ 152 #[jv p,xz xH seed,xz xF id] h λv h'=>∃r:Sl,v=r/\Sp h h' [an 3 r 1 az (if bx p&&bJ id then cW (bu p).toNat seed id else[])]:=by
 refine ts Tryz.func152 ?_ (.two .n (.two (.join [] [(6,7),(10,21)] .n) .n)) (args:=[p,(xz xH (seed:Int)),(id:Int)]);refine(Sp.refl h).boxed λa B E=>?_;refine aO ?_;refine⟨p,(E.box 0 i4).aE _ i4,(dO p B).mono ?_⟩;rintro v w ⟨rfl,Q⟩;have o:=E.comp Q;have y:(bx p&&bJ id)=eS->Sp h w [an 3 ⟨eH,0,0⟩ 1 az (if bx p&&bJ id then cW (bu p).toNat seed id else[])]:=λJ=>by
  rw[J];exact(o.nil 3 1 az).take 1 (λi A f=>by cases i with|zero=>exact f|succ i=>simp at f)
 refine⟨_,i4,aU (λe=>⟨⟨eH,0,0⟩,i4,y oi⟩) λk=>?_⟩;refine ae (λe=>⟨⟨eH,0,0⟩,i4,y l0⟩) λV=>?_;refine ae (λe=>⟨⟨eH,0,0⟩,i4,y l0⟩) λe2=>?_;have hid:bJ id=eR:=l0
 rw[k,hid];refine⟨p,(o.box 0 i4).aE _ i4,(kb p w).mono ?_⟩;rintro v h3 ⟨rfl,G⟩;have S:=o.comp G;have L:=(bN p).1 k;have U:bu p=p.1+p.2.1:=by rw[bu,g0 k]
 obtain⟨n,O⟩:∃n:Nat,bu p=n:=⟨(bu p).toNat,i5⟩
 refine⟨_,i4,?_⟩
 try dsimp only
 rw[O,qj];refine(KM _ h3).mono ?_;rintro v H ⟨d,rfl,z⟩;refine⟨dB d,i4,?_⟩;refine(Am d _ H (z.box 0 i4)).mono ?_;rintro v K ⟨rfl,g,s⟩;have D:=z.Aa 0 i4 s g;refine⟨_,i4,?_⟩;refine(SO n K i5 i5).mono ?_;rintro v N ⟨t,rfl,l⟩;have c:=D.comp l;refine⟨t,i4,?_⟩;have x:∀b,t.on b->b≠d.block:=λb j T=>by
  have B:=(l.fresh 0 i4).2 b j;have w:=(D.box 0 i4).lt;omega
 refine(EG t n d _ N ((l.own 0 i4).seq (λ_=>rfl) x) (c.box 0 i4) i5 i5).mono ?_;rintro v P ⟨rfl,u,m⟩;have F:=c.Aa 0 i4 m u;refine⟨_,i4,?_⟩;refine(VL d _ n _ P (F.box 0 i4) i5 (tq _ n i5 i5)).mono ?_;rintro v h8 ⟨r,rfl,M⟩;have R:=F.call 0 i4 (λb=>b=d.block) (λq I b j=>by rw[j];exact I.2) M;exact⟨r,i4,r,i4,((S.comp R).take 3 λi A f=>by cases i with|zero=>exact f|succ i=>simp at f)⟩
end Go.Qw
