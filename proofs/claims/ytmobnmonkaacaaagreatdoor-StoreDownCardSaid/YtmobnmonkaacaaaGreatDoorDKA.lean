/- Lemmas for the proof of the law; no condition. -/
import Derived.Test.YtmobnmonkaacaaaGreatDoorDTabS
import Derived.Test.YtmobnmonkaacaaaGreatDoorDShelfA
set_option maxHeartbeats 2000000
set_option linter.unusedVariables false
set_option linter.unusedSimpArgs false
open Go.Proofs.Tryz renaming prog -> xT
open Go.Value renaming agg -> xO, bool -> xN, int -> xJ, pointer -> xL, slice -> xK, string -> xM
open Go.IntKind renaming bits -> qq, i64 -> xP, signed -> yC, u32 -> xR, u64 -> xS, u8 -> xQ, wrap -> qd
open Option renaming some -> z8
open Int renaming ediv_le_self -> xh, ediv_nonneg -> xu, fdiv -> zp, lt_tmod_of_pos -> vH, tdiv -> yN, tmod -> xB
open UInt8 renaming ofNat -> zI
open List renaming exists_cons_of_length_eq_add_one -> yu, foldl_nil -> vU, length -> xr, map_snd_zip -> xj, mem_mergeSort -> vI, nil_append -> wX, range -> qy, replicate -> qf, replicate_succ -> yb
open Nat renaming mod_eq_of_lt -> yS
open BitVec renaming ofInt -> qF, ofNat -> yL
open Bool renaming not_true -> ym
open Prod renaming fst -> qC, snd -> zg
open Go.Instr renaming fill -> wz, storeAt -> qG
set_option maxRecDepth 100000
open Option renaming some -> dB, none -> eH
open Bool renaming true -> eL, false -> eR
open Go renaming Addr -> fY
open Go.Qw renaming cellOf -> hU, Heap -> hY
open List renaming length -> m8
open Go.Qw.bU renaming two -> E5, n -> E6, inn -> E7, loop -> E8, join -> E9, tn -> F8, lp -> F9, jn -> G0
namespace Go.Qw
open Go.Proofs
abbrev Cells:=dT
abbrev powC(w:Pow)(l:Int):aR:=[xN w.off,xN w.fuse.isSome,xJ xP l,xJ xP w.offs]
def EE(w:Pow)(l:Int):Prop:=∀k,w.fuse=dB k->l=k/\k<2^62
def ee(t:Nat)(a:fY)(w:Pow):HP:=HP.ex λl:Int=>(an a t (powC w l)).and (EE w l)
variable {B:ar} {h0 h h':hY} {As:List HP} {t:Nat} {a:fY} {w:Pow}
theorem aa.iV(H:aa B h0 h (ee t a w::As)):∃l,EE w l/\aa B h0 h (an a t (powC w l)::As):=by obtain⟨l,H⟩:=H.Bq;obtain⟨H,b⟩:=H.FJ;exact⟨l,b,H⟩
theorem aa.kV{l:Int}(b:EE w l)(H:aa B h0 h (an a t (powC w l)::As)):aa B h0 h (ee t a w::As):=
 (H.toFJ b).CV (F:=λl:Int=>(an a t (powC w l)).and (EE w l)) l
theorem tw(l:Int)(b:bQ h a 107 (powC w l)):aj xT 63 #[xL (dB a)] h λv h'=>v=xN (!w.off)/\h'=h:=by refine ts Tryz.func63 ?_;exact aS (λ_=>⟨a,m9,w.off,b.cell0 m9,m9,m9⟩) λe=>n5
theorem vl(l:Int)(b:bQ h a 107 (powC w l)):aj xT 82 #[xL (dB a)] h λv h'=>v=xJ xP w.offs/\h'=h:=by refine ts Tryz.func82 ?_;exact aS (λe=>n5) λ_=>⟨a,m9,w.offs,b.cell m9,m9,m9⟩
theorem JP(h:hY):aj xT 41 #[] h λv h'=>∃a,v=xL (dB a)/\Sp h h' [ee 107 a Pow.new]:=by refine ts Tryz.func41 ?_;refine(Sp.refl h).boxed λa c b=>⟨a,m9,aa.kV (l:=0) (w:=Pow.new) (λk e=>n5) b⟩
theorem Yi(n:Int)(o:n<2^62)(H:aa B h0 h (ee 107 a w::As)):aj xT 16 #[xL (dB a),xJ xP n] h λv h'=>v=.tuple #[]/\aa B h0 h' (ee 107 a (w.arm n)::As):=by
 obtain⟨l,m,f⟩:=H.iV;refine ts Tryz.func16 ?_;refine(tw l (f.box 0 m9)).G6 ⟨_,m9,aH (λe=>⟨m9,?_⟩) λe=>?_⟩
 .have:w.arm n=w:=by unfold Pow.arm;rw[hZ o7]
  rw[this];exact H
 .have d:w.off=eR:=o7
  refine⟨a,m9,f.store ag 0 m9 m9 1 [xN (decide (n>=0))] m9 m9 m9 n4 λq g=>?_⟩;refine⟨a,m9,g.store ag 0 m9 m9 2 [xJ xP (if(0:Int)>n then 0 else n)] m9 m9 m9 t6 λh3 j=>⟨m9,?_⟩⟩;refine aa.kV (l:=if(0:Int)>n then 0 else n) (λk c=>?_) ?_
  .unfold Pow.arm at c;rw[k4 A4]at c;by_cases b:0<=n
   .rw[hZ b]at c;simp at c;subst c;rw[k4 nb];omega
   .rw[k4 b]at c;cases c
  .have i:powC (w.arm n) (if(0:Int)>n then 0 else n)=[xN w.off,xN (decide (n>=0)),xJ xP (if(0:Int)>n then 0 else n),xJ xP w.offs]:=by
    unfold Pow.arm powC;rw[k4 A4];by_cases b:0<=n
    .rw[hZ b];simp[d,b]
    .rw[k4 b];simp[d];omega
   rw[i];exact j
theorem vJ(H:aa B h0 h (ee 107 a w::As)):aj xT 27 #[xL (dB a)] h λv h'=>v=xN w.step.1/\aa B h0 h' (ee 107 a w.step.2::As):=by
 obtain⟨l,o,b⟩:=H.iV;refine ts Tryz.func27 ?_;refine(tw l (b.box 0 m9)).G6 ⟨_,m9,aH (λe=>?_) λe=>?_⟩
 .have:w.step=(eR,w):=by unfold Pow.step;rw[hZ o7]
  rw[this];exact⟨m9,H⟩
 have g:w.off=eR:=o7
 refine⟨a,m9,_,(b.box 0 m9).cell m9,aH (λe2=>?_) λe2=>?_⟩
 .have:w.step=(eL,w):=by
   unfold Pow.step;rw[k4 v8];cases d:w.fuse with
   |none=>rfl
   |some k=>rw[d]at e2;cases e2
  rw[this];exact⟨m9,H⟩
 obtain⟨k,d⟩:∃k,w.fuse=dB k:=yo.1 e2;obtain⟨rfl,t⟩:=o k d;have q:powC w (k:Int)=[xN eR,xN eL,xJ xP k,xJ xP w.offs]:=by simp[powC,g,d]
 rw[q]at b;refine⟨a,m9,_,(b.box 0 m9).cell m9,aZ (λs=>?_) λs=>?_⟩
 .have i:k=0:=nb
  subst i;have m:w.step=(eR,⟨eL,dB 0,qd xP (w.offs+1)⟩):=by unfold Pow.step;rw[k4 v8,d]
  rw[m];refine⟨a,m9,b.gO ag 0 m9 m9 [xN eL] m9 m9 m9 n4 λx n=>?_⟩;refine⟨a,m9,w.offs,(n.box 0 m9).cell m9,a,m9,n.store ag 0 m9 m9 3 [xJ xP (qd xP (w.offs+1))] m9 m9 m9 t6 λh3 f=>⟨m9,?_⟩⟩;refine aa.kV (l:=((0:Nat):Int)) (λp c=>by cases c;exact⟨m9,nq⟩) ?_;exact f
 .obtain⟨j,rfl⟩:∃j,k=j+1:=⟨k-1,nb⟩
  have m:w.step=(eL,⟨eR,dB j,w.offs⟩):=by unfold Pow.step;rw[k4 v8,d]
  rw[m];refine⟨a,m9,_,(b.box 0 m9).cell m9,a,m9,b.store ag 0 m9 m9 2 [xJ xP (qd xP (((j+1:Nat):Int)-1))] m9 m9 m9 t6 λh3 f=>⟨m9,?_⟩⟩;refine aa.kV (l:=(j:Int)) (λp c=>by cases c;exact⟨m9,nb⟩) ?_;rw[af _]at f;have r:((j+1:Nat):Int)-1=(j:Int):=nb
  rw[r]at f;exact f
abbrev Pm:=Int×Int×Int
abbrev gx(p:Pm):Value:=xO #[xJ xP p.1,xJ xP p.2.1,xJ xP p.2.2]
theorem fe(p:Pm)(h:hY):aj xT 106 #[gx p] h λv h'=>v=xN (bH p)/\Sp h h' []:=by refine ts Tryz.func106 ?_ (args:=[p]);refine(Sp.refl h).boxed λa d g=>?_;have e:=g.box 0 m9;have c:Sp h d []:=.zip g.ac;have i:hU d a=dB (xJ xP p.1):=e.cell0 m9;have f:hU d (a.add 1)=dB (xJ xP p.2.1):=e.cell m9;have j:hU d (a.add 2)=dB (xJ xP p.2.2):=e.cell m9;unfold bH;refine⟨_,i,ae (λb=>?_) λb=>⟨t7,c⟩⟩;rw[ln b];refine⟨_,i,ae (λb=>?_) λb=>⟨t7,c⟩⟩;rw[ln b];refine⟨_,f,ae (λb=>?_) λb=>⟨t7,c⟩⟩;rw[ln b];refine⟨_,f,ae (λb=>?_) λb=>⟨t7,c⟩⟩;rw[ln b];refine⟨_,j,ae (λb=>?_) λb=>⟨t7,c⟩⟩;rw[ln b];exact⟨_,j,m9,c⟩
abbrev ge:bO C.toAA 22 3 1 [xJ xP 0] 8:=⟨_,_,m9,m9,m9,m9,m9,m9⟩
abbrev cR:bO C.toAA 41 5 1 [xJ xQ 0] 1:=⟨_,_,m9,m9,m9,m9,m9,m9⟩
abbrev cO:bO C.toAA 79 41 1 [xK eH 0 0] 24:=⟨_,_,m9,m9,m9,m9,m9,m9⟩
theorem jN(s:Sl)(l:aC)(h:hY)(b:Rd h s 1 av l)(f:m8 l<=2^30):aj xT 92 #[s] h λv h'=>∃r:Sl,v=r/\Sp h h' [ai 3 r 1 av l]:=by
 refine ts Tryz.func92 ?_;refine aS (λe=>?_) (λe=>?_)
 .have:=b.isNil e;subst this;exact⟨⟨eH,0,0⟩,m9,(Sp.refl h).nil 3 1 av⟩
 .refine(Sp.refl h).lit ag av ge m9 [] m9 nq m9 λi j a=>?_;refine a.append ag 0 m9 ge ⟨_,_,m9,m9⟩ m9 nq (λ_=>rfl) (b.up a.ac) dt n2 λc g d=>⟨c,m9,d⟩
theorem fW(s:Sl)(l:aT)(h:hY)(b:Rd h s 1 aq l)(f:m8 l<=2^30:=by omega):aj xT 213 #[s] h λv h'=>∃r:Sl,v=r/\Sp h h' [ai 5 r 1 aq l]:=by
 refine ts Tryz.func213 ?_;refine aS (λe=>?_) (λe=>?_)
 .have:=b.isNil e;subst this;exact⟨⟨eH,0,0⟩,m9,(Sp.refl h).nil 5 1 aq⟩
 .refine(Sp.refl h).lit ag aq cR m9 [] m9 nq m9 λi j a=>?_;refine a.append ag 0 m9 cR ⟨_,_,m9,m9⟩ m9 nq (λ_=>rfl) (b.up a.ac) cH n2 λc g d=>⟨c,m9,d⟩
theorem JQ{e:TypeId}(s:Sl)(l:aC)(h:hY)(c:Own h e s 1 av l)(a:m8 l<2^40):aj xT 258 #[s] h λv h'=>v=.tuple #[]/\Own h' e s 1 av (mD l)/\aQ (λb=>¬s.on b) h h':=
 Mc Tryz.slices_Sort_int Tryz.slices_Sort_int_none c a
theorem bT(x n:Int)(h:hY)(c:0<n:=by decide)(f:n<=2^62:=by decide):aj xT 14 #[xJ xP x,xJ xP n] h λv h'=>v=xJ xP (x%n)/\h'=h:=by
 refine ts Tryz.func14 ?_ (F8 (F8 (G0 [(0,aI)] [(0,1),(8,13)] E6)));have g:=yX x c;have e:-n<x.tmod n:=vH x c;have d:=FC x n c;refine⟨nb,aE ?_⟩;refine ae (λa=>?_) (λb=>?_)
 .rw[af _];exact⟨by rw[d,hZ a],m9⟩
 .exact⟨by rw[d,k4 b],m9⟩
theorem lU{p q:ar}(a b:Sl)(c f:Row)(h:hY)(s:Seq h p a 1 aq c)(r:Seq h q b 1 aq f)(y:m8 c<=2^40):
  aj xT 47 #[a,b] h λv h'=>v=xN (decide (c=f))/\h'=h:=by
 refine ts Tryz.func47 ?_ (F8 (F8 (F9 [(13,aI)] [(4,6),(13,26)])));have o:=s.len;have j:=r.len;refine bm (λd=>⟨?_,m9⟩) (λm=>?_)
 .rw[m5 λe=>d (by rw[o,j,e])]
 .refine ak (λk:Nat=>(k:Int)) (λk h'=>h'=h/\k<=m8 c/\c.take k=f.take k) (λk=>m8 c-k) 0 m9 ⟨m9,nb,n4⟩ ?_;rintro k h' ⟨rfl,x,l⟩;refine ae (λw=>?_) (λu=>?_)
  .have g:k<m8 c:=nb
   have i:k<m8 f:=nb
   refine s.aW k m9 g _ m9 ?_;refine r.aW k m9 i _ m9 ?_;refine bm (λd=>⟨?_,m9⟩) (λm=>?_)
   .rw[m5];intro e;subst e;exact d m9
   .rw[af _];have t:c[k]=f[k]:=yy.1 nb;exact⟨k+1,n4,⟨m9,nb,by rw[aA _ _ g,aA _ _ i,l,t]⟩,nb⟩
  .have:k=m8 c:=nb
   subst this;rw[qh nb,qh nb]at l;exact⟨by rw[ln l],m9⟩
structure ff (d:bu):Prop where
 wait:d.wait<=m8 d.l
 len:m8 d.l<=d.room
 room:d.room<=512
 cell:∀c∈d.l,m8 c=64
 laid:m8 d.laid<=d.room
 cellL:∀c∈d.laid,m8 c=64
variable {d:bu} {b:aT}
theorem ff.new{n:Nat}(h:n<=512):ff (bu.new n):=⟨qj _,qW _,h,by simp[bu.new],qW _,by simp[bu.new]⟩
theorem ff.rewrite{l:dT}(h:ff d):ff (d.rewrite w l).2.2:=by
 obtain⟨e,a,h3,b,g,i⟩:=h;unfold bu.rewrite;split
 .exact⟨e,a,h3,b,g,i⟩
 .rename_i f;have f:∀c∈l,m8 c=64:=B6
  split
  .exact⟨e,a,h3,b,g,i⟩
  .split
   .exact⟨e,a,h3,b,g,i⟩
   .split
    .exact⟨e,a,h3,b,g,i⟩
    .split
     .exact⟨qW _,n1,h3,f,qW _,n4⟩
     .exact⟨e,a,h3,b,n1,f⟩
abbrev cj(s:Sl)(l:Cells):HP:=lh 41 s 5 1 aq l
def kh(t:Nat)(f:bu->Sl->Sl->aR)(a:fY)(d:bu):HP:=
 (HP.ex λb:Sl×Sl=>(an a t (f d b.1 b.2)).sep ((cj b.1 d.l).sep (cj b.2 d.laid))).and (ff d)
variable {f:bu->Sl->Sl->aR}
theorem aa.kb(H:aa B h0 h (kh t f a d::As)):ff d/\∃s b:Sl,aa B h0 h (an a t (f d s b)::cj s d.l::cj b d.laid::As):=by obtain⟨H,ok⟩:=H.FJ;obtain⟨c,H⟩:=H.Bq;exact⟨ok,c.1,c.2,H.CW.CW.aF 3 [2,1,0]⟩
theorem aa.iO{s b:Sl}(ok:ff d)(H:aa B h0 h (an a t (f d s b)::cj s d.l::cj b d.laid::As)):aa B h0 h (kh t f a d::As):=
 ((((H.aF 3 [2,1,0]).kA).kA).CV (F:=λc:Sl×Sl=>(an a t (f d c.1 c.2)).sep ((cj c.1 d.l).sep (cj c.2 d.laid))) (s,b)).toFJ ok
abbrev ft(pw:fY)(d:bu)(s b:Sl):aR:=[xL (dB pw),xJ xP d.room,s,xJ xP d.wait,b,xN d.has,xN d.lost]
abbrev jx(pw a:fY)(d:bu):HP:=kh 172 (ft pw) a d
section
variable {pw:fY}
theorem SH(n:Int)(pw:fY)(h:hY):aj xT 107 #[xJ xP n,xL (dB pw)] h λv h'=>
  (1<=n/\n<=512->∃a,v=xL (dB a)/\Sp h h' [jx pw a (bu.new n.toNat)])/\(¬(1<=n/\n<=512)->v=xL eH/\Sp h h' []):=by
 refine ts Tryz.func107 ?_ (F8 (G0 [] [(4,15)] E6));refine aE (ae (λe=>⟨λc=>absurd c nb,λ_=>⟨m9,Sp.refl h⟩⟩) λg=>ae (λe=>⟨λc=>absurd c nb,λ_=>⟨m9,Sp.refl h⟩⟩) λe2=>aS (λe=>n5) λ_=>?_);refine(Sp.refl h).boxed λa i f=>⟨λ_=>⟨a,m9,?_⟩,λc=>absurd nb c⟩
 refine aa.iO (s:=⟨eH,0,0⟩) (b:=⟨eH,0,0⟩) (ff.new nb) ?_;have e:((n.toNat:Nat):Int)=n:=nb
 have d:=((f.kf 41 5 1 aq).kf 41 5 1 aq).aF 3 [2,1,0];have e2:ft pw (bu.new n.toNat) ⟨eH,0,0⟩ ⟨eH,0,0⟩=[xL (dB pw),xJ xP n,xK eH 0 0,xJ xP 0,xK eH 0 0,xN eR,xN eR]:=by simp only[ft,bu.new,e];rfl
 rw[e2];exact d
theorem Dr(s b:Sl)(c:bu)(H:aa B h0 h (an a 172 (ft pw d s b)::cj s d.l::cj b d.laid::ee 107 pw w::As))(ok:ff d)(g:c={d with laid:=[],has:=eR}):
  aj xT 257 #[xL (dB a)] h λv h'=>v=xJ xP 0/\aa B h0 h' (jx pw a c::ee 107 pw w::As):=by
 refine ts Tryz.func257 ?_;refine⟨a,m9,H.store ag 0 m9 m9 4 [xK eH 0 0] m9 m9 m9 qa λi e=>?_⟩;refine⟨a,m9,e.store ag 0 m9 m9 5 [xN eR] m9 m9 m9 qa λh3 f=>⟨m9,?_⟩⟩;subst g;refine aa.iO (s:=s) (b:=⟨eH,0,0⟩) ⟨ok.wait,ok.len,ok.room,ok.cell,qW _,n4⟩ ?_;exact((f.kf 41 5 1 aq).aF 5 [1,2,0,4])
theorem OK(x:Sl)(row:aT)(H:aa B h0 h (jx pw a d::ee 107 pw w::As))(O:Rd h x 1 aq row)(hr:m8 row<=2^20):
  aj xT 185 #[xL (dB a),x] h λv h'=>v=xJ xP (d.append w row).1/\aa B h0 h' (jx pw a (d.append w row).2.2::ee 107 pw (d.append w row).2.1::As):=by
 refine ts Tryz.func185 ?_ (F8 (E5 (E9 [] [(4,36)] (E7 (F8 (F8 (G0 [(9,mR)] [(9,18)] E6))))) (G0 [] [(36,47)] E6)));have Y:=O.len;obtain⟨ok,s,b,E⟩:=H.kb;have p:=E.box 0 m9;obtain⟨Z,_⟩:=aa.lC (E.aF 4 [1]);have N:=ok.room;have P:=ok.len;have L:=ok.wait;have g:∀(e:Int),d.append w row=(e,w,d)->(Value.int .i64 e=xJ xP (d.append w row).1/\aa B h0 h (jx pw a (d.append w row).2.2::ee 107 pw (d.append w row).2.1::As)):=λe R=>by
  rw[R];exact⟨m9,H⟩
 refine aE (bm (λe=>g 1 (by unfold bu.append;rw[hZ nb])) λW=>?_);have o:m8 row=64:=nb
 refine aE (aS (λe=>n5) λ_=>⟨a,m9,d.lost,p.cell m9,aS (λe=>g 5 ?_) λf=>?_⟩)
 .unfold bu.append;rw[k4 nb,hZ e]
 refine⟨a,m9,s,p.cell m9,a,m9,(d.room:Int),p.cell m9,ae (λe=>g 7 ?_) λK=>?_⟩
 .unfold bu.append;rw[k4 nb,k4 E3,hZ nb]
 obtain⟨l,hl,M⟩:=(E.aF 4 [3,0,1,2]).iV;refine⟨a,m9,dB pw,p.cell0 m9,(tw l (M.box 0 m9)).mono ?_⟩;rintro _ X ⟨rfl,rfl⟩;refine⟨_,m9,aH (λe=>g 14 ?_) λq=>?_⟩
 .unfold bu.append;rw[k4 nb,k4 E3,k4 nb,hZ o7]
 have j:w.off=eR:=by simpa using q
 refine aE ⟨a,m9,s,p.cell m9,(fW x row X O).Hf λr h4 T=>?_⟩;have A:=(E.bS T).aF 5 [2,0,1,3,4];have u:=A.box 2 m9;refine⟨r,m9,⟨u.cell m9,I0⟩,?_⟩;have V:=A;refine A.ko ag bv cO m9 [r] m9 (show 1*1<=2^20 by decide) m9 ⟨u.cell m9,I0⟩ ?_;refine A.nQ ag cO nb λD h6 I=>⟨I0,?_⟩
 have I:=I.aF 4 [1,0,2,3];refine⟨a,m9,I.store ag 0 m9 m9 2 [D] m9 m9 m9 qa λh7 Q=>⟨I0,?_⟩⟩;have J:=Q.box 0 m9;refine⟨a,m9,(d.wait:Int),J.cell m9,a,m9,?_⟩;rw[af ((d.wait:Int)+1)];refine Q.store ag 0 m9 m9 3 [xJ xP ((d.wait:Int)+1)] m9 m9 m9 qa λh8 S=>?_;obtain⟨i,k⟩:∃i:bu,i={d with l:=d.l++[row],wait:=d.wait+1}:=⟨_,rfl⟩
 have z:ff i:=by
  subst k;refine⟨n2,n2,ok.room,λc t=>?_,ok.laid,ok.cellL⟩;rcases qw.1 t with t|t
  .exact ok.cell c t
  .rw[qB.1 t];exact o
 have y:aa B h0 h8 (an a 172 (ft pw i D b)::cj D i.l::cj b i.laid::ee 107 pw w::As):=by rw[k];exact S
 refine⟨a,m9,dB pw,(y.box 0 m9).cell0 m9,(vJ (y.aF 4 [3,0,1,2])).G7 λh9 F=>?_⟩;have F:=F.aF 4 [1,2,3,0];have m:d.append w row=if w.step.1 then(0,w.step.2,{i with laid:=[],has:=eR})else(14,w.step.2,i):=by rw[k];unfold bu.append;rw[k4 nb,k4 E3,k4 nb,k4 (by simp[j])]
 rw[m];refine⟨_,m9,aH (λe=>?_) λe=>?_⟩
 .rw[e];exact⟨m9,F.iO z⟩
 .rw[e];refine(Dr D b _ F z m9).G7 λU G=>⟨0,m9,m9,G⟩
theorem IT(x:Sl)(row:aT)(h:hY)(b:Rd h x 1 aq row):aj xT 185 #[xL eH,x] h λv h'=>v=xJ xP (if row.length≠64 then 1 else 5)/\h'=h:=by refine ts Tryz.func185 ?_ (F8 (E5 (E9 [] [(4,36)] (E7 (F8 (F8 (G0 [(9,mR)] [(9,18)] E6))))) (G0 [] [(36,47)] E6)));have a:=b.len;refine aE (bm (λe=>⟨by rw[hZ nb],m9⟩) λe=>?_);exact aE (aS (λ_=>⟨by rw[k4 nb],m9⟩) λe=>n5)
theorem Vk(H:aa B h0 h (jx pw a d::ee 107 pw w::As)):
  aj xT 260 #[xL (dB a)] h λv h'=>v=xJ xP (d.sync w).1/\aa B h0 h' (jx pw a (d.sync w).2.2::ee 107 pw (d.sync w).2.1::As):=by
 refine ts Tryz.func260 ?_ (F8 (G0 [] [(2,11)] E6));obtain⟨ok,s,b,j⟩:=H.kb;have i:=j.box 0 m9;refine aE (aS (λe=>n5) λ_=>⟨a,m9,d.lost,i.cell m9,aS (λe=>?_) λc=>?_⟩)
 .have:d.sync w=(5,w,d):=by unfold bu.sync;rw[hZ e]
  rw[this];exact⟨m9,H⟩
 refine⟨a,m9,dB pw,i.cell0 m9,(vJ (j.aF 4 [3,0,1,2])).G7 λm g=>?_⟩;have g:=g.aF 4 [1,2,3,0];have f:d.sync w=if w.step.1 then(0,w.step.2,{{d with wait:=0}with laid:=[],has:=eR})else(14,w.step.2,d):=by unfold bu.sync;rw[k4 C8]
 rw[f];refine⟨_,m9,aH (λe=>?_) λe=>?_⟩
 .rw[e];exact⟨m9,g.iO ok⟩
 .rw[e];refine⟨a,m9,g.store ag 0 m9 m9 3 [xJ xP 0] m9 m9 m9 qa λh3 l=>?_⟩;refine(Dr (d:={d with wait:=0}) s b _ l ⟨qW _,ok.len,ok.room,ok.cell,ok.laid,ok.cellL⟩ rfl).G7 λo k=>⟨0,m9,m9,k⟩
theorem MF(h:hY):aj xT 260 #[xL eH] h λv h'=>v=xJ xP 5/\h'=h:=by refine ts Tryz.func260 ?_ (F8 (G0 [] [(2,11)] E6));exact aE (aS (λ_=>⟨m9,m9⟩) λe=>n5)
theorem jx.box(H:aa B h0 h (jx pw a d::As)):∃s b:Sl,bQ h a 172 (ft pw d s b)/\eF h s 1 aq d.l/\s.len=m8 d.l:=by obtain⟨ok,s,b,c⟩:=H.kb;exact⟨s,b,c.box 0 m9,(c.aF 3 [1]).Ch λ_=>rfl,(aa.lC (c.aF 3 [1])).1⟩
theorem JR(s b:Sl)(c:bQ h a 172 (ft pw d s b)):aj xT 149 #[xL (dB a)] h λv h'=>v=xJ xP d.room/\h'=h:=by refine ts Tryz.func149 ?_;exact aS (λe=>n5) λ_=>⟨a,m9,_,c.cell m9,m9,m9⟩
theorem Ds(s b:Sl)(c:bQ h a 172 (ft pw d s b))(f:s.len=m8 d.l):aj xT 147 #[xL (dB a)] h λv h'=>v=xJ xP (m8 d.l:Int)/\h'=h:=by refine ts Tryz.func147 ?_;exact aS (λe=>n5) λ_=>⟨a,m9,_,c.cell m9,by rw[f],m9⟩
theorem Vl(s b:Sl)(c:bQ h a 172 (ft pw d s b)):aj xT 150 #[xL (dB a)] h λv h'=>v=xJ xP d.wait/\h'=h:=by refine ts Tryz.func150 ?_;exact aS (λe=>n5) λ_=>⟨a,m9,_,c.cell m9,m9,m9⟩
theorem vS(s b:Sl)(c:bQ h a 172 (ft pw d s b)):aj xT 136 #[xL (dB a)] h λv h'=>v=xN d.lost/\h'=h:=by refine ts Tryz.func136 ?_;exact aS (λ_=>⟨a,m9,_,c.cell m9,m9,m9⟩) λe=>n5
theorem Vm(s b:Sl)(i:Int)(m:bQ h a 172 (ft pw d s b))(j:eF h s 1 aq d.l)(p:∀c∈d.l,m8 c=64):aj xT 146 #[xL (dB a),xJ xP i] h λv h'=>∃r:Sl,v=r/\Sp h h' [ai 5 r 1 aq (if 0<=i then d.l.getD i.toNat []else[])]:=by
 refine ts Tryz.func146 ?_ (F8 (G0 [] [(4,20)] E6));have q:=j.len;have f:(if 0<=i then d.l.getD i.toNat []else[])=[]->∃r:Sl,Value.slice eH 0 0=xK r.ptr r.len r.cap/\Sp h h [ai 5 r 1 aq (if 0<=i then d.l.getD i.toNat []else[])]:=λe=>by
  rw[e];exact⟨⟨eH,0,0⟩,m9,(Sp.refl h).nil 5 1 aq⟩
 refine aE (aS (λe=>n5) λ_=>ae (λe=>f (by rw[k4 nb])) λw=>⟨a,m9,s,m.cell m9,ae (λe=>f ?_) λe2=>?_⟩)
 .rw[hZ nb,qg,zf nb];rfl
 .refine⟨a,m9,s,m.cell m9,j.get i.toNat nb nb λr o=>?_⟩;have g:i.toNat<m8 d.l:=nb
  have:=p _ (qe g);refine(fW r _ h o).Hf λk u t=>?_;rw[hZ nb,getD_lt g];exact⟨k,m9,k,m9,t⟩
theorem FZ(l:Sl)(ll:Cells)(h:hY)(d:eF h l 1 aq ll)(u:m8 ll<=2^20)(o:∀c∈ll,m8 c<=2^20):aj xT 215 #[l] h λv h'=>∃r:Sl,v=r/\Sp h h' [cj r ll]:=by
 refine ts Tryz.func215 ?_ (F8 (F8 (F9 [(3,bJ),(8,aI)] [(3,4),(5,6),(8,18)])));have f:=d.len;refine ak (λt:Sl×Nat=>(t.1,(t.2:Int))) (λt h'=>t.2<=m8 ll/\Sp h h' [cj t.1 (ll.take t.2)]) (λt=>m8 ll-t.2) (⟨eH,0,0⟩,0) m9 ⟨n4,by simpa using(Sp.refl h).kf 41 5 1 aq⟩ ?_;rintro⟨s,i⟩ j ⟨x,b⟩;dsimp only at*;refine ae (λe=>?_) (λe=>?_)
 .have a:i<m8 ll:=nb
  refine(d.up b.ac).get i m9 a λr m=>?_;have:=o _ (qe a);refine(fW r _ j m).Hf λg w p=>⟨g,m9,?_⟩;refine aa.nQ ag (b.comp p) cO n2 λk h3 q=>?_;refine⟨(k,i+1),n3,⟨n1,?_⟩,n1⟩
  try dsimp only
  rw[aA _ _ a];exact q
 .rw[qh nb]at b;exact⟨s,m9,b⟩
theorem Ga(s b:Sl)(j:bQ h a 172 (ft pw d s b))(f:eF h s 1 aq d.l)(ok:ff d):aj xT 151 #[xL (dB a)] h λv h'=>∃r:Sl,v=r/\Sp h h' [cj r d.l]:=by
 refine ts Tryz.func151 ?_;have:=ok.len;have:=ok.room;refine aS (λe=>n5) λ_=>⟨a,m9,s,j.cell m9,(FZ s d.l h f nb λc i=>by rw[ok.cell c i];decide).Hf λr k g=>?_⟩;exact⟨r,m9,r,m9,g⟩
end
theorem Yj(b:Sl)(l:aT)(h:hY)(p:Rd h b 1 aq l)(D:m8 l<=2^40):aj xT 261 #[b] h λv h'=>v=xJ xR (CL l).toNat/\h'=h:=by
 refine ts Tryz.func261 ?_ (F8 (F8 (E5 (F8 (E7 (E8 [(3,(.sc (.int .u32))),(9,aI)] [(3,4),(5,7),(9,29)] (F8 (F8 (E5 (E7 (F8 (F8 (F8 (E7 (E8 [(3,(.sc (.int .u32))),(17,aI)] [(3,4),(6,7),(17,28)] E6)))))) E6)))))) E6)));have A:=p.len;refine ak (λt:Nat=>(((mC (l.take t)).toNat:Int),(t:Int))) (λt h'=>t<=m8 l/\h'=h) (λt=>m8 l-t) 0 m9 ⟨nb,m9⟩ ?_;rintro i u ⟨E,rfl⟩;refine ae (λe=>?_) (λe=>?_)
 .have d:i<m8 l:=by have r:(i:Int)<(b.len:Int):=e;omega
  refine p.aW i m9 d (l[i].toNat:Int) m9 ?_;have z:qd xR (l[i].toNat:Int)=((yL 32 l[i].toNat).toNat:Int):=by rw[CM,wH]
  rw[z,Ej];refine ak (λk:Nat=>(((om k (mC (l.take i)^^^yL 32 l[i].toNat)).toNat:Int),(k:Int))) (λk h'=>k<=8/\h'=u) (λk=>8-k) 0 m9 ⟨nb,m9⟩ ?_;rintro k q ⟨B,rfl⟩;obtain⟨c,j⟩:=HF (om k (mC (l.take i)^^^yL 32 l[i].toNat))
  try dsimp only
  rw[<-j];refine ae (λe2=>⟨nq,?_⟩) (λe2=>?_)
  .have a:∀n:rL,n=tQ c->∃f:Nat,(((n.toNat:Nat):Int),qd xP ((k:Int)+1))=(((om f (mC (l.take i)^^^yL 32 l[i].toNat)).toNat:Int),(f:Int))/\(f<=8/\q=q)/\8-f<8-k:=λn s=>
    ⟨k+1,by rw[af _,s,j];rfl,⟨nb,m9⟩,nb⟩
   have y:qd xR ((qF (qq xR) (c.toNat:Int)&&&qF (qq xR) (1:Int)).toNat:Nat)=((c&&&1#32).toNat:Int):=ZI c 1#32;have w:qd xR ((qF (qq xR) ((c>>>1).toNat:Int)^^^qF (qq xR) (3988292384:Int)).toNat:Nat)=(((c>>>1)^^^3988292384#32).toNat:Int):=Ej (c>>>1) 3988292384#32;rw[y,Qj,w];refine aZ (λo=>a _ ?_) (λo=>a _ ?_)
   .unfold tQ;rw[hZ ((Ek c).1 o)]
   .unfold tQ;rw[k4 λx=>o ((Ek c).2 x)]
  .have m:k=8:=nb
   subst m;refine⟨i+1,?_,⟨nb,m9⟩,nb⟩;rw[af _,aA _ _ d,GM,j];rfl
 .have g:i=m8 l:=by have r:¬(i:Int)<(b.len:Int):=e;omega
  subst g;refine⟨?_,m9⟩;rw[qt];exact congrArg (Value.int .u32) (Ej 4294967295#32 (mC l))
theorem Dt(a:Int)(f:Sl)(l:aT)(h:hY)(y:Rd h f 1 aq l)(R:m8 l<=2^40:=by omega):aj xT 189 #[xJ xP a,f] h λv h'=>∃r:Sl,v=r/\Sp h h' [ai 5 r 1 aq (eZ a l)]:=by
 refine ts Tryz.func189 ?_ (F8 (G0 [] [(4,5),(8,19)] (F8 (F8 (F8 (F8 (F9 [(32,aI)] [(7,8),(32,45)])))))));have N:=y.len;have g:¬(1<=a/\a<=255/\l.length<=55)->∃r:Sl,Value.slice eH 0 0=xK r.ptr r.len r.cap/\Sp h h [ai 5 r 1 aq (eZ a l)]:=λe=>by
  unfold eZ;rw[k4 e];exact⟨⟨eH,0,0⟩,m9,(Sp.refl h).nil 5 1 aq⟩
 refine aE (ae (λe=>g nb) λS=>ae (λe=>g nb) λe2=>ae (λe=>g nb) λP=>?_);refine(Sp.refl h).make ag aq cR nq 0 m9 m9 64 64 m9 m9 (qj _) nq λo z s t E=>?_;rw[cg];refine E.lit ag aq cR m9 [87,115,1,b8 a] m9 (show 4*1<=2^20 by decide) m9 λv3 h3 B=>?_;refine B.CT ag 0 m9 cR (λ_=>rfl) (B.seq 1 m9 λ_=>rfl) cH λ_ w k=>⟨⟨nq,by rw[s];decide⟩,?_⟩
 have k:Sp h w [ai 5 o 1 aq ([87,115,1,b8 a]++qf 60 0)]:=by have:=k.bs [0];simpa using this
 refine k.Md ag 0 m9 cR (λ_=>rfl) (Seq.up y k.ac) cH 4 n4 m9 m9 λ_ x u=>⟨⟨nq,by rw[t];decide⟩,?_⟩
 have H:([87,115,1,b8 a]++qf 60 0).take 4++(l.take (([87,115,1,b8 a]++qf 60 (0:UInt8)).length-4)++([87,115,1,b8 a]++qf 60 0).drop (4+m8 l))=fk a l++qf 5 0:=by
  have I:([87,115,1,b8 a]++qf 60 (0:UInt8)).length=64:=n4
  rw[I,qh (l:=l) nb,<-wu];have z:([87,115,1,b8 a]++qf 60 (0:UInt8)).drop 4=qf 60 0:=rfl;have h3:([87,115,1,b8 a]++qf 60 (0:UInt8)).take 4=[87,115,1,b8 a]:=rfl;rw[z,h3,List.drop_replicate];unfold fk;have w:qf (60-m8 l) (0:UInt8)=qf (55-m8 l) 0++qf 5 0:=by rw[List.replicate_append_replicate];congr 1;omega
  rw[w];simp[ql]
 rw[H]at u;have b:(fk a l).length=59:=tR;have K:Rd x ⟨o.ptr,59,o.cap⟩ 1 aq (fk a l):=by have:=(u.seq 0 m9 λ_=>rfl).take 59 (by simp[b]);rw[List.take_append_of_le_length nb,qh nb]at this;exact this
 refine(Yj ⟨o.ptr,59,o.cap⟩ (fk a l) x K nb).G6 ?_;obtain⟨c,A⟩:=HF (CL (fk a l))
 rw[<-A];refine⟨_,m9,?_⟩;refine ak (λi:Nat=>(i:Int)) (λi h'=>i<=4/\Sp h h' [ai 5 o 1 aq (fk a l++((sl c).take i++qf (5-i) 0))]) (λi=>4-i) 0 m9 ⟨nb,u5⟩ ?_;rintro i O ⟨T,D⟩;have d:=LP c;refine ae (λe=>?_) (λe=>?_)
 .have F:i<4:=by have G:(i:Int)<4:=e;omega
  rw[af ((8:Int)*i),af ((59:Int)+i)];refine⟨nb,?_⟩;have L:((8:Int)*(i:Int)).toNat=8*i:=nb
  have M:min (8*i) (qq xR)=8*i:=by have:qq xR=32:=rfl;omega
  rw[L,M,cg];have J:b8 (zp (c.toNat:Int) (2^(8*i)))=(sl c)[i]'nb:=by simp[sl]
  rw[J];refine D.set ag 0 m9 (λ_=>rfl) m9 (59+i) nb (by simp[b];omega) ((sl c)[i]'nb) m9 m9 m9 λh8 j=>?_;refine⟨i+1,n7,⟨nb,?_⟩,nb⟩;have p:(fk a l++((sl c).take i++qf (5-i) 0)).set (59+i) ((sl c)[i]'nb)=fk a l++((sl c).take (i+1)++qf (5-(i+1)) 0):=by
   rw[qZ _ _ nb,b,wF,qZ _ _ n2,aA _ _];have:5-i=(5-(i+1))+1:=nb
   rw[this,yb];simp[d,Nat.min_eq_left (show i<=4 by omega)];rw[aA _ _ (show i<(sl c).length by omega),ql];rfl
  rw[p]at j;exact j
 .have m:i=4:=by have G:¬(i:Int)<4:=e;omega
  subst m;refine D.set ag 0 m9 (λ_=>rfl) m9 63 m9 (by simp[b,d]) 165 m9 m9 m9 λh8 j=>⟨o,m9,?_⟩
  have q:(fk a l++((sl c).take 4++qf (5-4) 0)).set 63 165=eZ a l:=by unfold eZ;rw[hZ ⟨nb,nb,nb⟩,<-A,qh nb,qZ _ _ nb,b,qZ _ _ A4];simp[d]
  rw[q]at j;exact j
abbrev dM:=ByteArray×Int×Int×Sl
abbrev bc:=Int×Int×Int×Int×Int×Int×Sl×Sl
abbrev bf(x:dM):aR:=[xM x.1,xJ xP x.2.1,xJ xP x.2.2.1,x.2.2.2]
abbrev aD(x:bc):aR:=[xJ xP x.1,xJ xP x.2.1,xJ xP x.2.2.1,xJ xP x.2.2.2.1,xJ xP x.2.2.2.2.1,xJ xP x.2.2.2.2.2.1,x.2.2.2.2.2.2.1,x.2.2.2.2.2.2.2]
abbrev cC(x:bc):Value:=xO #[xJ xP x.1,xJ xP x.2.1,xJ xP x.2.2.1,xJ xP x.2.2.2.1,xJ xP x.2.2.2.2.1,xJ xP x.2.2.2.2.2.1,x.2.2.2.2.2.2.1,x.2.2.2.2.2.2.2]
def gS:jq dM Qw.cZ:=⟨λh q a b=>(a.1=b.name/\a.2.1=b.object/\a.2.2.1=b.length)/\Seq h q a.2.2.2 1 av b.tries,λa d=>⟨a.1,a.2.ac d⟩,λa c=>⟨a.1,a.2.mono c⟩⟩
abbrev tz:jq Sl (List Qw.cZ):=ce gS 4 bf
structure lm (h:hY) (q:ar) (x:bc) (m:aB):Prop where
 seq:x.1=m.seq
 next:x.2.1=m.next
 p:(x.2.2.1,x.2.2.2.1,x.2.2.2.2.1)=m.p
 extra:x.2.2.2.2.2.1=m.extra
 drives:Seq h q x.2.2.2.2.2.2.1 1 av m.drives
 objs:tz.p h q x.2.2.2.2.2.2.2 m.objs
 dcap:x.2.2.2.2.2.2.1.len<=x.2.2.2.2.2.2.1.cap
 ocap:x.2.2.2.2.2.2.2.len<=x.2.2.2.2.2.2.2.cap
abbrev cv(h:hY)(x:bc)(m:aB):Prop:=lm h (λb=>b<h.size) x m
theorem lm.ac{h h':hY}{q:ar}{x:bc}{m:aB}(a:lm h q x m)(b:aQ q h h'):lm h' q x m:=⟨a.seq,a.next,a.p,a.extra,a.drives.ac b,tz.loc a.objs b,a.dcap,a.ocap⟩
theorem lm.mono{h:hY}{q q':ar}{x:bc}{m:aB}(a:lm h q x m)(c:∀b,q b->q' b):lm h q' x m:=⟨a.seq,a.next,a.p,a.extra,a.drives.mono c,tz.mono a.objs c,a.dcap,a.ocap⟩
theorem cv.up{h h':hY}{x:bc}{m:aB}(a:cv h x m)(c:aQ (λb=>b<h.size) h h'):cv h' x m:=(lm.ac a c).mono λ_ d=>qU d c.1
def bo(x:bc)(m:aB):HP:=⟨λh q=>lm h q x m,λa b=>a.ac b,λa c=>a.mono c⟩
theorem AL:∀x,∀c∈bf x,c.oneCell'=eL:=by intro x c a;simp[bf]at a;rcases a with rfl|rfl|rfl|rfl<;>rfl
theorem pR(n a b:Int)(h:hY):aj xT 131 #[xJ xP n,xJ xP a,xJ xP b] h λv h'=>v=xN (dQ n a b)/\h'=h:=by
 refine ts Tryz.func131 ?_;unfold dQ;refine ae (λe=>⟨?_,m9⟩) (λe=>⟨?_,m9⟩)
 .rw[ln (show a<=n from e)];rfl
 .rw[m5 (show¬a<=n from e)];rfl
theorem JS(s:ByteArray)(h:hY)(G:s.size<=2^40):aj xT 174 #[xM s] h λv h'=>v=xN (gU s)/\Sp h h' []:=by
 refine ts Tryz.func174 ?_ (F8 (F9 [(8,aI)] [(2,3),(4,5),(8,31)]));refine aaF ag ⟨_,m9,m9⟩ ⟨_,m9,m9⟩ ⟨_,m9,m9⟩ s λr D o=>?_;have y:=o.rd 0 m9;have A:=y.len;have E:=ud s;refine ak (λi:Nat=>(i:Int)) (λi h'=>i<=s.size/\h'=D/\∀c∈(iS s).take i,gm c=eL) (λi=>s.size-i) 0 m9 ⟨nb,m9,n4⟩ ?_;rintro i t ⟨H,rfl,d⟩;refine ae (λe=>?_) (λe=>?_)
 .have j:i<(iS s).length:=by have B:(i:Int)<(r.len:Int):=e;omega
  refine y.aW i m9 j ((iS s)[i].toNat:Int) m9 ?_;obtain⟨c,u⟩:=HF ((iS s)[i])
  rw[<-u];have a:gm c=eL->∃p:Nat,qd xP ((i:Int)+1)=(p:Int)/\(p<=s.size/\t=t/\∀c∈(iS s).take p,gm c=eL)/\s.size-p<s.size-i:=λq=>
   ⟨i+1,n7,⟨nb,m9,λx k=>by
    rw[aA _ _ j]at k;rcases qw.1 k with k|k
    .exact d x k
    .rw[qB.1 k,<-u];exact q⟩,nb⟩
  have f:gm c=eR->Value.bool eR=xN (gU s)/\Sp h t []:=λq=>by
   refine⟨?_,o.bs []⟩;unfold gU;have:s.data.toList.all gm=eR:=zZ.2 ⟨c,by rw[u];exact qe j,by rw[q];simp⟩;rw[this];rfl
  have b:gm c=eL↔((97<=(c.toNat:Int)/\(c.toNat:Int)<=122)∨(48<=(c.toNat:Int)/\(c.toNat:Int)<=57)∨(c.toNat:Int)=45):=by unfold gm;simp[or_assoc];omega
  have g:gm c=eR↔¬((97<=(c.toNat:Int)/\(c.toNat:Int)<=122)∨(48<=(c.toNat:Int)/\(c.toNat:Int)<=57)∨(c.toNat:Int)=45):=by rw[<-b];cases gm c<;>simp
  refine ae (λw=>ae (λe2=>bm (λm=>f (g.2 nb)) λm=>a (b.2 nb)) λe2=>ae (λm=>bm (λl=>f (g.2 nb)) λl=>a (b.2 nb)) λm=>a (b.2 nb)) λw=>ae (λe2=>ae (λm=>bm (λl=>f (g.2 nb)) λl=>a (b.2 nb)) λm=>ae (λl=>bm (λF=>f (g.2 nb)) λF=>a (b.2 nb)) λl=>a (b.2 nb)) λe2=>a (b.2 nb)
 .have B:¬(i:Int)<(r.len:Int):=e;rw[qh nb]at d;have z:s.data.toList.all gm=eL:=qQ.2 d;refine ae (λw=>⟨?_,o.bs []⟩) (λw=>⟨?_,o.bs []⟩)
  .unfold gU;rw[z,ln (show 1<=s.size by omega)];congr 1;simp;omega
  .unfold gU;rw[z,m5 (show¬1<=s.size by omega)];rfl
theorem Vn(s:Sl)(l:aC)(a:Int)(h:hY)(t:Rd h s 1 av l)(z:m8 l<=2^40):aj xT 132 #[s,xJ xP a] h λv h'=>v=xN (oM l a)/\h'=h:=by
 refine ts Tryz.func132 ?_ (F8 (F9 [(9,aI)] [(4,7),(9,32)]));have y:=t.len;refine ak (λi:Nat=>(i:Int)) (λi h'=>i<=m8 l/\h'=h/\∀j,j<i->fU l a j=eL) (λi=>m8 l-i) 0 m9 ⟨nb,m9,nb⟩ ?_;rintro i g ⟨A,rfl,c⟩;refine ae (λe=>?_) (λe=>?_)
 .have d:i<m8 l:=by have u:(i:Int)<(s.len:Int):=e;omega
  refine t.aW i m9 d l[i] m9 ?_;have o:l.getD i 0=l[i]:=getD_lt d;have f:fU l a i=eR->Value.bool eR=xN (oM l a)/\g=g:=λq=>⟨by unfold oM;rw[CR d q],m9⟩
  have b:fU l a i=eL->∃p:Nat,qd xP ((i:Int)+1)=(p:Int)/\(p<=m8 l/\g=g/\∀j,j<p->fU l a j=eL)/\l.length-p<m8 l-i:=λq=>
   ⟨i+1,n7,⟨nb,m9,λj x=>by
    by_cases r:j=i
    .rw[r];exact q
    .exact c j nb⟩,nb⟩
  refine(pR l[i] 0 a g).G6 ⟨_,m9,aH (λm=>f (by unfold fU;rw[o,m];rfl)) λm=>ae (λe2=>?_) λe2=>b (by unfold fU;rw[o,m,ln (show i=0 by omega)];rfl)⟩;rw[af ((i:Int)-1)];refine t.aW (i-1) nb nb (l[i-1]'nb) m9 ?_;have k:l.getD (i-1) 0=l[i-1]'nb:=getD_lt;refine ae (λw=>f ?_) (λw=>b ?_)
  .unfold fU;rw[o,k,m,m5 (show¬i=0 by omega),m5 nb];rfl
  .unfold fU;rw[o,k,m,ln (show l[i-1]'nb<l[i]by omega)];simp
 .have u:¬(i:Int)<(s.len:Int):=e;exact⟨by unfold oM;rw[sp λj x=>c j nb],m9⟩
theorem sT(p:Pm)(n:Int)(h:hY)(o:n<=2^40:=by omega):aj xT 96 #[gx p,xJ xP n] h λv h'=>v=xJ xP (countP p n)/\Sp h h' []:=by
 refine ts Tryz.func96 ?_ (F8 (G0 [] [(4,12)] E6)) (args:=[p,(n:Int)]);refine(Sp.refl h).boxed λr f g=>?_;refine aE ⟨p,(g.box 0 m9).aw _ m9,(fe p f).G7 λk l=>?_⟩;have b:=g.up l.ac;refine⟨_,m9,aH (λe=>⟨?_,b.bs []⟩) λd=>ae (λe=>⟨?_,b.bs []⟩) λe=>?_⟩
 .unfold countP;rw[e];rfl
 .unfold countP;rw[m5 (show¬0<n by omega),Bool.and_false];rfl
 .have j:=(bI p).1 d;refine⟨p,(b.box 0 m9).aw _ m9,?_⟩;refine(AJ p (R:=λv h'=>v=xJ xP (p.1*p.2.2)/\Sp h h' []) ?_).mono ?_
  .skip
   refine b.boxed λq h3 c=>⟨p.1,(c.box 1 m9).cell0 m9,p.2.2,(c.box 1 m9).cell m9,?_,c.bs []⟩
   have m:p.1*p.2.2<=16*24:=wg nb nb nb nb;have a:0<=p.1*p.2.2:=vT nb nb;rw[af _]
  .rintro _ h3 ⟨rfl,i⟩;have a:0<p.1*p.2.2:=Int.mul_pos nb nb;refine⟨_,m9,Int.ne_of_gt a,?_,i⟩;have f:(n-1)/(p.1*p.2.2)<=n-1:=xh _ nb;have k:0<=(n-1)/(p.1*p.2.2):=xu nb nb;rw[af (n-1),yD nb,af ((n-1)/(p.1*p.2.2)),af _];unfold countP;rw[d,ln (show 0<n by omega)];rfl
theorem OL(s:Sl)(l:aC)(h:hY)(d:Rd h s 1 av l)(k:m8 l<=2^40):aj xT 137 #[s,.func (.func 205) #[] #[]] h λv h'=>v=xN (!l.all (dQ · 0 15))/\h'=h:=by
 refine ts Tryz.func137 ?_ (args:=[s,(.func (.func 205) #[] #[])]);have j:=d.len;refine(iU s (205,#[],#[]) (R:=λv h'=>(∃i:Int,v=xJ xP i/\(decide (i>=0)=!l.all (dQ · 0 15)))/\h'=h) ?_).mono ?_
 .skip
  refine ak (λi:Nat=>(i:Int)) (λi h'=>i<=m8 l/\(l.take i).all (dQ · 0 15)=eL/\h'=h) (λi=>m8 l-i) 0 m9 ⟨nb,n4,m9⟩ ?_;rintro i c ⟨f,a,rfl⟩;refine ae (λe=>?_) (λe=>?_)
  .have b:i<m8 l:=by have g:(i:Int)<(s.len:Int):=e;omega
   refine d.aW i m9 b l[i] m9 (fF pa ?_);refine(FX l[i] (R:=λv h'=>v=xN (!dQ l[i] 0 15)/\h'=c) ?_).mono ?_
   .skip
    refine(pR l[i] 0 15 c).G6 ⟨_,m9,m9,m9⟩
   .rintro _ _ ⟨rfl,rfl⟩;refine⟨_,m9,aH (λe2=>?_) λe2=>?_⟩
    .refine⟨⟨i,m9,?_⟩,m9⟩;rw[ln (show(i:Int)>=0 by omega)];have:l.all (dQ · 0 15)=eR:=zZ.2 ⟨_,qe b,D9⟩;rw[this];rfl
    .refine⟨i+1,n7,⟨nb,?_,m9⟩,nb⟩;rw[aA _ _ b,wx,a];simp[e2]
  .have g:¬(i:Int)<(s.len:Int):=e;refine⟨⟨-1,m9,?_⟩,m9⟩;rw[qh nb]at a;rw[a];rfl
 .rintro _ c ⟨⟨i,rfl,f⟩,rfl⟩;exact⟨i,m9,by rw[f],m9⟩
structure bM (m:aB):Prop where
 dr:m.drives.length<=2^30
 ob:m.objs.length<=2^30
 nm:∀e∈m.objs,e.name.size<=2^30/\e.tries.length<=2^30
theorem addr_add(a:fY)(i j:Nat):(a.add i).add j=a.add (i+j):=by unfold Addr.add;by_cases c:i=0<;>by_cases b:j=0<;>simp[c,b,w7]
theorem bQ.mh{h:hY}{a:fY}{e:TypeId}{b:aR}{v:Value}(c:bQ h a e b)(i j:Nat)(d:b[i+j]?=dB v):hU h ((a.add i).add j)=dB v:=by rw[addr_add];exact c.cell d
theorem bQ.mE{h:hY}{a:fY}{e:TypeId}{b:aR}{u v w:Value}(c:bQ h a e b)(i:Nat)(d:b[i]?=dB u)(g:b[i+1]?=dB v)(f:b[i+2]?=dB w):bp h (a.add i) 0 [u,v,w]:=
 ⟨c.mh i 0 d,c.mh i 1 g,c.mh i 2 f,I0⟩
abbrev mS:bO C.toAA 25 83 4 [xM ⟨#[]⟩,xJ xP 0,xJ xP 0,xK eH 0 0] 56:=⟨_,_,m9,m9,m9,m9,m9,m9⟩
theorem SI(x:bc)(m:aB)(e:dM)(E:Qw.cZ)(h:hY)(i:cv h x m)(z:fm gS h e E)(H:kz m=eL)(N:E.name.size<=2^30)(P:E.tries.length<=2^30):
  aj xT 133 #[cC x,xO #[xM e.1,xJ xP e.2.1,xJ xP e.2.2.1,e.2.2.2]] h λv h'=>v=xN (gC m E)/\Sp h h' []:=by
 refine ts Tryz.func133 ?_ (F8 (G0 [] [(4,5),(6,33)] E6)) (args:=[x,e]);obtain⟨_,A,d,_⟩:=FG H;have F:=(bI m.p).1 d;obtain⟨⟨K,e2,y⟩,w⟩:=z;have g:x.2.2.1=m.p.1:=congrArg (·.1) i.p;have q:x.2.2.2.1=m.p.2.1:=congrArg (·.2.1) i.p;have f:x.2.2.2.2.1=m.p.2.2:=congrArg (·.2.2) i.p;have M:m.p.1*m.p.2.2<=16*24:=wg nb nb nb nb;have I:0<=m.p.1*m.p.2.2:=vT nb nb;refine(Sp.refl h).boxed λS O J=>?_;refine J.boxed λQ G s=>?_;have k:∀{h':hY} {As:List HP},Sp h h' As->gC m E=eR->Value.bool eR=xN (gC m E)/\Sp h h' []:=λ{h' As} H' c=>⟨by rw[c],.zip H'.ac⟩
 refine aE ⟨E.name,by rw[<-K];exact(s.box 1 m9).cell0 m9,(JS E.name G nb).G7 λh3 B=>?_⟩;have a:=s.up B.ac;refine⟨_,m9,aH (λb=>k a (by unfold gC;rw[b];rfl)) λj=>?_⟩;refine⟨E.object,by rw[<-e2];exact(a.box 1 m9).cell m9,m.next,by rw[<-i.next];exact(a.box 0 m9).cell m9,?_⟩
 try dsimp only
 rw[af (m.next-1)];refine(pR E.object 0 (m.next-1) h3).G6 ⟨_,m9,aH (λb=>k a (by unfold gC;rw[j,b];rfl)) λo=>?_⟩;have c:=a.box 0 m9;refine⟨E.length,by rw[<-y];exact(a.box 1 m9).cell m9,m.p.1,by rw[<-g];exact c.cell m9,m.p.2.2,by rw[<-f];exact c.mh 2 2 m9,?_⟩
 try dsimp only
 rw[af (m.p.1*m.p.2.2),af (m.p.1*m.p.2.2*8)];refine(pR E.length 0 (m.p.1*m.p.2.2*8) _).G6 ⟨_,m9,aH (λb=>k a (by unfold gC;rw[j,o,b];rfl)) λl=>?_⟩;have u:0<=E.length/\E.length<=m.p.1*m.p.2.2*8:=by unfold dQ at l;simpa using l
 refine⟨e.2.2.2,(a.box 1 m9).cell m9,?_⟩;refine(OL e.2.2.2 E.tries _ (Seq.up w a.ac) nb).G6 ⟨_,m9,aH (λb=>?_) λb=>⟨I0,k a ?_⟩⟩
 .have r:E.tries.all (dQ · 0 15)=eL:=u6
  refine⟨e.2.2.2,(a.box 1 m9).cell m9,m.p,?_,E.length,by rw[<-y];exact(a.box 1 m9).cell m9,?_⟩
  .rw[<-g,<-q,<-f];exact c.mE 2 m9 m9 m9
  .refine(sT m.p E.length _).G7 λR D=>?_;have t:=a.up D.ac;refine⟨_,m9,⟨(t.box 1 m9).cell m9,I0⟩,?_,.zip t.ac⟩;unfold gC;have L:=w.len;rw[j,o,l,r,L];simp;rfl
 .have r:E.tries.all (dQ · 0 15)=eR:=u6
  unfold gC;rw[j,o,l,r];rfl
theorem OM(a:fY)(e:dM)(l:Sl)(b:List Qw.cZ)(h:hY)(p:bQ h a 83 (bf e))(o:fm tz h l b)(E:b.length<=2^30):
  aj xT 134 #[l,.func (.func 135) #[] #[xL (dB a)]] h λv h'=>v=xN (b.any λy=>decide (y.object=e.2.1))/\Sp h h' []:=by
 refine ts Tryz.func134 ?_ (args:=[l,(.func (.func 135) #[] #[xL (dB a)])]);refine(ij l (135,#[],#[xL (dB a)]) (R:=λv h'=>(∃i:Int,v=xJ xP i/\(decide (i>=0)=b.any λy=>decide (y.object=e.2.1)))/\Sp h h' []) ?_).mono ?_
 .skip
  obtain⟨r,x,D,u⟩:=ce.kZ o;have s:=ce.len o;refine ak (λi:Nat=>(i:Int)) (λi h'=>i<=b.length/\(b.take i).any (λy=>decide (y.object=e.2.1))=eR/\Sp h h' []) (λi=>b.length-i) 0 m9 ⟨nb,n4,Sp.refl h⟩ ?_;rintro i k ⟨q,c,j⟩;refine ae (λm=>?_) (λm=>?_)
  .have d:i<b.length:=by have t:(i:Int)<(l.len:Int):=m;omega
   obtain⟨⟨_,A,_⟩,_⟩:=u i nb d;refine(Seq.up x j.ac).cQ (g:=bf) i m9 nb (r[i]'nb) m9 (fF pa ?_);refine(IS (r[i]'nb) a (R:=λv h'=>v=xN (b[i].object==e.2.1)/\Sp k h' []) ?_).mono ?_
   .skip
    refine(Sp.refl k).boxed λF w f=>?_;have n:=p.ac (up j.ac f.ac) p.lt;exact⟨b[i].object,by rw[<-A];exact(f.box 0 m9).cell m9,e.2.1,n.cell m9,m9,.zip f.ac⟩
   .rintro _ w ⟨rfl,z⟩;have f:=j.up z.ac;refine⟨_,m9,aZ (λe2=>?_) λe2=>?_⟩
    .refine⟨⟨i,m9,?_⟩,f⟩;rw[ln (show(i:Int)>=0 by omega)];exact(zR.2 ⟨_,qe d,u0⟩).symm
    .refine⟨i+1,n7,⟨nb,?_,f⟩,nb⟩;rw[aA _ _ d,ye,c];simpa using e2
  .have t:¬(i:Int)<(l.len:Int):=m;refine⟨⟨-1,m9,?_⟩,j⟩;rw[qh nb]at c;rw[c];rfl
 .rintro _ k ⟨⟨i,rfl,q⟩,B⟩;exact⟨i,m9,by rw[q],B⟩
theorem un(x:bc)(m:aB)(h:hY)(d:cv h x m)(O:bM m):aj xT 65 #[cC x] h λv h'=>v=xN (bF m)/\Sp h h' []:=by
 refine ts Tryz.func65 ?_ (F8 (G0 [] [(2,3),(5,27)] (G0 [] [(2,3),(27,37)] (E5 (F8 (E7 (E8 [(40,aI)] [(2,5),(40,72)] (F8 (F8 (E5 (E7 (F8 (G0 [] [(2,3),(45,65)] E6))) E6)))))) E6)))) (args:=[x]);refine(Sp.refl h).boxed λa1 h1 G=>?_;have w:=G.box 0 m9;have T:x.2.2.1=m.p.1:=congrArg (·.1) d.p;have M:x.2.2.2.1=m.p.2.1:=congrArg (·.2.1) d.p;have N:x.2.2.2.2.1=m.p.2.2:=congrArg (·.2.2) d.p;have s:∀{h':hY} {As:List HP},Sp h h' As->bF m=eR->Value.bool eR=xN (bF m)/\Sp h h' []:=λ{h' As} H' w=>⟨by rw[w],.zip H'.ac⟩
 refine aE ⟨m.seq,by rw[<-d.seq];exact w.cell0 m9,(pR m.seq 1 2147483647 h1).G6 ?_⟩;refine⟨_,m9,aH (λb=>s G (by unfold bF kz;rw[b];rfl)) λH=>?_⟩;refine⟨m.next,by rw[<-d.next];exact w.cell m9,(pR m.next 0 16777216 _).G6 ?_⟩;refine⟨_,m9,aH (λb=>s G (by unfold bF kz;rw[H,b];rfl)) λL=>?_⟩;refine⟨m.p,by rw[<-T,<-M,<-N];exact w.mE 2 m9 m9 m9,(fe m.p _).G7 λh2 R2=>?_⟩;have o:=G.up R2.ac;refine⟨_,m9,aH (λb=>s o (by unfold bF kz;rw[H,L,b];rfl)) λV=>?_⟩;refine⟨m.extra,by rw[<-d.extra];exact(o.box 0 m9).cell m9,(pR m.extra 0 16 _).G6 ?_⟩;refine⟨_,m9,aH (λb=>s o (by unfold bF kz;rw[H,L,V,b];rfl)) λb4=>?_⟩;have F:kz m=eL:=by unfold kz;rw[H,L,V,b4];rfl
 have J:=d.up o.ac;have u:=o.box 0 m9;have ah:=O.dr;have ad:=O.ob;refine aE ⟨_,u.cell m9,(Vn _ m.drives 63 _ J.drives nb).G6 ?_⟩;refine⟨_,m9,aH (λb=>s o (by unfold bF;rw[F,b];rfl)) λX=>?_⟩;have Z:=ce.len d.objs;refine⟨x.2.2.2.2.2.2.2,u.cell m9,ae (λe=>s o ?_) λab=>?_⟩
 .unfold bF;rw[F,X,m5 nb];rfl
 have P:m8 m.objs<=12:=nb
 refine⟨x.2.2.2.2.2.2.2,u.cell m9,?_⟩;obtain⟨l,D⟩:=ce.fix d.objs;have al:=D.2.1;refine ak (λi:Nat=>(i:Int)) (λi h'=>i<=m8 m.objs/\(∀j,j<i->ky m j=eL)/\Sp h h' [an a1 27 (aD x)]) (λi=>m8 m.objs-i) 0 m9 ⟨nb,nb,o⟩ ?_;rintro i h3 ⟨hi,r,Q⟩;refine ae (λe=>?_) (λe=>?_)
 .have f:i<m8 m.objs:=by have e':(i:Int)<(x.2.2.2.2.2.2.2.len:Int):=e;omega
  have A:=O.nm _ (qe f);have c:jw m.objs i=m.objs[i]:=lP f;have z:∀{h':hY} {As:List HP},Sp h h' As->ky m i=eR->Value.bool eR=xN (bF m)/\Sp h h' []:=λ{h' As} H' w=>s H' (by unfold bF;rw[CR f w];simp);have F3:=gE.up D Q.ac;refine F3.1.cQ (g:=bf) i m9 nb (l[i]'nb) m9 ?_;refine Q.alloc ag m9 λE h4 H4=>?_;refine H4.storeAll ag 1 m9 m9 (bf (l[i]'nb)) m9 m9 m9 m9 λh5 B=>?_;have Y:=gE.up D B.ac;obtain⟨⟨y1,y2,y3⟩,y4⟩:=Fix.row Y f;obtain⟨b6,k⟩:∃b,b=(decide (i=0)||cW (jw m.objs (i-1)).name (jw m.objs i).name):=⟨_,rfl⟩
  refine bn (λ_ h'=>gC m m.objs[i]=eL/\b6=eL/\Sp h h' [an a1 27 (aD x),an E 83 (bf (l[i]'nb))]) ?_ ?_
  .refine⟨x,(B.box 0 m9).aw _ m9,l[i]'nb,(B.box 1 m9).aw _ m9,?_⟩;refine(SI x m (l[i]'nb) m.objs[i] h5 (d.up B.ac) (Fix.row Y f) F A.1 A.2).G7 λW R6=>?_;have a:=B.up R6.ac;have I:=gE.up D a.ac;refine⟨_,m9,I0,aH (λb=>z a (by unfold ky;rw[c,b];rfl)) λb=>ae (λe2=>?_) λe2=>⟨b,by rw[k,ln (show i=0 by omega)];rfl,a⟩⟩;rw[af ((i:Int)-1)];obtain⟨S,ha,zz,hc,rfl⟩:=I.1.cQ (g:=bf) (i:=(i:Int)-1) (i-1) nb nb (l[i-1]'nb) rfl (K:=λt=>t=l[i-1]'nb) rfl;refine⟨x.2.2.2.2.2.2.2,(a.box 0 m9).cell m9,S,ha,m.objs[i-1].name,?_,m.objs[i].name,?_,?_⟩
   .rw[<-(Fix.row I (show i-1<m8 m.objs by omega)).1.1];exact hc.1
   .rw[<-y1];exact(a.box 1 m9).cell0 m9
   .have q:jw m.objs (i-1)=m.objs[i-1]:=lP;rw[c,q]at k;refine aH (λy=>z a ?_) (λy=>⟨b,?_,a⟩)
    .unfold ky;rw[c,q,b,m5 (show¬i=0 by omega)];unfold cW;rw[y];rfl
    .rw[k];unfold cW;rw[y];simp
  .rintro _ W ⟨b,R,a⟩;have I:=gE.up D a.ac;refine⟨x.2.2.2.2.2.2.2,(a.box 0 m9).cell m9,⟨nb,by have:=d.ocap;omega⟩,?_⟩;rw[qi];refine(OM E (l[i]'nb) ⟨x.2.2.2.2.2.2.2.ptr,i,x.2.2.2.2.2.2.2.cap⟩ (m.objs.take i) W (a.box 1 m9) (ce.take I.elt i nb) n2).G7 λh7 R7=>?_;have H7:=a.up R7.ac;rw[y2];refine⟨_,m9,aS (λy=>z H7 ?_) λy=>?_⟩
   .unfold ky;rw[c,y];simp
   .refine⟨i+1,n7,⟨nb,λj hj=>?_,H7.bs [0]⟩,nb⟩;by_cases U:j=i
    .subst U;rw[R]at k;unfold ky;rw[<-k,c,b,y];rfl
    .exact r j nb
 .have e':¬(i:Int)<(x.2.2.2.2.2.2.2.len:Int):=e;refine⟨?_,.zip Q.ac⟩;unfold bF;rw[F,X,ln P,sp λj hj=>r j nb];rfl
theorem rz(s:Sl)(l:aT)(n:Int)(k:Nat)(r:k<=4)(q:m8 l<=2^20)(H:aa B h0 h (ai 5 s 1 aq l::As)):
  aj xT 188 #[s,xJ xP n,xJ xP k] h λv h'=>∃b:Sl,v=b/\aa B h0 h' (ai 5 b 1 aq (l++cD n k)::As):=by
 refine ts Tryz.func188 ?_ (F8 (F9 [(0,bJ),(7,aI)] [(0,1),(7,8),(10,22)]));have d:=bL n k;refine ak (λt:Sl×Nat=>(t.1,(k:Int)-1-t.2)) (λt h'=>t.2<=k/\aa B h0 h' (ai 5 t.1 1 aq (l++(cD n k).take t.2)::As)) (λt=>k-t.2) (s,0) (by rw[af _];simp) ⟨n4,tg⟩ ?_;rintro⟨o,j⟩ u ⟨x,a⟩;dsimp only at*;refine ae (λe=>?_) (λe=>?_)
 .have p:j<k:=nb
  rw[af ((8:Int)*((k:Int)-1-j))];refine⟨nb,?_⟩;have m:((8:Int)*((k:Int)-1-j)).toNat=8*(k-1-j):=nb
  have i:min (8*(k-1-j)) (qq xP)=8*(k-1-j):=by have:qq xP=64:=rfl;omega
  rw[m,i,cg];have g:b8 (zp n (2^(8*(k-1-j))))=(cD n k)[j]'nb:=by simp[cD]
  rw[g];refine a.push ag 0 m9 cR m9 nq (λ_=>rfl) cH ((cD n k)[j]'nb) m9 nq n2 λf w c=>?_;refine⟨(f,j+1),by dsimp only;rw[af _];congr 1;omega,⟨n1,?_⟩,n1⟩
  try dsimp only
  rw[aA _ _ (show j<(cD n k).length by omega),<-ql];exact c
 .rw[qh nb]at a;exact⟨o,m9,a⟩
theorem sU(b:Sl)(l:aC)(o:Sl)(c:aT)(H:aa B h0 h (ai 5 o 1 aq c::As))(q:St B h0 As λh=>Rd h b 1 av l)(G:m8 c<=2^30)(D:m8 l<=2^30){K:Sl×Int->hY->Prop}
  (v:∀r h',aa B h0 h' (ai 5 r 1 aq (c++l.map b8)::As)->K (r,(m8 l:Int)) h'):
  gr (σ:=Sl×Int) (λa y h8=>
 Br (decide (a.2<((b.len:Nat):Int)))
 (∃j:fY,(b.ptr=dB j/\0<=a.2/\a.2<((b.len:Nat):Int))/\
 ∃k:Int,hU h8 (j.add (a.2.toNat*1))=dB (xJ xP k)/\
 bC xT (Instr.buildSlice 41 1 #[(0,(xJ xQ (qd xQ k)))]) (.one (.sc .slc)) h8 λf w=>
 bC xT (Builtin.append_ #[41,41] 41 #[(xK a.1.ptr a.1.len a.1.cap),(xK f.ptr f.len f.cap)]) (.one (.sc .slc)) w λd p=>
 y ((⟨d.ptr,d.len,d.cap⟩:Sl),qd xP (a.2+(1:Int))) p)
 (K a h8)) (o,(0:Int)) h:=by
 have A:b.len=m8 l:=(q.at [_] H).len;refine ak (λt:Sl×Nat=>(t.1,(t.2:Int))) (λt h'=>t.2<=m8 l/\aa B h0 h' (ai 5 t.1 1 aq (c++(l.take t.2).map b8)::As)) (λt=>m8 l-t.2) (o,0) m9 ⟨n4,tg⟩ ?_;rintro⟨u,i⟩ x ⟨F,m⟩;dsimp only at*;refine ae (λe=>?_) (λe=>?_)
 .have g:i<m8 l:=nb
  refine(q.at [_] m).aW i m9 g l[i] m9 ?_;rw[cg];refine m.push ag 0 m9 cR m9 nq (λ_=>rfl) cH (b8 l[i]) m9 nq n2 λz E s=>?_;refine⟨(z,i+1),n3,⟨n1,?_⟩,n1⟩
  try dsimp only
  rw[aA _ _ g,qE,<-ql];exact s
 .have n:i=m8 l:=nb
  subst n;rw[qt]at m;exact v u x m
theorem aaT{m:aB}(a:bF m=eL){i:Nat}(b:i<m8 m.objs):gC m m.objs[i]=eL:=by
 unfold bF at a;simp only[qz]at a;have:=qQ.1 a.2.2.2 i (qY.2 b);unfold ky at this;simp only[qz]at this;have c:=this.1
 rwa [lP b]at c
theorem MG{m:aB}(c:bF m=eL){i:Nat}(h:i<m.objs.length):m.objs[i].name.size<=12/\m.objs[i].tries.length<=3073:=by
 have b:=aaT c h;unfold gC gU at b;simp only[qz,decide_eq_true_eq]at b;obtain⟨⟨_,_,f⟩,_,h3,_,d⟩:=b;refine⟨f,?_⟩;obtain⟨_,_,a,_⟩:=FG (Uw c);have e:=(bI m.p).1 a;unfold dQ at h3;simp only[qz,decide_eq_true_eq]at h3;have j:m.p.1*m.p.2.2<=16*24:=wg nb nb nb nb;unfold countP at d;split at d
 .have:(m.objs[i].length-1)/(m.p.1*m.p.2.2)<=m.objs[i].length-1:=xh _ (by rename_i g;simp at g;omega);omega
 .omega
theorem Vo{m:aB}(b:bF m=eL){i:Nat}(a:i<m8 m.objs):(gu m.objs[i]).length<=4000:=by have:=MG b a;unfold gu;simp[bL];have:m.objs[i].name.data.size=m.objs[i].name.size:=rfl;omega
theorem vY{m:aB}(a:bF m=eL):∀n,n<=m8 m.objs->((m.objs.take n).flatMap gu).length<=n*4000
 |0,_=>n4
 |n+1,hn=>by
  rw[aA _ _ (show n<m8 m.objs by omega),za,qo];have c:=vY a n nb;have b:=Vo a (show n<m8 m.objs by omega);have h3:([m.objs[n]].flatMap gu).length=(gu m.objs[n]).length:=by rw[zm,we,qL]
  omega
theorem uo{m:aB}(a:bF m=eL):m8 m.objs<=12:=by unfold bF at a;simp only[qz,decide_eq_true_eq]at a;exact a.2.2.1
theorem uq(m:aB)(j:bM m):(gG m).length<=100000:=by
 unfold gG;split
 .rename_i b;have f:=b;unfold bF at f;simp only[qz,decide_eq_true_eq]at f;have k:m8 m.drives<=64:=by
   have a:=f.2.1;unfold oM at a;rw[qQ]at a;by_cases g:m8 m.drives<=64
   .exact g
   .exfalso;have d:∀i,i<m8 m.drives->(i:Int)<=m.drives.getD i 0:=λi=>by
     induction i with
     |zero=>
      intro c;have:=a 0 (qY.2 c);unfold fU dQ at this;simp at this;simpa using this.1
     |succ i ih=>
      intro c;have:=a (i+1) (qY.2 c);have h3:=ih nb;unfold fU dQ at this;simp at this;have e:=this.2;simp only[qg]at h3⊢;omega
    have h3:=d 64 nb;have e:=a 64 (qY.2 nb);unfold fU dQ at e;simp at e;simp only[qg]at h3;omega
  have h:(m.objs.flatMap gu).length<=12*4000:=by have a:=vY b m.objs.length (qj _);rw[qt]at a;have:=zk 4000 (uo b);omega
  simp only[qo,q7,wL,qn,bL];omega
 .simp
theorem Vp(x:bc)(m:aB)(h:hY)(d:cv h x m)(Z:bM m):aj xT 103 #[cC x] h λv h'=>∃r:Sl,v=r/\Sp h h' [ai 5 r 1 aq (gG m)]:=by
 refine ts Tryz.func103 ?_ (F8 (F8 (G0 [(3,bJ)] [(3,4),(13,19)] (F8 (E5 (F8 (E7 (E8 [(3,bJ),(44,aI)] [(3,4),(5,6),(44,54)] E6))) (F8 (E5 (F8 (E7 (E8 [(3,bJ),(64,aI)] [(3,4),(7,8),(9,10),(64,99)] (F8 (F8 (E5 (E7 (F8 (G0 [(3,bJ)] [(3,4),(68,78)] (G0 [(3,bJ)] [(3,4),(78,85)] (F8 (E7 (E8 [(3,bJ),(88,aI)] [(3,4),(9,10),(88,98)] E6))))))) E6)))))) E6))))))) [(3,(.l [0,1,3,4,2,5,6])),(14,(.l [0,1,2,3,4,7,8,5,6,9,10])),(15,(.l [0,1,2,4,5,3,6,7]))] (args:=[x]);refine(Sp.refl h).boxed λa1 h1 H1=>?_;refine⟨x,(H1.box 0 m9).aw _ m9,(un x m h1 (d.up H1.ac) Z).G7 λh2 R2=>?_⟩;have Y:=H1.up R2.ac;refine⟨_,m9,aH (λe=>?_) λA=>?_⟩
 .unfold gG;rw[e];exact⟨⟨eH,0,0⟩,m9,((Y.nil 5 1 aq).bs [1])⟩
 have ap:x.2.2.1=m.p.1:=congrArg (·.1) d.p;have U:x.2.2.2.1=m.p.2.1:=congrArg (·.2.1) d.p;have V:x.2.2.2.2.1=m.p.2.2:=congrArg (·.2.2) d.p;have K:=Y.box 0 m9;have b:=uq m Z;unfold gG at b;rw[A,hZ rfl]at b;have hM:∀{h':hY} {As:List HP},Sp h h' As->cv h' x m:=λ{h' As} F=>d.up F.ac;refine aE ⟨m.seq,by rw[<-d.seq];exact K.cell0 m9,m.next,by rw[<-d.next];exact K.cell m9,?_⟩;have H3:=(Y.nil 5 1 aq).ba;refine(rz ⟨eH,0,0⟩ [] m.seq 4 nq n4 H3).Hf λs4 h4 H4=>⟨s4,m9,⟨by rw[<-d.next];exact(H4.box 1 m9).cell m9,I0⟩,?_⟩;refine(rz s4 _ m.next 4 nq p7 H4).Hf λs5 h5 H5=>⟨s5,m9,I0,?_⟩;have k:=H5.box 1 m9;refine⟨m.p.1,by rw[<-ap];exact k.cell m9,m.p.2.1,by rw[<-U];exact k.mh 2 1 m9,m.p.2.2,by rw[<-V];exact k.mh 2 2 m9,m.extra,by rw[<-d.extra];exact k.cell m9,x.2.2.2.2.2.2.1,k.cell m9,?_⟩;have ao:=d.drives.len;have ab:=ce.len d.objs
 try dsimp only
 rw[cg,cg,cg,cg,cg,ao];refine H5.lit ag aq cR m9 [b8 m.p.1,b8 m.p.2.1,b8 m.p.2.2,b8 m.extra,b8 (m.drives.length:Nat)] m9 (show 5*1<=2^20 by decide) m9 λa5 h6 H6=>?_;refine H6.append ag 0 m9 cR ⟨_,_,m9,m9⟩ m9 nq (λ_=>rfl) (H6.seq 2 m9 λ_=>rfl) cH p7 λs7 h7 R=>?_;have R:=R.bs [0,1];refine⟨x.2.2.2.2.2.2.1,(R.box 1 m9).cell m9,?_⟩;have a3:(([]++cD m.seq 4)++cD m.next 4++[b8 m.p.1,b8 m.p.2.1,b8 m.p.2.2,b8 m.extra,b8 (m.drives.length:Nat)]).length=13:=p7
 have bb:=Z.dr;refine sU x.2.2.2.2.2.2.1 m.drives s7 _ R (St.mk' λh' F=>(hM F).drives) nb nb λs8 h8 H8=>?_
 try dsimp only
 refine⟨x.2.2.2.2.2.2.2,(H8.box 1 m9).cell m9,?_⟩
 try dsimp only
 rw[cg,ab];obtain⟨a,c⟩:=HF (([]++cD m.seq 4)++cD m.next 4++[b8 m.p.1,b8 m.p.2.1,b8 m.p.2.2,b8 m.extra,b8 (m.drives.length:Nat)]++m.drives.map b8)
 rw[<-c]at H8;have a0:a.length=13+m.drives.length:=by rw[c];simp[bL];omega
 simp only[qo,q7,wL,qn,bL]at b;refine H8.push ag 0 m9 cR m9 nq (λ_=>rfl) cH (b8 (m.objs.length:Nat)) m9 nq nb λs9 h9 S=>?_;have S:Sp h h9 [ai 5 s9 1 aq (a++[b8 (m.objs.length:Nat)]),an a1 27 (aD x)]:=S;refine⟨x.2.2.2.2.2.2.2,(S.box 1 m9).cell m9,?_⟩;obtain⟨P,Q⟩:=ce.fix d.objs;have bl:=Q.2.1;refine ak (λt:Sl×Nat=>(t.1,(t.2:Int))) (λt h'=>t.2<=m.objs.length/\Sp h h' [ai 5 t.1 1 aq (a++[b8 (m.objs.length:Nat)]++(m.objs.take t.2).flatMap gu),an a1 27 (aD x)]) (λt=>m.objs.length-t.2) (s9,0) m9 ⟨n4,by simpa using S⟩ ?_;rintro⟨o,i⟩ a8 ⟨hi,j⟩;dsimp only at*;refine ae (λe=>?_) (λe=>?_)
 .have s:i<m.objs.length:=nb
  have ax:=gE.up Q j.ac;have ay:=MG A s;have u:((m.objs.take i).flatMap gu).length<=50000:=by have h1:=vY A i hi;have:=uo A;have:i*4000<=12*4000:=zk _ nb;omega
  refine ax.1.cQ (g:=bf) i m9 nb (P[i]'nb) m9 ?_;refine j.alloc ag m9 λa7 b0 W=>?_;refine W.storeAll ag 2 m9 m9 (bf (P[i]'nb)) m9 m9 m9 m9 λad f=>?_;have al:=gE.up Q f.ac;obtain⟨⟨y,y2,y3⟩,y4⟩:=Fix.row al s;obtain⟨E,X⟩:=HF (m.objs[i])
  rw[<-X]at y y2 y3 y4 ay;have w:=f.box 2 m9;refine aE ⟨E.name,xa,E.name,xa,?_⟩;rw[cg];refine f.ko ag aq cR m9 [b8 (E.name.size:Nat)] m9 (show 1*1<=2^20 by decide) m9 ⟨xa,xa,I0⟩ ?_;have I:(a++[b8 (m.objs.length:Nat)]++(m.objs.take i).flatMap gu).length<=160000:=by rw[qo,qo,a0];simp;simp at u;omega
  obtain⟨q,H⟩:=HF (a++[b8 (m.objs.length:Nat)]++(m.objs.take i).flatMap gu)
  rw[<-H]at f I;refine f.push ag 0 m9 cR m9 nq (λ_=>rfl) cH (b8 (E.name.size:Nat)) m9 nq nb λa4 bd J=>?_;have D:=J.box 2 m9;refine⟨⟨by rw[<-y];exact D.cell0 m9,by rw[<-y];exact D.cell0 m9,I0⟩,?_⟩;refine J.JB ag 0 m9 cR ⟨_,m9,m9⟩ m9 nq E.name n2 λT bk B=>?_;have z:=B.box 2 m9;refine⟨⟨by rw[<-y];exact z.cell0 m9,I0⟩,?_⟩;refine aE ⟨E.object,by rw[<-y2];exact z.cell m9,E.length,by rw[<-y3];exact z.cell m9,?_⟩;have bq:=ud E.name;refine(rz T _ E.object 3 nq n2 B).Hf λG a9 N=>?_;have am:=N.box 2 m9;refine⟨G,m9,⟨by rw[<-y3];exact am.cell m9,I0⟩,?_⟩;refine(rz G _ E.length 2 nq o9 N).Hf λO br L=>?_;have ah:=L.box 2 m9;refine⟨O,m9,I0,(P[i]'nb).2.2.2,ah.cell m9,?_⟩;refine sU (P[i]'nb).2.2.2 E.tries O _ L (St.mk' λh' F=>by rw[X];exact(Fix.row (gE.up Q F.ac) s).2) o9 nb λa2 a6 M=>?_
  try dsimp only
  have ad:=uo A;refine⟨(a2,i+1),n3,⟨n1,?_⟩,n1⟩
  try dsimp only
  rw[aA _ _ s,za,<-ql,<-H,zm,we,qL,<-X];have e3:q++[b8 (E.name.size:Nat)]++iS E.name++cD E.object 3++cD E.length 2++E.tries.map b8=q++gu E:=by unfold gu iS;simp[ql]
  rw[e3]at M;exact M.bs [0,1]
 .rw[qh nb]at j;refine⟨o,m9,?_⟩;have e2:a++[b8 (m.objs.length:Nat)]++m.objs.flatMap gu=gG m:=by rw[c];unfold gG;rw[A,hZ rfl];simp[ql]
  rw[e2]at j;exact j.bs [0]
def iL{α:Type}(k:Nat)(f:α->aR)(L:List (Sl×List α)):HP:=⟨λh q=>∀y∈L,Seq h q y.1 k f y.2,λa d y b=>(a y b).ac d,λa c y b=>(a y b).mono c⟩
variable {α:Type} {k:Nat} {L:List (Sl×List α)} {s:Sl} {l:List α}
section
variable {f:α->aR}
theorem aa.EF(H:aa B h0 h As)(k:Nat)(f:α->aR):aa B h0 h (iL k f []::As):=
 (H.comp (.one (A:=iL k f []) (aQ.refl _ _) λy a=>C2)).ba
theorem aa.IU(H:aa B h0 h (iL k f L::Ae s k f l::As)):aa B h0 h (iL k f ((s,l)::L)::As):=by
 have g:=H.kA;refine g.dY 0 m9 λq ⟨i,j,_,b,c,d,e⟩ y a=>?_;rcases qN.1 a with rfl|a
 .exact d.mono b
 .exact(e y a).mono c
end
theorem acR(n:Int):cD n 4=[b8 (zp n (2^24)),b8 (zp n (2^16)),b8 (zp n (2^8)),b8 n]:=by
 have e:zp n (2^0)=n:=n4
 show[b8 (zp n (2^24)),b8 (zp n (2^16)),b8 (zp n (2^8)),b8 (zp n (2^0))]=_;rw[e]
theorem Vq(seq a c:Int)(b:Sl)(l:aT)(h:hY)(m:Rd h b 1 aq l)(u:m8 l<=2^20):aj xT 104 #[xJ xP seq,xJ xP a,xJ xP c,b] h λv h'=>∃r:Sl,v=r/\Sp h h' [ai 5 r 1 aq (ot seq a c l)]:=by
 refine ts Tryz.func104 ?_;refine⟨nq,nq,nq,?_⟩;have i:min (24:Int).toNat (qq xP)=24:=rfl;have j:min (16:Int).toNat (qq xP)=16:=rfl;have t:min (8:Int).toNat (qq xP)=8:=rfl;rw[i,j,t,cg,cg,cg,cg,cg,cg,cg];have d:=acR seq;generalize b8 (zp seq (2^24))=c1 at d⊢;generalize b8 (zp seq (2^16))=c2 at d⊢;generalize b8 (zp seq (2^8))=c3 at d⊢;generalize b8 seq=c4 at d⊢;have e:ot seq a c l=eZ 2 ([c1,c2,c3,c4]++([b8 a,b8 c,b8 (b.len:Nat)]++l)):=by unfold ot;rw[d,m.len]
 generalize b8 a=c5 at e⊢;generalize b8 c=c6 at e⊢;generalize b8 (b.len:Nat)=c7 at e⊢;refine(Sp.refl h).lit ag aq cR m9 [c1,c2,c3,c4,c5,c6,c7] m9 (show 7*1<=2^20 by decide) n9 λw x o=>?_;refine o.append ag 0 m9 cR ⟨_,_,m9,m9⟩ m9 nq (λ_=>rfl) (Seq.up m o.ac) cH n2 λq n k=>?_;have p:Rd n q 1 aq ([c1,c2,c3,c4,c5,c6,c7]++l):=k.seq 0 m9 λ_=>rfl;have f:([c1,c2,c3,c4,c5,c6,c7]++l).length<=2^40:=n2
 rw[e];have g:[c1,c2,c3,c4,c5,c6,c7]++l=[c1,c2,c3,c4]++([c5,c6,c7]++l):=rfl;rw[<-g];generalize [c1,c2,c3,c4,c5,c6,c7]++l=ll at p f⊢;refine(Dt 2 q ll n p f).Hf λr h3 s=>⟨r,m9,r,m9,(aa.comp (Sp.zip k.ac) s)⟩
theorem lV(x:bc)(m:aB)(h:hY)(z:cv h x m)(y:bM m):aj xT 39 #[cC x] h λv h'=>∃r:Sl,v=r/\Sp h h' [cj r (bG m)]:=by
 refine ts Tryz.func39 ?_ (F8 (F8 (F8 (F8 (F9 [(5,bJ),(16,aI)] [(5,8),(16,39)]))))) (args:=[x]);refine(Sp.refl h).boxed λP I s=>?_;refine⟨x,(s.box 0 m9).aw _ m9,(Vp x m I (z.up s.ac) y).Hf λb R M=>?_⟩;have j:=s.comp M;have w:=uq m y;obtain⟨l,k⟩:=HF (gG m)
 rw[<-k]at j w;have F:=(j.own 1 m9).len;have p:=(j.own 1 m9).cap;refine⟨b,m9,nq,?_⟩;have f:qd xP (yN (qd xP ((qd xP (((b.len:Nat):Int)+(48:Int)))-(1:Int))) (48:Int))=(fl l:Int):=by rw[af ((b.len:Int)+48),af ((b.len:Int)+48-1),yD nb];unfold fl;rw[af (((b.len:Int)+48-1)/48)];omega
 have K:fl l<=3000:=by unfold fl;omega
 rw[f];obtain⟨g,a⟩:∃g:dT,g=bG m:=⟨_,rfl⟩
 have E:m8 g=fl l:=by rw[a,k];simp[bG]
 have d:=j.kf 41 5 1 aq;refine ak (λt:Sl×Nat=>(t.1,(t.2:Int))) (λt h'=>t.2<=fl l/\Sp h h' [cj t.1 (g.take t.2),an P 27 (aD x),ai 5 b 1 aq l]) (λt=>fl l-t.2) (⟨eH,0,0⟩,0) m9 ⟨n4,d⟩ ?_;rintro⟨o,i⟩ h3 ⟨T,d⟩;dsimp only at*;refine ae (λe=>?_) (λe=>?_)
 .have q:i<fl l:=nb
  have D:48*i<m8 l:=by unfold fl at q;omega
  rw[af ((i:Int)*48),af ((i:Int)+1),af (((i:Int)+1)*48)];obtain⟨c,J⟩:∃c:Nat,c=min (48*i+48) l.length:=⟨_,rfl⟩
  have u:(if((i:Int)+1)*48<((b.len:Nat):Int)then((i:Int)+1)*48 else((b.len:Nat):Int))=(c:Int):=by split<;>omega
  rw[u];refine⟨m.seq,by rw[<-z.seq];exact(d.box 1 m9).cell0 m9,⟨nb,nb,nb⟩,?_⟩;have N:((i:Int)*48).toNat=48*i:=nb
  rw[N,qi];have B:=((d.seq 2 m9 λ_=>rfl).drop (48*i) p).take (c-48*i) o6;have e2:(l.drop (48*i)).take (c-48*i)=(l.drop (48*i)).take 48:=by
   by_cases S:48*i+48<=m8 l
   .rw[show c-48*i=48 by omega]
   .rw[qh o6,qh o6]
  rw[e2,zG]at B;refine(Vq m.seq i (fl l) ⟨_,c-48*i,b.cap-48*i⟩ _ h3 (by rw[zG];exact B) n2).Hf λr U G=>?_;have A:=(d.bS G).aF 4 [1,0,2,3];refine⟨r,m9,I0,?_⟩;refine A.ko ag bv cO m9 [r] m9 (show 1*1<=2^20 by decide) m9 I0 ?_;refine A.nQ ag cO n2 λH Q O=>⟨I0,?_⟩
  refine⟨(H,i+1),m9,⟨n1,?_⟩,n1⟩
  try dsimp only
  rw[aA _ _ (show i<m8 g by omega)];have L:g[i]'nb=ot m.seq i (fl l) ((l.drop (48*i)).take 48):=by subst a;subst k;simp[bG]
  rw[L];exact O
 .rw[qh nb,a]at d;exact⟨o,m9,d.bs [0]⟩
theorem ON(s:Sl)(a:List dM)(h:hY)(c:Rd h s 4 bf a)(g:m8 a<=2^30):aj xT 155 #[s] h λv h'=>∃r:Sl,v=r/\Sp h h' [ai 83 r 4 bf a]:=by
 refine ts Tryz.func155 ?_;refine aS (λe=>?_) (λe=>?_)
 .have:=c.isNil e;subst this;exact⟨⟨eH,0,0⟩,m9,(Sp.refl h).nil 83 4 bf⟩
 .refine(Sp.refl h).lit ag bf mS m9 ([]:List dM) m9 nq m9 λj k b=>?_;refine b.append ag 0 m9 mS ⟨_,_,m9,m9⟩ m9 nq (λ_=>rfl) (Seq.up c b.ac) AL n2 λf i d=>?_;exact⟨f,m9,d⟩
def EG(pool:List (Sl×aC))(p:dM×Qw.cZ):Prop:=(p.1.1=p.2.name/\p.1.2.1=p.2.object/\p.1.2.2.1=p.2.length)/\(p.1.2.2.2,p.2.tries)∈pool
theorem aa.BF{B:ar}{l h:hY}{As:List HP}{y:bc}{m:aB}{L:List (dM×Qw.cZ)}{pool:List (Sl×aC)}(d:y.1=m.seq/\y.2.1=m.next/\(y.2.2.1,y.2.2.2.1,y.2.2.2.2.1)=m.p/\y.2.2.2.2.2.1=m.extra)(n:L.map zg=m.objs)(s:∀p∈L,EG pool p)
  (H:aa B l h (iL 1 av pool::ai 3 y.2.2.2.2.2.2.1 1 av m.drives::ai 83 y.2.2.2.2.2.2.2 4 bf (L.map qC)::As)):aa B l h (bo y m::As):=by
 have k:=(H.own 2 m9)
 have g:=(H.own 1 m9)
 have A:=((H.freeze 1 m9 λ_=>rfl).freeze 2 m9 λ_=>rfl).kA.kA;refine A.dY 0 m9 λq ⟨I,F,_,b,c,u,w⟩=>?_;obtain⟨G,E,_,o,v,z3,z4⟩:=w;refine⟨d.1,d.2.1,d.2.2.1,d.2.2.2,z3.mono λx i=>c x (o x i),⟨L.map qC,u.mono b,by rw[<-n];simp,λj r e a f=>?_⟩,g.cap,k.cap⟩;rw[<-n]at f;rw[qM]at a f;cases hj:L[j]? with
 |none=>rw[hj]at a;cases a
 |some p=>
  rw[hj]at a f;have z:=z8.inj (show dB p.1=dB r from a);have e2:=z8.inj (show dB p.2=dB e from f);subst z;subst e2;obtain⟨t,D⟩:=s p (wj hj);exact⟨t,(z4 _ D).mono λx i=>c x (v x i)⟩
theorem pS(x:bc)(m:aB)(h:hY)(B:cv h x m)(N:bM m):aj xT 86 #[cC x] h λv h'=>∃(y:bc) (L:List (dM×Qw.cZ)) (pool:List (Sl×aC)),v=cC y/\(y.1=m.seq/\y.2.1=m.next/\(y.2.2.1,y.2.2.2.1,y.2.2.2.2.1)=m.p/\y.2.2.2.2.2.1=m.extra)/\L.map zg=m.objs/\(∀p∈L,EG pool p)/\
  Sp h h' [iL 1 av pool,ai 3 y.2.2.2.2.2.2.1 1 av m.drives,ai 83 y.2.2.2.2.2.2.2 4 bf (L.map qC)]:=by
 refine ts Tryz.func86 ?_ (F8 (G0 [] [(4,12)] (F9 [(15,aI)] [(3,4),(15,31)]))) [(1,(.l [0,1,3,4,2,6,5,7,8,9]))] (args:=[x]);refine(Sp.refl h).boxed λU k H1=>?_;refine H1.alloc ag m9 λT u M=>?_;have E:=M.box 0 m9;have hM:∀{h':hY} {As:List HP},Sp h h' As->cv h' x m:=λ{h' As} H'=>B.up H'.ac;obtain⟨b,P⟩:=ce.fix B.objs;have al:=P.2.1;have ad:=N.dr;have am:=N.ob;refine aE ⟨x.2.2.2.2.2.2.1,E.cell m9,x.2.2.2.2.2.2.2,E.cell m9,?_⟩;refine(jN _ m.drives u (hM M).drives nb).Hf λd h3 V=>?_;have Q:=M.comp V;refine⟨d,m9,⟨(Q.box 0 m9).cell m9,I0⟩,?_⟩;refine(ON _ b h3 (gE.up P Q.ac).1 nb).Hf λo h4 W=>?_;have H4:=Q.comp W;refine⟨o,m9,I0,?_⟩;refine H4.store ag 0 m9 m9 6 [d] m9 m9 m9 o1 λh5 X=>⟨I0,?_⟩
 refine X.store ag 0 m9 m9 7 [o] m9 m9 m9 o1 λh6 s=>⟨I0,?_⟩
 obtain⟨y,z⟩:∃y:bc,y=(x.1,x.2.1,x.2.2.1,x.2.2.2.1,x.2.2.2.2.1,x.2.2.2.2.2.1,d,o):=⟨_,rfl⟩
 have s:Sp h h6 [an U 27 (aD y),an T 27 [xJ xP 0,xJ xP 0,xJ xP 0,xJ xP 0,xJ xP 0,xJ xP 0,xK eH 0 0,xK eH 0 0],ai 3 d 1 av m.drives,ai 83 o 4 bf b]:=by rw[z];exact s
 have c:y.2.2.2.2.2.2.2=o:=by rw[z]
 have R:y.2.2.2.2.2.2.1=d:=by rw[z]
 refine⟨o,by rw[<-c];exact(s.box 0 m9).cell m9,?_⟩;have ab:=(s.own 3 m9).len;have s:=s.EF 1 av;refine ak (λt:List dM×List (Sl×aC)=>(t.1.length:Int)) (λt h'=>t.1.length<=m.objs.length/\(∀(j:Nat) r e,t.1[j]?=dB r->m.objs[j]?=dB e->(r.1=e.name/\r.2.1=e.object/\r.2.2.1=e.length)/\(r.2.2.2,e.tries)∈t.2)/\Sp h h' [iL 1 av t.2,an U 27 (aD y),an T 27 [xJ xP 0,xJ xP 0,xJ xP 0,xJ xP 0,xJ xP 0,xJ xP 0,xK eH 0 0,xK eH 0 0],ai 3 d 1 av m.drives,ai 83 o 4 bf (t.1++b.drop t.1.length)]) (λt=>m.objs.length-t.1.length) ([],[]) m9 ⟨n4,λj r e k=>by simp at k,s⟩ ?_;rintro⟨a,pool⟩ h7 ⟨hi,D,q⟩;dsimp only at*;refine ae (λe=>?_) (λe=>?_)
 .have w:a.length<m.objs.length:=nb
  have F7:=gE.up P q.ac;obtain⟨⟨y1,y2,y3⟩,y4⟩:=Fix.row F7 w;have f:(a++b.drop a.length)[a.length]'(by simp;omega)=b[a.length]'nb:=n4
  obtain⟨O,Y,zz,hc,rfl⟩:=(q.seq 4 rfl λ_=>rfl).cQ (g:=bf) (i:=(a.length:Int)) a.length rfl n2 (b[a.length]'nb) (by rw[f]) (K:=λt=>t=b[a.length]'nb) m9;refine⟨o,by rw[<-c];exact(q.box 1 m9).cell m9,o,by rw[<-c];exact(q.box 1 m9).cell m9,O,Y,_,hc.2.2.2.1,?_⟩;have ah:=(N.nm _ (qe w)).2;refine(jN _ m.objs[a.length].tries h7 y4 nb).Hf λt h8 R8=>?_;have A:=q.bS R8;refine⟨t,m9,⟨by rw[<-c];exact(A.box 2 m9).cell m9,by rw[<-c];exact(A.box 2 m9).cell m9,I0⟩,?_⟩;refine A.XF ag 5 m9 (λ_=>rfl) m9 a.length m9 n2 3 [t] n4 ((b[a.length]'nb).1,(b[a.length]'nb).2.1,(b[a.length]'nb).2.2.1,t) m9 m9 m9 (by rw[f];simp[bf]) λh9 G=>⟨I0,?_⟩
  have G:=(G.freeze 0 m9 λ_=>rfl).aF 6 [1,0,2,3,4,5];have G:=G.IU;refine⟨(a++[((b[a.length]'nb).1,(b[a.length]'nb).2.1,(b[a.length]'nb).2.2.1,t)],(t,m.objs[a.length].tries)::pool),by simp only[qo,List.length_singleton];rw[af _];rfl,⟨n2,λj r e k u=>?_,?_⟩,n2⟩
  .dsimp only at k⊢;by_cases I:j<a.length
   .rw[qu I]at k;obtain⟨g1,g2⟩:=D j r e k u;exact⟨g1,List.mem_cons_of_mem _ g2⟩
   .have S:j=a.length:=by have:=(qm.1 k).1;simp at this;omega
    subst S;rw[qk (qj _),zd]at k;simp at k;rw[qc w]at u;injection u with u
    subst k;subst u;exact⟨⟨y1,y2,y3⟩,List.mem_cons_self⟩
  .try dsimp only
   have e4:(a++b.drop a.length).set a.length ((b[a.length]'nb).1,(b[a.length]'nb).2.1,(b[a.length]'nb).2.2.1,t)=a++[((b[a.length]'nb).1,(b[a.length]'nb).2.1,(b[a.length]'nb).2.2.1,t)]++b.drop (a++[((b[a.length]'nb).1,(b[a.length]'nb).2.1,(b[a.length]'nb).2.2.1,t)]).length:=by rw[qZ _ _ (qj _),zd,qT (show a.length<b.length by omega),zt];simp
   rw[<-e4];exact G
 .have Z:a.length=m.objs.length:=nb
  rw[zh nb,qL]at q;refine⟨y,(q.box 1 m9).aw _ m9,?_⟩;refine q.storeAll ag 2 m9 m9 (aD y) m9 m9 m9 m9 λh8 A=>?_;have J:(a.zip m.objs).map qC=a:=List.map_fst_zip nb;have H:(a.zip m.objs).map zg=m.objs:=xj nb;refine⟨y,(A.box 2 m9).aw _ m9,y,a.zip m.objs,pool,m9,⟨by rw[z];exact B.seq,by rw[z];exact B.next,by rw[z];exact B.p,by rw[z];exact B.extra⟩,H,λp hp=>?_,?_⟩
  .obtain⟨j,I,rfl⟩:=qD hp;have F:j<a.length/\j<m.objs.length:=by simp at I;omega
   have:=D j _ _ (qc F.1) (qc F.2);rw[yl];exact this
  .rw[J,R,c];exact A.bs [0,3,4]
theorem BG(x:bc)(m:aB)(h:hY)(c:cv h x m)(b:bM m):aj xT 86 #[cC x] h λv h'=>∃y:bc,v=cC y/\Sp h h' [bo y m]:=by refine(pS x m h c b).mono ?_;rintro _ h' ⟨y,L,pool,rfl,d,a,e,H⟩;exact⟨y,m9,aa.BF d a e H⟩
abbrev bw:=Int×Int×Int×Int×Int×Int×Int×Sl
abbrev bB(x:bw):aR:=[xJ xP x.1,xJ xP x.2.1,xJ xP x.2.2.1,xJ xP x.2.2.2.1,xJ xP x.2.2.2.2.1,xJ xP x.2.2.2.2.2.1,xJ xR x.2.2.2.2.2.2.1,x.2.2.2.2.2.2.2]
abbrev recv(x:bw):Value:=xO #[xJ xP x.1,xJ xP x.2.1,xJ xP x.2.2.1,xJ xP x.2.2.2.1,xJ xP x.2.2.2.2.1,xJ xP x.2.2.2.2.2.1,xJ xR x.2.2.2.2.2.2.1,x.2.2.2.2.2.2.2]
theorem QI:∀x,∀c∈bB x,c.oneCell'=eL:=by intro x c a;simp[bB]at a;rcases a with rfl|rfl|rfl|rfl|rfl|rfl|rfl|rfl<;>rfl
def ki(x y:Int):Int:=if x<y then-1 else if x>y then 1 else 0
def lW(a b:bw):Int:=if ki a.1 b.1≠0 then ki a.1 b.1 else if ki a.2.1 b.2.1≠0 then ki a.2.1 b.2.1 else ki a.2.2.1 b.2.2.1
def cJ(a b:bw):Bool:=decide (lW a b<=0)
theorem jy(x y:Int):(x<y/\ki x y=-1)∨(x>y/\ki x y=1)∨(x=y/\ki x y=0):=by
 unfold ki;by_cases a:x<y
 .exact .inl ⟨a,hZ a⟩
 .by_cases b:x>y
  .exact .inr (.inl ⟨b,by rw[k4 a,hZ b]⟩)
  .exact .inr (.inr ⟨nb,by rw[k4 a,k4 b]⟩)
theorem AM(a b:bw):lW a b<=0↔a.1<b.1∨(a.1=b.1/\(a.2.1<b.2.1∨(a.2.1=b.2.1/\a.2.2.1<=b.2.2.1))):=by
 unfold lW;rcases jy a.1 b.1 with⟨h1,e1⟩|⟨h1,e1⟩|⟨h1,e1⟩
 .rw[e1,hZ nq];omega
 .rw[e1,hZ nq];omega
 .rw[e1,k4 nq];rcases jy a.2.1 b.2.1 with⟨h2,e2⟩|⟨h2,e2⟩|⟨h2,e2⟩
  .rw[e2,hZ nq];omega
  .rw[e2,hZ nq];omega
  .rw[e2,k4 nq];rcases jy a.2.2.1 b.2.2.1 with⟨h3,e3⟩|⟨h3,e3⟩|⟨h3,e3⟩<;>rw[e3]<;>omega
theorem pT(a b:bw):lW a b<0↔¬cJ b a=eL:=by
 unfold cJ;rw[decide_eq_true_eq,AM];unfold lW;rcases jy a.1 b.1 with⟨h1,e1⟩|⟨h1,e1⟩|⟨h1,e1⟩
 .rw[e1,hZ nq];omega
 .rw[e1,hZ nq];omega
 .rw[e1,k4 nq];rcases jy a.2.1 b.2.1 with⟨h2,e2⟩|⟨h2,e2⟩|⟨h2,e2⟩
  .rw[e2,hZ nq];omega
  .rw[e2,hZ nq];omega
  .rw[e2,k4 nq];rcases jy a.2.2.1 b.2.2.1 with⟨h3,e3⟩|⟨h3,e3⟩|⟨h3,e3⟩<;>rw[e3]<;>omega
theorem Vr(a b:bw):lW a b=0↔(a.1=b.1/\a.2.1=b.2.1/\a.2.2.1=b.2.2.1):=by
 unfold lW;rcases jy a.1 b.1 with⟨h1,e1⟩|⟨h1,e1⟩|⟨h1,e1⟩
 .rw[e1,hZ nq];omega
 .rw[e1,hZ nq];omega
 .rw[e1,k4 nq];rcases jy a.2.1 b.2.1 with⟨h2,e2⟩|⟨h2,e2⟩|⟨h2,e2⟩
  .rw[e2,hZ nq];omega
  .rw[e2,hZ nq];omega
  .rw[e2,k4 nq];rcases jy a.2.2.1 b.2.2.1 with⟨h3,e3⟩|⟨h3,e3⟩|⟨h3,e3⟩<;>rw[e3]<;>omega
theorem eJ:Ord cJ:=⟨λa b c e d=>by
 unfold cJ at*;rw[decide_eq_true_eq,AM]at*;omega,λa b=>by
 unfold cJ;rw[Bool.or_eq_true,decide_eq_true_eq,decide_eq_true_eq,AM,AM];omega⟩
theorem MH{α:Type}(A B C:List α)(x y:α){i j:Nat}(c:i=m8 A)(b:j=m8 A+1+m8 B):
  (A++x::(B++y::C))[i]?=dB x/\(A++x::(B++y::C))[j]?=dB y/\((A++x::(B++y::C)).set i y).set j x=A++y::(B++x::C)/\((A++x::(B++y::C)).set j x).set i y=A++y::(B++x::C):=by
 subst c;subst b;have a:m8 A+1+m8 B-m8 A=m8 B+1:=nb
 refine⟨by rw[qk (qj _),zd];rfl,?_,?_,?_⟩
 .rw[qk nb,a,qO,qk (qj _),zd];rfl
 .rw[qZ _ _ (qj _),zd,zt,qZ _ _ nb,a,wZ,qZ _ _ (qj _),zd,zt]
 .rw[qZ _ _ (show A.length<=m8 A+1+m8 B by omega),a,wZ,qZ _ _ (qj _),zd,zt,qZ _ _ (qj _),zd,zt]
abbrev BH:bO C.toAA 125 128 8 [xJ xP 0,xJ xP 0,xJ xP 0,xJ xP 0,xJ xP 0,xJ xP 0,xJ xR 0,xK eH 0 0] 80:=⟨_,_,m9,m9,m9,m9,m9,m9⟩
theorem sw(x y:Int)(h:hY):aj xT 244 #[xJ xP x,xJ xP y] h λv h'=>v=xJ xP (ki x y)/\h'=h:=by
 refine ts Tryz.func244 ?_;have a:∀z:Int,aj xT 313 #[xJ xP z] h λv h'=>v=xN eR/\h'=h:=λz=>by
  refine ts Tryz.func313 ?_;exact⟨n4,m9⟩
 refine(a x).G6 ⟨_,m9,(a y).G6 ?_⟩;refine⟨_,m9,aS (λe=>n5) λ_=>aS (λe=>n5) λ_=>?_⟩;refine ae (λe=>⟨by rw[ki,hZ e],m9⟩) λe=>ae (λe2=>⟨by rw[ki,k4 e,hZ e2],m9⟩) λe2=>⟨by rw[ki,k4 e,k4 e2],m9⟩
theorem pi(a b:bw)(h:hY):aj xT 171 #[recv a,recv b] h λv h'=>v=xJ xP (lW a b)/\Sp h h' []:=by
 refine ts Tryz.func171 ?_ E6 [(1,(.l [0,1,2,3,5,6,7,8,10,11,12,13,4,9,14,15,16,17]))] (args:=[a,b]);refine(Sp.refl h).boxed λD M J=>J.boxed λB g m=>?_;have q:=m.box 0 m9;have r:=m.box 1 m9;have y:hU g (D.add 1)=dB (xJ xP a.2.1):=q.cell m9;have E:hU g (B.add 1)=dB (xJ xP b.2.1):=r.cell m9;have c3:hU g (D.add 2)=dB (xJ xP a.2.2.1):=q.cell m9;have w:hU g (B.add 2)=dB (xJ xP b.2.2.1):=r.cell m9;refine⟨a.1,q.cell0 m9,b.1,r.cell0 m9,a.2.1,y,b.2.1,E,a.2.2.1,c3,b.2.2.1,w,(sw _ _ g).G6 ?_⟩;refine⟨_,m9,⟨w,c3,E,y,I0⟩,(sw _ _ _).G6 ?_⟩;refine⟨_,m9,⟨w,c3,I0⟩,(sw _ _ _).G6 ?_⟩;refine⟨_,m9,I0,?_⟩;refine m.ko ag av ⟨_,_,m9,m9,m9,m9,m9,m9⟩ m9 [ki a.1 b.1,ki a.2.1 b.2.1,ki a.2.2.1 b.2.2.1] m9 (show 3*1<=2^20 by decide) m9 I0 ?_;refine m.lit ag av ⟨_,_,m9,m9,m9,m9,m9,m9⟩ m9 [ki a.1 b.1,ki a.2.1 b.2.1,ki a.2.2.1 b.2.2.1] m9 (show 3*1<=2^20 by decide) m9 λp z t=>?_;refine(AK p (R:=λv h'=>v=xJ xP (lW a b)/\h'=z) ?_).mono ?_
 .skip
  have A:=t.seq 2 m9 λ_=>rfl;have F:=(t.own 2 m9).len;obtain⟨L,d⟩:=HF ([ki a.1 b.1,ki a.2.1 b.2.1,ki a.2.2.1 b.2.2.1])
  rw[<-d]at A F;have H:m8 L=3:=by rw[d];rfl
  refine ak (λi:Nat=>(i:Int)) (λi h'=>i<=3/\(∀j,j<i->L[j]?=dB 0)/\h'=z) (λi=>3-i) 0 m9 ⟨nb,nb,m9⟩ ?_;rintro i I ⟨O,o,rfl⟩;have c:=λh0=>by have:=o 0 h0;rw[d]at this;simpa using this
  have k:=λh0=>by have:=o 1 h0;rw[d]at this;simpa using this
  have x:=λh0=>by have:=o 2 h0;rw[d]at this;simpa using this
  refine ae (λe=>?_) (λe=>?_)
  .have f:i<m8 L:=by have G:=e;omega
   refine A.aW i m9 f L[i] m9 ?_;refine bm (λe2=>⟨?_,m9⟩) (λe2=>?_)
   .congr 1;unfold lW;have:i=0∨i=1∨i=2:=nb
    subst d;rcases this with rfl|rfl|rfl
    .exact(hZ (e2)).symm
    .rw[k4 (by rw[c nb];simp)];exact(hZ (e2)).symm
    .rw[k4 (by rw[c nb];simp),k4 (by rw[k nb];simp)];rfl
   .refine⟨i+1,n7,⟨nb,λj N=>?_,m9⟩,nb⟩;by_cases s:j=i
    .subst s;rw[qc f,e2]
    .exact o j nb
  .have u:i=3:=by have G:=e;omega
   subst u;refine⟨?_,m9⟩;unfold lW;rw[c nb,k nb,x nb];rfl
 .rintro _ I ⟨rfl,rfl⟩;exact⟨_,m9,I0,m9,.zip t.ac⟩
abbrev bV(s:Sl)(d:List bw):HP:=ai 128 s 8 bB d
section
variable {d:List bw}
theorem pU(X U M V Y:List bw)(n:Nat)(a b:Int)(R:m8 U=n)(Q:m8 V=n)(K:a=(m8 X:Int))(F:b=(m8 X+n+m8 M:Nat))(L:m8 X+n+m8 M+n+m8 Y<=2^40)(H:aa B h0 h (bV s (X++(U++(M++(V++Y))))::As)):
  aj xT 385 #[s,xJ xP a,xJ xP b,xJ xP n,.func (.func 171) #[] #[]] h λv h'=>v=.tuple #[]/\aa B h0 h' (bV s (X++(V++(M++(U++Y))))::As):=by
 refine ts Tryz.func385 ?_ (F8 (E7 (E8 [(10,aI)] [(10,38)] E6))) (args:=[s,(a:Int),(b:Int),(n:Int),(.func (.func 171) #[] #[])]);subst K;subst F;refine ak (λk:Nat=>(k:Int)) (λk h'=>k<=n/\aa B h0 h' (bV s (X++(V.take k++U.drop k++(M++(U.take k++V.drop k++Y))))::As)) (λk=>n-k) 0 m9 ⟨nb,tg⟩ ?_;rintro k O ⟨N,d⟩;refine ae (λe=>?_) (λe=>?_)
 .have I:k<n:=nb
  have m:k<m8 U:=nb
  have l:k<m8 V:=nb
  have f:X++(V.take k++U.drop k++(M++(U.take k++V.drop k++Y)))=(X++V.take k)++U[k]::((U.drop (k+1)++(M++U.take k))++V[k]::(V.drop (k+1)++Y)):=by rw[qT m,qT l];simp only[ql,zD,wX]
  have c:X++(V.take (k+1)++U.drop (k+1)++(M++(U.take (k+1)++V.drop (k+1)++Y)))=(X++V.take k)++V[k]::((U.drop (k+1)++(M++U.take k))++U[k]::(V.drop (k+1)++Y)):=by rw[aA V k l,aA U k m];simp only[ql,zD,wX]
  rw[f]at d;obtain⟨x,u,w,A⟩:=MH (X++V.take k) (U.drop (k+1)++(M++U.take k)) (V.drop (k+1)++Y) U[k] V[k] (i:=m8 X+k) (j:=m8 X+n+m8 M+k) n2 n2;obtain⟨D,G⟩:=HF ((X++V.take k)++U[k]::((U.drop (k+1)++(M++U.take k))++V[k]::(V.drop (k+1)++Y)))
  rw[<-G]at d x u w A;have p:=(qm.1 x)
  have t:=(qm.1 u)
  obtain⟨g,q⟩:=p;obtain⟨o,r⟩:=t;have z:qd xP ((m8 X:Int)+k)=((m8 X+k:Nat):Int):=o0
  have E:qd xP (((m8 X+n+m8 M:Nat):Int)+k)=((m8 X+n+m8 M+k:Nat):Int):=o0
  rw[z,E];refine(d.seq 0 m9 λ_=>rfl).cQ _ m9 o V[k] (by rw[r]) ?_;refine(d.seq 0 m9 λ_=>rfl).cQ _ m9 g U[k] (by rw[q]) ?_;refine d.set ag 0 m9 (λ_=>rfl) m9 (m8 X+k) m9 g V[k] m9 m9 m9 λP y=>⟨I0,?_⟩
  refine y.set ag 0 m9 (λ_=>rfl) m9 (m8 X+n+m8 M+k) m9 B3 U[k] m9 m9 m9 λh3 J=>⟨I0,?_⟩
  refine⟨k+1,n7,⟨nb,?_⟩,nb⟩;rw[c,<-w];exact J
 .have:k=n:=nb
  subst this;rw[qh nb,zh nb,qh nb,zh nb]at d;refine⟨m9,?_⟩;simpa using d
theorem OO(X U V Y:List bw)(a m b:Int)(D:0<m8 U)(K:0<m8 V)(G:a=(m8 X:Int))(x:m=(m8 X+m8 U:Nat))(F:b=(m8 X+m8 U+m8 V:Nat))(M:m8 X+m8 U+m8 V+m8 Y<=2^40)(H:aa B h0 h (bV s (X++(U++(V++Y)))::As)):
  aj xT 356 #[s,xJ xP a,xJ xP m,xJ xP b,.func (.func 171) #[] #[]] h λv h'=>v=.tuple #[]/\aa B h0 h' (bV s (X++(V++(U++Y)))::As):=by
 refine ts Tryz.func356 ?_ (F8 (F8 (E5 (E7 (E8 [(10,aI),(11,aI)] [(10,12),(18,50)] E6)) E6))) (args:=[s,(a:Int),(m:Int),(b:Int),(.func (.func 171) #[] #[])]);subst G;subst x;subst F;have J:qd xP (((m8 X+m8 U:Nat):Int)-m8 X)=(m8 U:Int):=o0
 have e2:qd xP (((m8 X+m8 U+m8 V:Nat):Int)-(m8 X+m8 U:Nat))=(m8 V:Int):=o0
 rw[J,e2];refine ak (λt:List bw×List bw×List bw×List bw=>((m8 t.2.1:Int),(m8 t.2.2.1:Int))) (λt h'=>0<m8 t.2.1/\0<m8 t.2.2.1/\X.length+m8 t.1+m8 t.2.1=m8 X+m8 U/\V++U=t.1++((t.2.2.1++t.2.1)++t.2.2.2)/\aa B h0 h' (bV s (X++(t.1++(t.2.1++(t.2.2.1++(t.2.2.2++Y)))))::As)) (λt=>m8 t.2.1+m8 t.2.2.1) ([],U,V,[]) m9 ⟨D,K,n4,n4,tg⟩ ?_;rintro⟨P,A,c,Q⟩ q ⟨R,N,x,p,r⟩;dsimp only at*;have l:=congrArg xr p;simp only[qo]at l;refine bm (λe=>ae (λI=>?_) λI=>?_) (λe=>?_)
 .--the left one is longer
  have u:m8 c<m8 A:=nb
  have L:A=A.take c.length++A.drop c.length:=(qA _ _).symm;have i:(A.take c.length).length=m8 c:=n2
  have g:qd xP (((m8 X+m8 U:Nat):Int)-m8 A)=((X++P).length:Int):=by rw[af _];simp;omega
  rw[g];have d:aa B h0 q (bV s ((X++P)++(A.take c.length++(A.drop c.length++(c++(Q++Y)))))::As):=by
   have:(X++P)++(A.take c.length++(A.drop c.length++(c++(Q++Y))))=X++(P++(A++(c++(Q++Y)))):=by
    conv=>rhs;rw[L]
    simp only[ql,zD,wX]
   rw[this];exact r
  refine(pU (X++P) (A.take c.length) (A.drop c.length) c (Q++Y) c.length _ _ i m9 m9 n2 n2 d).G7 λy f=>⟨(),m9,(P++c,A.drop c.length,A.take c.length,Q),?_,⟨qb,n1,qb,?_,?_⟩,qb⟩
  .try dsimp only
   rw[i,af _];simp;omega
  .try dsimp only
   rw[p,qA];simp
  .try dsimp only
   have:X++((P++c)++(A.drop c.length++(A.take c.length++(Q++Y))))=(X++P)++(c++(A.drop c.length++(A.take c.length++(Q++Y)))):=n4
   rw[this];exact f
 .have u:m8 A<m8 c:=nb
  obtain⟨j,O⟩:=HF (m8 c-m8 A)
  have E:c=c.take j++c.drop j:=(qA _ _).symm;have k:(c.drop j).length=m8 A:=n2
  have o:(c.take j).length=j:=n2
  have g:qd xP (((m8 X+m8 U:Nat):Int)-m8 A)=((X++P).length:Int):=by rw[af _];simp;omega
  have z:qd xP ((qd xP (((m8 X+m8 U:Nat):Int)+m8 c))-m8 A)=(((X++P).length+m8 A+(c.take j).length:Nat):Int):=by rw[af (((m8 X+m8 U:Nat):Int)+m8 c),af _,o];simp;omega
  rw[g,z];have d:aa B h0 q (bV s ((X++P)++(A++(c.take j++(c.drop j++(Q++Y)))))::As):=by
   have:(X++P)++(A++(c.take j++(c.drop j++(Q++Y))))=X++(P++(A++(c++(Q++Y)))):=by
    conv=>rhs;rw[E]
    simp only[ql,zD,wX]
   rw[this];exact r
  refine(pU (X++P) A (c.take j) (c.drop j) (Q++Y) A.length _ _ m9 k m9 m9 n2 d).G7 λy f=>⟨(),m9,(P,c.drop j,c.take j,A++Q),?_,⟨n1,n1,n1,?_,?_⟩,n1⟩
  .try dsimp only
   rw[o,k,af _];congr 1;omega
  .try dsimp only
   rw[p,qA];simp
  .try dsimp only
   have:X++(P++(c.drop j++(c.take j++((A++Q)++Y))))=(X++P)++(c.drop j++(c.take j++(A++(Q++Y)))):=n4
   rw[this];exact f
 .have w:m8 A=m8 c:=nb
  have g:qd xP (((m8 X+m8 U:Nat):Int)-m8 A)=((X++P).length:Int):=by rw[af _];simp;omega
  rw[g];have d:aa B h0 q (bV s ((X++P)++(A++([]++(c++(Q++Y)))))::As):=by
   have:(X++P)++(A++([]++(c++(Q++Y))))=X++(P++(A++(c++(Q++Y)))):=n4
   rw[this];exact r
  refine(pU (X++P) A [] c (Q++Y) A.length _ _ m9 w.symm m9 n2 n2 d).G7 λy f=>⟨(),m9,m9,?_⟩;have:X++(V++(U++Y))=(X++P)++(c++([]++(A++(Q++Y)))):=by
   have:V++(U++Y)=(V++U)++Y:=n4
   rw[this,p];simp
  rw[this];exact f
end
theorem He(l:aT)(x:UInt8):dp (l++[x])=dp l*256+x.toNat:=by unfold dp;rw[wB];rfl
theorem BI:∀l:aT,m8 l<=4->0<=dp l/\dp l<4294967296/\(m8 l<=3->dp l<16777216)
 |[],_=>by simp[dp]
 |[a],_=>by have:=a.toNat_lt;simp only[dp,zO,vU];omega
 |[a,b],_=>by have:=a.toNat_lt;have:=b.toNat_lt;simp only[dp,zO,vU];omega
 |[a,b,c],_=>by have:=a.toNat_lt;have:=b.toNat_lt;have:=c.toNat_lt;simp only[dp,zO,vU];omega
 |[a,b,c,d],_=>by have:=a.toNat_lt;have:=b.toNat_lt;have:=c.toNat_lt;have:=d.toNat_lt;simp only[dp,zO,vU,q7,wL];omega
 |_::_::_::_::_::_,h=>C9
theorem Vs(n x:Nat)(f:n<2^32:=by omega)(e:x<256:=by omega):qd xP (((qF (qq xP) (qd xP ((n:Int)*2^min (8:Int).toNat (qq xP)))|||qF (qq xP) (qd xP (x:Int))).toNat:Nat):Int)=(n:Int)*256+x:=by
 have a:min (8:Int).toNat (qq xP)=8:=rfl;rw[a];have c:qd xP ((n:Int)*2^8)=((n*256:Nat):Int):=by rw[Qw.af _];omega
 have e2:qd xP (x:Int)=((x:Nat):Int):=Qw.af _;rw[c,e2];have d:(qF (qq xP) ((n*256:Nat):Int)|||qF (qq xP) ((x:Nat):Int)).toNat=n*256+x:=by show((qF 64 ((n*256:Nat):Int)|||qF 64 ((x:Nat):Int):BitVec 64)).toNat=n*256+x;rw[BitVec.toNat_or,wH,wH,BitVec.toNat_ofNat,BitVec.toNat_ofNat,yS nb,yS nb];have:=Nat.shiftLeft_add_eq_or_of_lt (b:=x) (i:=8) nb n;rw[Nat.shiftLeft_eq,show(2:Nat)^8=256 from rfl]at this;omega
 rw[d,Qw.af _];omega
def cK:jq bw ct:=⟨λh q a b=>(a.1=b.object/\a.2.1=b.block/\a.2.2.1=b.id/\(a.2.2.2.1,a.2.2.2.2.1,a.2.2.2.2.2.1)=b.p/\a.2.2.2.2.2.2.1=b.seed/\0<=b.seed/\b.seed<4294967296)/\Seq h q a.2.2.2.2.2.2.2 1 aq b.data,λa d=>⟨a.1,a.2.ac d⟩,λa c=>⟨a.1,a.2.mono c⟩⟩
theorem ur{p q:ar}(a b:Sl)(c d:aT)(h:hY)(f:Seq h p a 1 aq c)(e:Seq h q b 1 aq d):
  aj xT 220 #[a,b] h λv h'=>v=xN (decide (c=d))/\h'=h:=by
 refine ts Tryz.func220 ?_;refine Qp ag ⟨_,m9,m9⟩ ⟨_,m9,m9⟩ ⟨_,m9,m9⟩ f (Qp ag ⟨_,m9,m9⟩ ⟨_,m9,m9⟩ ⟨_,m9,m9⟩ e ⟨?_,m9⟩);rw[ByteArray.toList_mk,ByteArray.toList_mk];have:(c==d)=decide (c=d):=by rw[Bool.eq_iff_iff];simp
 rw[this]
theorem SJ(b:Sl)(c:aT)(h:hY)(g:Rd h b 1 aq c)(z:m8 c<=2^30)(d:b.len<=b.cap):
  aj xT 238 #[b] h λv h'=>(gH c=eH->v=.tuple #[xJ xP 0,xK eH 0 0,xN eR]/\Sp h h' [])/\
   ∀k x,gH c=dB (k,x)->∃r:Sl,v=.tuple #[xJ xP k,r,xN eL]/\Sp h h' [ai 5 r 1 aq x]:=by
 refine ts Tryz.func238 ?_;have w:=g.len;refine bm (λe=>?_) (λe=>?_)
 .have:gH c=eH:=by unfold gH;rw[k4 λa=>e nb]
  rw[this];exact⟨λ_=>⟨m9,Sp.refl h⟩,λk x h=>p9⟩
 have m:m8 c=64:=nb
 have h3:3<m8 c:=nb
 refine g.nO 3 m9 h3 ((c.getD 3 0).toNat:Int) (by rw[getD_lt h3];rfl) λA o=>⟨⟨nq,nq,nb⟩,?_⟩
 have f:=(g.drop 4 d).take 55 n2;have p:((c.drop 4).take 55).length=55:=n2
 refine(fW ⟨_,55,b.cap-4⟩ ((c.drop 4).take 55) h f).Hf λr t n=>⟨r,m9,gP n.ac ⟨o,I0⟩,?_⟩;have y:=(c.getD 3 0).toNat_lt;rw[af ((c.getD 3 0).toNat:Int)];refine(Dt ((c.getD 3 0).toNat:Int) r ((c.drop 4).take 55) t (n.seq 0 m9 λ_=>rfl)).Hf λq u s=>?_;have i:=n.comp s;refine⟨q,m9,(ur b q c _ u (g.up i.ac) (i.seq 1 m9 λ_=>rfl)).G6 ?_⟩;refine⟨_,m9,aH (λe2=>?_) λe2=>?_⟩
 .have j:c≠eZ ((c.getD 3 0).toNat:Int) ((c.drop 4).take 55):=of_decide_eq_false e2;have:gH c=eH:=by unfold gH;rw[k4 λa=>j a.2.symm]
  rw[this];exact⟨λ_=>⟨m9,.zip i.ac⟩,λk x h=>p9⟩
 .have l:c=eZ ((c.getD 3 0).toNat:Int) ((c.drop 4).take 55):=m6 e2;have:gH c=dB (((c.getD 3 0).toNat:Int),(c.drop 4).take 55):=by unfold gH;rw[hZ ⟨m,l.symm⟩]
  rw[this];refine⟨λh=>p9,λk x a=>?_⟩;injection a with a
  injection a with hh1 hh2
  subst hh1;subst hh2;exact⟨r,m9,i.bs [0]⟩
theorem JT(b:Sl)(l:aT)(h:hY)(d:Rd h b 1 aq l)(k:m8 l<=4):aj xT 239 #[b] h λv h'=>v=xJ xP (dp l)/\h'=h:=by
 refine ts Tryz.func239 ?_ (F8 (F8 (F9 [(3,aI),(8,aI)] [(3,4),(5,6),(8,18)])));have f:=d.len;refine ak (λi:Nat=>(dp (l.take i),(i:Int))) (λi h'=>i<=m8 l/\h'=h) (λi=>m8 l-i) 0 m9 ⟨nb,m9⟩ ?_;rintro i o ⟨p,rfl⟩
 try dsimp only
 refine ae (λe=>?_) (λe=>?_)
 .have a:i<m8 l:=nb
  refine d.aW i m9 a (l[i].toNat:Int) m9 ⟨nq,?_⟩;have c:=(BI (l.take i) n2)
  have j:=c.2.2 n2;have m:=l[i].toNat_lt;obtain⟨n,g⟩:∃n:Nat,dp (l.take i)=(n:Int):=⟨(dp (l.take i)).toNat,nb⟩
  refine⟨i+1,?_,⟨nb,m9⟩,nb⟩;rw[aA _ _ a,He,g,Vs n _,af ((i:Int)+1)];rfl
 .rw[qh nb];exact⟨m9,m9⟩
theorem EZ(x:bw)(r:ct)(h:hY)(A:fm cK h x r):aj xT 240 #[recv x] h λv h'=>v=xN (jR r)/\Sp h h' []:=by
 refine ts Tryz.func240 ?_ (F8 (G0 [(3,mR)] [(3,32)] E6)) (args:=[x]);obtain⟨⟨I,e2,H,m,K,_⟩,E⟩:=A;have s:x.2.2.2.1=r.p.1:=congrArg (·.1) m;have l:x.2.2.2.2.1=r.p.2.1:=congrArg (·.2.1) m;have d:x.2.2.2.2.2.1=r.p.2.2:=congrArg (·.2.2) m;have a:=Seq.len E;refine(Sp.refl h).boxed λk j q=>?_;have i:=q.box 0 m9;have w:hU j k=dB (xJ xP r.object):=by rw[<-I];exact i.cell0 m9
 have u:hU j (k.add 1)=dB (xJ xP r.block):=by rw[<-e2];exact i.cell m9
 have z:hU j (k.add 2)=dB (xJ xP r.id):=by rw[<-H];exact i.cell m9
 have y:∀{h':hY},Sp h h' [an k 128 (bB x)]->(jR r=eL->False)->Value.bool eR=xN (jR r)/\Sp h h' []:=λ{h'} H' hn=>⟨by cases hq:jR r with|false=>rfl|true=>exact absurd hq hn,.zip H'.ac⟩
 refine bn (λb h'=>b=decide ((0<=r.object/\r.object<=16777215)/\(0<=r.block/\r.block<=7)/\(0<=r.id/\r.id<=65535))/\h'=j) ?_ ?_
 .refine⟨_,w,ae (λG=>⟨_,w,ae (λe=>⟨_,u,ae (λJ=>⟨_,u,ae (λF=>⟨_,z,ae (λB=>⟨_,z,?_,m9⟩) λB=>⟨?_,m9⟩⟩) λF=>⟨?_,m9⟩⟩) λJ=>⟨?_,m9⟩⟩) λe=>⟨?_,m9⟩⟩) λG=>⟨?_,m9⟩⟩
  .rw[decide_eq_decide];omega
  all_goals (symm;rw[decide_eq_false_iff_not];omega)
 .rintro _ _ ⟨rfl,rfl⟩;refine ae (λg=>?_) λg=>y q λo=>g (by have:=(jS r).1 o;omega);refine⟨r.p,by rw[<-s,<-l,<-d];exact i.mE 3 m9 m9 m9,(fe r.p _).G7 λh3 D=>?_⟩;have t:=q.up D.ac;have c:=t.box 0 m9;refine⟨_,m9,aS (λe=>?_) λe=>y t λo=>by have:=((jS r).1 o).2.2.2.1;rw[e]at this;cases this⟩;refine⟨x.2.2.2.2.2.2.2,c.cell m9,r.p.2.2,by rw[<-d];exact c.mh 3 2 m9,?_,.zip t.ac⟩;congr 1;by_cases f:(r.data.length:Int)=r.p.2.2
  .have:jR r=eL:=(jS r).2 ⟨nb,nb,nb,e,f⟩;rw[this,a];simpa using f
  .have:jR r=eR:=by
    cases hq:jR r with
    |false=>rfl
    |true=>exact absurd ((jS r).1 hq).2.2.2.2 f
   rw[this,a];simpa using f
theorem nl(s:Sl)(l:aT)(n:Int)(k:Nat)(m:k<=4)(j:m8 l<=2^30)(H:aa B h0 h (ai 5 s 1 aq l::As)):
  aj xT 253 #[s,xJ xP n,xJ xP k] h λv h'=>∃r:Sl,v=r/\aa B h0 h' (ai 5 r 1 aq (l++cD n k)::As):=by
 refine ts Tryz.func253 ?_ (F8 (F9 [(0,bJ),(7,aI)] [(0,1),(7,8),(10,22)]));rw[af ((k:Int)-1)];refine ak (λt:Sl×Nat=>(t.1,(k:Int)-1-t.2)) (λt h'=>t.2<=k/\aa B h0 h' (ai 5 t.1 1 aq (l++(cD n k).take t.2)::As)) (λt=>k-t.2) (s,0) n4 ⟨n4,tg⟩ ?_;rintro⟨r,t⟩ o ⟨p,b⟩;dsimp only at*;refine ae (λe=>?_) (λe=>?_)
 .have a:t<k:=nb
  have i:qd xP ((8:Int)*((k:Int)-1-t))=((8*(k-1-t):Nat):Int):=by rw[af _];omega
  rw[i,qi];have e2:min (8*(k-1-t)) (qq xP)=8*(k-1-t):=by have:qq xP=64:=rfl;omega
  rw[e2,cg];refine⟨nb,?_⟩;refine b.push ag 0 m9 cR m9 nq (λ_=>rfl) cH (b8 (zp n (2^(8*(k-1-t))))) m9 nq o9 λd q c=>?_;refine⟨(d,t+1),?_,⟨n1,?_⟩,n1⟩
  .try dsimp only
   have g:qd xP ((k:Int)-1-t-1)=(k:Int)-1-((t+1:Nat):Int):=by rw[af _];omega
   rw[g]
  .try dsimp only
   have f:(cD n k).take t++[b8 (zp n (2^(8*(k-1-t))))]=(cD n k).take (t+1):=by rw[aA _ _ (by rw[bL];exact a)];congr 2;simp[cD]
   rw[<-f,<-ql];exact c
 .have:t=k:=nb
  subst this;rw[qh (by rw[bL];omega)]at b;exact⟨r,m9,b⟩
theorem Aj(x:bw)(r:ct)(h:hY)(z:fm cK h x r):aj xT 181 #[recv x] h λv h'=>∃s:Sl,v=s/\Sp h h' [ai 5 s 1 aq (gn r)]:=by
 refine ts Tryz.func181 ?_ (args:=[x]);obtain⟨⟨S,e2,P,m,U,Y,e8⟩,J⟩:=id z;have t:x.2.2.2.1=r.p.1:=congrArg (·.1) m;have l:x.2.2.2.2.1=r.p.2.1:=congrArg (·.2.1) m;have q:x.2.2.2.2.2.1=r.p.2.2:=congrArg (·.2.2) m;refine(Sp.refl h).boxed λV N c=>?_;refine⟨x,(c.box 0 m9).aw _ m9,(EZ x r N (cK.mono (cK.loc z c.ac) λ_ M=>qU M c.ac.1)).G7 λZ Q=>?_⟩;have i:=c.up Q.ac;refine⟨_,m9,aH (λg=>?_) λg=>?_⟩
 .unfold gn;rw[g];exact⟨⟨eH,0,0⟩,m9,(i.nil 5 1 aq).bs [1]⟩
 have W:=rN g;have w:=i.box 0 m9;refine⟨r.object,by rw[<-S];exact w.cell0 m9,(nl ⟨eH,0,0⟩ [] r.object 3 nq n4 (i.nil 5 1 aq).ba).Hf λE h3 G=>?_⟩;have o:=G.box 1 m9;refine⟨E,m9,r.block,by rw[<-e2];exact o.cell m9,(nl E _ r.block 1 nq p7 G).Hf λy h4 A=>?_⟩;have u:=A.box 1 m9;refine⟨y,m9,r.id,by rw[<-P];exact u.cell m9,(nl y _ r.id 2 nq p7 A).Hf λO X H=>?_⟩;have a:=H.box 1 m9;refine⟨O,m9,r.p.1,by rw[<-t];exact a.cell m9,r.p.2.1,by rw[<-l];exact a.mh 3 1 m9,r.p.2.2,by rw[<-q];exact a.mh 3 2 m9,?_⟩
 try dsimp only
 rw[cg,cg,cg];refine H.lit ag aq cR m9 [b8 r.p.1,b8 r.p.2.1,b8 r.p.2.2] m9 (show 3*1<=2^20 by decide) m9 λK h6 F=>?_;refine F.append ag 0 m9 cR ⟨_,_,m9,m9⟩ m9 nq (λ_=>rfl) (F.seq 2 m9 λ_=>rfl) cH p7 λT h7 d=>?_;have d:=d.bs [0,1];have n:=d.box 1 m9;refine⟨r.seed,by rw[<-U];exact n.cell m9,?_⟩
 try dsimp only
 rw[af r.seed];refine(nl T _ r.seed 4 nq p7 d).Hf λR h8 j=>?_;have f:=j.box 1 m9;refine⟨R,m9,x.2.2.2.2.2.2.2,f.cell m9,?_⟩;refine j.append ag 0 m9 cR ⟨_,_,m9,m9⟩ m9 nq (λ_=>rfl) (Seq.up J j.ac) cH o9 λB D e=>?_;have I:[]++cD r.object 3++cD r.block 1++cD r.id 2++[b8 r.p.1,b8 r.p.2.1,b8 r.p.2.2]++cD r.seed 4++r.data=oN r:=by unfold oN;simp[ql]
 have e:Sp h D [ai 5 B 1 aq (oN r),an V 128 (bB x)]:=by rw[<-I];exact e
 refine(Dt 1 B (oN r) D (e.seq 0 m9 λ_=>rfl)).Hf λb L k=>⟨b,m9,b,m9,?_⟩;unfold gn;rw[g,hZ rfl];exact(e.comp k).bs [2]
theorem MI(b:Sl)(c:aT)(h:hY)(hb:Rd h b 1 aq c)(hc:c.length<=2^30)(P:b.len<=b.cap):
  aj xT 168 #[b] h λv h'=>∃x:bw,v=.tuple #[recv x,xN (dq c).isSome]/\(dq c=eH->Sp h h' [])/\∀r,dq c=dB r->Sp h h' [EA cK x r]:=by
 refine ts Tryz.func168 ?_ (F8 (F8 (G0 [] [(3,4),(14,21)] (G0 [(7,(.sc .adr))] [(7,8),(21,31)] (G0 [] [(31,42)] E6))))) [(4,(.y [0,1,3,4,6,7] (.y [2] (.y [5] (.l [8,9,10,11]) (.l [10,8,9,11])) (.l [10,5,8,9,11])) (.l [10,2,5,8,9,11]))),(5,(.l [0,1,3,4,6,7,2,5,8,9,10,11]))];refine(Sp.refl h).alloc ag m9 λt h1 H1=>?_;have B:∀{h':hY} {Bs:List HP},Sp h h' (an t 128 (bB (0,0,0,0,0,0,0,⟨eH,0,0⟩))::Bs)->dq c=eH->
   au xT (qG 128 (xL (dB t)) (recv (0,0,0,0,0,0,0,⟨eH,0,0⟩))) h' λ_ E=>∃Y:bw,bp E t 0 (bB Y)/\∃x:bw,Value.tuple #[recv Y,xN eR]=.tuple #[recv x,xN (dq c).isSome]/\(dq c=eH->Sp h E [])/\∀r,dq c=dB r->Sp h E [EA cK x r]:=λ{h' Bs} H' F=>by
  refine H'.storeAll ag 0 m9 m9 (bB (0,0,0,0,0,0,0,⟨eH,0,0⟩)) m9 m9 m9 m9 λE H4=>?_;exact⟨(0,0,0,0,0,0,0,⟨eH,0,0⟩),(H4.box 0 m9).aw _ m9,(0,0,0,0,0,0,0,⟨eH,0,0⟩),by rw[F];rfl,λ_=>.zip H4.ac,λr O=>by rw[F]at O;cases O⟩
 refine(SJ b c h1 (hb.up H1.ac) hc P).mono ?_;rintro _ h2 ⟨Q0,Q1⟩;cases htc:gH c with
 |none=>
  obtain⟨rfl,R2⟩:=Q0 htc;have F:dq c=eH:=by unfold dq;rw[htc]
  exact⟨(0,⟨eH,0,0⟩,eR),m9,aE (aH (λ_=>B (H1.up R2.ac) F) λe=>n5)⟩
 |some kx=>
  obtain⟨k,x⟩:=kx;obtain⟨r,rfl,R2⟩:=Q1 k x htc;have s:=H1.comp R2;have a0:x.length=55:=by
   unfold gH at htc;split at htc
   .rename_i m;injection htc with htc
    injection htc with _ htc
    rw[<-htc];simp;omega
   .cases htc
  have a6:=(s.own 1 m9).len;have S:=(s.own 1 m9).cap;refine⟨(k,r,eL),m9,aE (aH (λe=>n5) λ_=>bm (λe=>B s ?_) λM=>?_)⟩
  .unfold dq;rw[htc];exact k4 λm=>e m.1
  try dsimp only
  have M:k=1:=M;obtain⟨R,w⟩:=HF (uP x)
  have I:dq c=if bH R.p=eL/\gn R=c then dB R else eH:=by
   unfold dq;rw[htc]
   try dsimp only
   rw[<-w];by_cases m:bH R.p=eL/\gn R=c
   .rw[hZ m];exact hZ ⟨M,m⟩
   .rw[k4 m];exact k4 λh=>m h.2
  have tA:∀{h':hY},Rd h' r 1 aq x->aj xT 239 #[xK r.ptr 3 r.cap] h' λv J=>v=xJ xP R.object/\J=h':=λ{h'} O=>by
   rw[w];exact JT ⟨r.ptr,3,r.cap⟩ (x.take 3) h' (O.take 3 nb) n2
  have N:∀{h':hY} (j n:Nat),j+n<=55->n<=4->Rd h' r 1 aq x->aj xT 239 #[.slice (if r.cap=j then r.ptr else r.ptr.map (·.add (j*1))) n (r.cap-j)] h' λv J=>v=xJ xP (dp ((x.drop j).take n))/\J=h':=λ{h'} j n hjn F O=>
   JT ⟨if r.cap=j then r.ptr else r.ptr.map (·.add (j*1)),n,r.cap-j⟩ ((x.drop j).take n) h' ((O.drop j S).take n o6) n2
  have rd:∀{h':hY} {A:HP} {Bs:List HP},Sp h h' (A::ai 5 r 1 aq x::Bs)->Rd h' r 1 aq x:=λ{h' A Bs} H'=>H'.seq 1 m9 λ_=>rfl;have oL:∀{h':hY} {A A2:HP} {Bs:List HP},Sp h h' (A::A2::ai 5 r 1 aq x::Bs)->Rd h' r 1 aq x:=λ{h' A A2 Bs} H'=>H'.seq 2 m9 λ_=>rfl;refine bn (λ(a:fY) h'=>Sp h h' [an a 128 (bB (R.object,R.block,R.id,0,0,0,0,⟨eH,0,0⟩)),an t 128 (bB (0,0,0,0,0,0,0,⟨eH,0,0⟩)),ai 5 r 1 aq x]) ?_ ?_
  .have eb:dp ((x.drop 3).take 1)=R.block:=CY
   have ei:dp ((x.drop 4).take 2)=R.id:=CY
   have fin:∀{h':hY} {a:fY},Sp h h' [an t 128 (bB (0,0,0,0,0,0,0,⟨eH,0,0⟩)),ai 5 r 1 aq x,an a 128 (bB (0,0,0,0,0,0,0,⟨eH,0,0⟩))]->
     au xT (qG 128 (xL (dB a)) (recv (R.object,R.block,R.id,0,0,0,0,⟨eH,0,0⟩))) h' λ_ E=>bK.ok [] E/\Sp h E [an a 128 (bB (R.object,R.block,R.id,0,0,0,0,⟨eH,0,0⟩)),an t 128 (bB (0,0,0,0,0,0,0,⟨eH,0,0⟩)),ai 5 r 1 aq x]:=λ{h' a} H'=>
    H'.storeAll ag 2 m9 m9 (bB (R.object,R.block,R.id,0,0,0,0,⟨eH,0,0⟩)) m9 m9 m9 m9 λE H4=>⟨I0,H4.bs [2,0,1]⟩
   have A_:∀{h':hY} {Bs:List HP} {K:Int->hY->Prop},Sp h h' (an t 128 (bB (0,0,0,0,0,0,0,⟨eH,0,0⟩))::ai 5 r 1 aq x::Bs)->K R.object h'->jZ xT 239 #[xK r.ptr 3 r.cap] (.one (.sc (.int .i64))) h' K:=λ{h' Bs K} H' hK=>by
    refine(tA (rd H')).G6 ⟨_,m9,hK⟩
   have B_:∀{h':hY} {Bs:List HP} {K:Int->hY->Prop},Sp h h' (an t 128 (bB (0,0,0,0,0,0,0,⟨eH,0,0⟩))::ai 5 r 1 aq x::Bs)->K R.block h'->jZ xT 239 #[.slice (if r.cap=3 then r.ptr else r.ptr.map (·.add (3*1))) 1 (r.cap-3)] (.one (.sc (.int .i64))) h' K:=λ{h' Bs K} H' hK=>by
    refine(N 3 1 nq nq (rd H')).G6 ⟨_,m9,by rw[eb];exact hK⟩
   have C_:∀{h':hY} {Bs:List HP} {K:Int->hY->Prop},Sp h h' (an t 128 (bB (0,0,0,0,0,0,0,⟨eH,0,0⟩))::ai 5 r 1 aq x::Bs)->K R.id h'->jZ xT 239 #[.slice (if r.cap=4 then r.ptr else r.ptr.map (·.add (4*1))) 2 (r.cap-4)] (.one (.sc (.int .i64))) h' K:=λ{h' Bs K} H' hK=>by
    refine(N 4 2 nq nq (rd H')).G6 ⟨_,m9,by rw[ei];exact hK⟩
   refine⟨⟨nq,nb⟩,⟨nq,nq,nb⟩,⟨nq,nq,nb⟩,A_ s ⟨I0,B_ s ⟨I0,C_ s ⟨I0,?_⟩,?_⟩,?_⟩,?_⟩
   .refine s.alloc ag m9 λa9 h9 i=>⟨I0,?_⟩
    exact fin i
   .refine s.alloc ag m9 λa9 h9 i=>⟨I0,?_⟩
    exact C_ i ⟨I0,fin i⟩
   .refine s.alloc ag m9 λa9 h9 i=>⟨I0,?_⟩
    exact B_ i ⟨I0,C_ i ⟨I0,fin i⟩⟩
   .refine s.alloc ag m9 λa9 h9 i=>⟨I0,?_⟩
    exact A_ i ⟨I0,B_ i ⟨I0,C_ i ⟨I0,fin i⟩⟩⟩
  .rintro a9 h5 H5;have L:0<=R.seed/\R.seed<4294967296:=by have:=BI ((x.drop 9).take 4) n2;rw[w];exact⟨this.1,this.2.1⟩
   have e6:dp ((x.drop 6).take 1)=R.p.1:=CY
   have e7:dp ((x.drop 7).take 1)=R.p.2.1:=CY
   have e8:dp ((x.drop 8).take 1)=R.p.2.2:=CY
   have e9:dp ((x.drop 9).take 4)=R.seed:=CY
   refine aE ⟨⟨nq,nq,nb⟩,⟨nq,nq,nb⟩,⟨nq,nq,nb⟩,(N 6 1 nq nq (oL H5)).G6 ?_⟩;refine⟨_,m9,I0,(N 7 1 nq nq (oL H5)).G6 ?_⟩;refine⟨_,m9,I0,(N 8 1 nq nq (oL H5)).G6 ?_⟩;refine⟨_,m9,I0,?_⟩
   try dsimp only
   rw[e6,e7,e8];refine H5.store ag 0 m9 m9 3 [xJ xP R.p.1,xJ xP R.p.2.1,xJ xP R.p.2.2] m9 m9 m9 n4 λa7 Q=>⟨I0,?_⟩
   refine⟨⟨nq,nq,nb⟩,(N 9 4 nq nq (oL Q)).G6 ?_⟩;refine⟨_,m9,?_⟩
   try dsimp only
   have ew:qd xR (dp ((x.drop 9).take 4))=R.seed:=by rw[e9];unfold qd;simp[qq,yC];omega
   rw[ew];refine Q.store ag 0 m9 m9 6 [xJ xR R.seed] m9 m9 m9 n4 λao V=>?_;refine⟨R.p,(V.box 0 m9).mE 3 m9 m9 m9,(fe R.p ao).G7 λah am=>?_⟩;have z:=V.up am.ac;refine⟨_,m9,aH (λg=>B (z.aF 2 [1,0]) (by rw[I,k4 λm=>by rw[g]at m;cases m.1])) λg=>?_⟩;have a2:=(bI R.p).1 g;refine⟨R.p.2.2,(z.box 0 m9).mh 3 2 m9,?_⟩
   try dsimp only
   rw[af ((13:Int)+R.p.2.2)];refine⟨⟨nq,nb,nb⟩,?_⟩;have ab:((13:Int)+R.p.2.2).toNat-(13:Int).toNat=R.p.2.2.toNat:=nb
   rw[ab];have G:(x.drop 13).take R.p.2.2.toNat=R.data:=CY
   have H:=((oL z).drop 13 S).take R.p.2.2.toNat o6;rw[G]at H;have a5:R.data.length=R.p.2.2.toNat:=by rw[<-G];simp;omega
   refine(fW ⟨if r.cap=13 then r.ptr else r.ptr.map (·.add (13*1)),R.p.2.2.toNat,r.cap-13⟩ R.data ah H).Hf λu a3 ax=>?_;have al:=z.comp ax;refine⟨u,m9,?_⟩;refine al.store ag 0 m9 m9 7 [u] m9 m9 m9 n4 λT f=>?_;have f:Sp h T [an a9 128 (bB (R.object,R.block,R.id,R.p.1,R.p.2.1,R.p.2.2,R.seed,u)),an t 128 (bB (0,0,0,0,0,0,0,⟨eH,0,0⟩)),ai 5 r 1 aq x,ai 5 u 1 aq R.data]:=f;obtain⟨X,hX⟩:∃X:bw,X=(R.object,R.block,R.id,R.p.1,R.p.2.1,R.p.2.2,R.seed,u):=⟨_,rfl⟩
   rw[<-hX]at f;have W:∀{h':hY} {q:ar},Seq h' q u 1 aq R.data->cK.p h' q X R:=λ{h' q} hs=>by rw[hX];exact⟨⟨m9,m9,m9,m9,m9,L⟩,hs⟩
   refine⟨X,(f.box 0 m9).aw _ m9,(Aj X R T (W (f.seq 3 m9 λ_=>rfl))).Hf λs5 ay ad=>?_⟩;have o:=f.comp ad;refine⟨s5,m9,(ur b s5 c (gn R) ay (hb.up o.ac) (o.seq 4 m9 λ_=>rfl)).G6 ?_⟩;refine⟨_,m9,aH (λU=>B (o.aF 2 [1,0]) (by rw[I,k4 λm=>(of_decide_eq_false U) m.2.symm])) λU=>?_⟩;have U:c=gn R:=m6 U;refine⟨X,(o.box 0 m9).aw _ m9,?_⟩;refine o.storeAll ag 1 m9 m9 (bB X) m9 m9 m9 m9 λbb Z=>?_;have d:dq c=dB R:=by rw[I,hZ ⟨g,U.symm⟩]
   refine⟨X,(Z.box 1 m9).aw _ m9,X,by rw[d];rfl,λF=>(by rw[d]at F;cases F),λr' D=>?_⟩;rw[d]at D;injection D with D
   subst D;have ap:=Z.bs [3];exact ap.dY 0 m9 λq hq=>W (hq.1.seq (λ_=>rfl) hq.2)
variable {X Y Z:HP}
section
variable {L:List HP}
theorem aa.adZ(H:aa B h0 h (X::Y::(L++As))):aa B h0 h (L++(X::Y::As)):=
 H.pick (λi=>if i<m8 L then i+2 else if i=m8 L then 0 else if i=m8 L+1 then 1 else i) (λa b c=>n8) λi A d=>n8
theorem aa.aaU(n:Nat)(b:L[n]?=dB X)(H:aa B h0 h (Y::Z::(L++As))):aa B h0 h (X::Z::Y::(L.set n emp++As)):=by
 have a:=H.cons (n+2) (A:=X) n8;have e:(Y::Z::(L++As)).set (n+2) emp=Y::Z::(L.set n emp++As):=n8
 rw[e]at a;exact a.aF 3 [0,2,1]
theorem aa.QJ(n:Nat)(e:n<m8 L)(H:aa B h0 h (X::Z::Y::(L.set n emp++As))):aa B h0 h (Y::Z::(L.set n X++As)):=
 H.pick (λi=>if i=0 then 2 else if i=1 then 1 else if i=n+2 then 0 else i+1) (λa b d=>n8) λi A c=>by
  match i,c with
  |0,c=>exact c
  |1,c=>exact c
  |i+2,c=>
   grind
end
structure Kit where
 tS:Nat
 tP:Nat
 tD:Nat
 f:fY->bu->Sl->Sl->aR
def acS(k:Kit)(pw:fY)(a:bx)(d:Option bu):HP:=match a,d with
 |some a,dB d=>kh k.tD (k.f pw) a d
 |_,_=>emp
abbrev cP(b:aR)(pw:fY)(a:Int)(c:List bx):aR:=b++(xL (dB pw)::xJ xP a::c.map .pointer)
structure gT (mc:aR) (da:List bx) (ds:aG):Prop where
 l8:m8 mc=8
 la:m8 da=64
 ls:m8 ds=64
 same:∀i:Nat,(da.getD i eH).isSome=(ds.getD i eH).isSome
abbrev jz(k:Kit)(pw:fY)(b:List bx)(a:aG):List HP:=List.zipWith (acS k pw) b a
def aJ(k:Kit)(a pw:fY)(d:aR)(b:Int)(c:List bx)(w:Pow)(e:aG):HP:=
 (HP.all (an a k.tS (cP d pw b c)::ee k.tP pw w::jz k pw c e)).and (gT d c e)
variable {mc:aR} {offs:Int} {da:List bx} {w':Pow} {ds:aG} {d':bu} {n:Nat}
section
variable {k:Kit} {pw:fY}
theorem MJ(ok:gT mc da ds):(jz k pw da ds).length=64:=by simp[jz,ok.la,ok.ls]
theorem aa.gM(H:aa B h0 h (aJ k a pw mc offs da w ds::As)):gT mc da ds/\aa B h0 h (an a k.tS (cP mc pw offs da)::ee k.tP pw w::(jz k pw da ds++As)):=by obtain⟨H,ok⟩:=H.FJ;exact⟨ok,H.AE⟩
theorem aa.je(ok:gT mc da ds)(H:aa B h0 h (an a k.tS (cP mc pw offs da)::ee k.tP pw w::(jz k pw da ds++As))):aa B h0 h (aJ k a pw mc offs da w ds::As):=
 (aa.closeAll (an a k.tS (cP mc pw offs da)::ee k.tP pw w::jz k pw da ds) H).toFJ ok
theorem gT.addr(ok:gT mc da ds)(c:ds[n]?=dB (dB d)):∃b,da[n]?=dB (dB b):=by
 have g:n<64:=by have:=(qm.1 c).1;rw[ok.ls]at this;exact this
 have a:=ok.same n;rw[qg,qg,c]at a;have e:n<m8 da:=by rw[ok.la];exact g
 rw[qc e]at a⊢;simp at a;obtain⟨b,f⟩:=yo.1 a;exact⟨b,by rw[f]⟩
theorem gT.Vt(ok:gT mc da ds)(c:n<64)(d:ds[n]?=dB eH):da[n]?=dB eH:=by
 have a:=ok.same n;rw[qg,qg,d]at a;have b:n<m8 da:=by rw[ok.la];exact c
 rw[qc b]at a⊢;simp at a;rw[a]
theorem gT.set(ok:gT mc da ds){b:fY}(c:da[n]?=dB (dB b)):gT mc da (ds.set n (dB d')):=by
 refine⟨ok.l8,ok.la,by rw[qP];exact ok.ls,λi=>?_⟩;by_cases a:n=i
 .subst a;have d:n<m8 ds:=by have:=(qm.1 c).1;rw[ok.la]at this;rw[ok.ls];exact this
  rw[qg,c,qg,List.getElem?_set_self d];rfl
 .rw[qg (l:=ds.set n _),w4 a,<-qg];exact ok.same i
theorem Yk{b:fY}(c:da[n]?=dB (dB b))(e:n<m8 ds):(jz k pw da ds).set n (kh k.tD (k.f pw) b d')=jz k pw da (ds.set n (dB d')):=by
 apply zn;intro j;have d:n<m8 da:=(qm.1 c).1;simp only[jz,qV,wQ,List.length_zipWith];by_cases a:n=j
 .subst a;rw[hZ m9,hZ nb,hZ m9,hZ e,c];rfl
 .simp[a]
def EH(k:Kit)(a pw:fY)(d:aR)(b:Int)(c:List bx)(e:aG)(n:Nat):HP:=
 (HP.all (an a k.tS (cP d pw b c)::(jz k pw c e).set n emp)).and (gT d c e)
theorem aa.fD(H:aa B h0 h (aJ k a pw mc offs da w ds::As))(e:ds[n]?=dB (dB d)):∃b,da[n]?=dB (dB b)/\aa B h0 h (kh k.tD (k.f pw) b d::ee k.tP pw w::EH k a pw mc offs da ds n::As):=by
 obtain⟨ok,l⟩:=H.gM;obtain⟨b,c⟩:=ok.addr e;refine⟨b,c,?_⟩;have g:(jz k pw da ds)[n]?=dB (kh k.tD (k.f pw) b d):=by simp only[jz,wQ,c,e];rfl
 have i:=l.aaU n g;have j:aa B h0 h (kh k.tD (k.f pw) b d::ee k.tP pw w::((an a k.tS (cP mc pw offs da)::(jz k pw da ds).set n emp)++As)):=i;exact(((aa.closeAll _ j.adZ).toFJ ok).aF 3 [1,2,0]:aa B h0 h (kh k.tD (k.f pw) b d::ee k.tP pw w::EH k a pw mc offs da ds n::As))
theorem aa.kW{b:fY}(j:da[n]?=dB (dB b))(H:aa B h0 h (kh k.tD (k.f pw) b d'::ee k.tP pw w'::EH k a pw mc offs da ds n::As)):aa B h0 h (aJ k a pw mc offs da w' (ds.set n (dB d'))::As):=by
 have m:aa B h0 h (EH k a pw mc offs da ds n::ee k.tP pw w'::kh k.tD (k.f pw) b d'::As):=H.aF 3 [2,1,0];obtain⟨m,ok⟩:=m.FJ;have o:=m.AE;have q:n<m8 ds:=by have:=(qm.1 j).1;rw[ok.la]at this;rw[ok.ls];exact this
 have s:=MJ (k:=k) (pw:=pw) ok;have g:n<(jz k pw da ds).length:=by rw[s,<-ok.ls];exact q
 obtain⟨L,r⟩:=HF (jz k pw da ds)
 rw[<-r]at o g;have t:aa B h0 h (kh k.tD (k.f pw) b d'::ee k.tP pw w'::an a k.tS (cP mc pw offs da)::(L.set n emp++As)):=by
  refine o.pick (λi=>if i=0 then 1+m8 L+1 else if i=1 then 1+m8 L else if i=2 then 0 else if i<3+m8 L then i-2 else i) (λx y c=>by(try dsimp only at c);split at c<;>split at c<;>(try split at c)<;>(try split at c)<;>(try split at c)<;>(try split at c)<;>(try split at c)<;>(try split at c)<;>omega) λi A e=>?_
  try dsimp only
  have d:(an a k.tS (cP mc pw offs da)::L.set n emp).length=1+m8 L:=n2
  match i,e with
  |0,e=>rw[hZ m9,qk nb,d,show 1+m8 L+1-(1+m8 L)=1 by omega];exact e
  |1,e=>rw[k4 nb,hZ m9,qk nb,d,zd];exact e
  |2,e=>rw[k4 nb,k4 nb,hZ rfl];exact e
  |i+3,e=>
   rw[k4 nb,k4 nb,k4 nb];rw[qO,qO,qO]at e;by_cases l:i<m8 L
   .rw[hZ nb,show i+3-2=i+1 by omega,qu (by rw[d];omega),qO];rw[qu (by simpa using l)]at e;exact e
   .rw[k4 nb,qk (by rw[d];omega),d,show i+3-(1+m8 L)=(i-m8 L)+2 by omega,qO,qO];rw[qk n2,qP]at e;exact e
 have p:=aa.QJ n g t;rw[r,Yk j q]at p;exact p.je (ok.set j)
end
def ey:jq (Int×Sl) (Int×aT):=⟨λh q a b=>a.1=b.1/\Seq h q a.2 1 aq b.2,λa d=>⟨a.1,a.2.ac d⟩,λa c=>⟨a.1,a.2.mono c⟩⟩
def piv(x:Int×Sl):aR:=[xJ xP x.1,x.2]
theorem tC:∀x,∀c∈piv x,c.oneCell'=eL:=by intro x c a;simp[piv]at a;rcases a with rfl|rfl<;>rfl
def cT(b:List bx)(a:Int):bx:=if 0<=a/\a<64 then(b[a.toNat]?).join else eH
theorem gp{j:aR}{f:List bx}{c:aG}(ok:gT j f c)(a:Int):
  (bX c a=eH/\cT f a=eH)∨∃(n:Nat) (d:bu) (b:fY),a=n/\n<64/\c[n]?=dB (dB d)/\bX c a=dB d/\f[n]?=dB (dB b)/\cT f a=dB b:=by
 unfold bX cT;by_cases h:0<=a/\a<64
 .rw[hZ h,hZ h];have i:a.toNat<m8 c:=by rw[ok.ls];omega
  cases hd:c[a.toNat]with
  |none=>
   have e:c[a.toNat]?=dB eH:=by rw[qc i,hd]
   exact .inl ⟨v6,by rw[ok.Vt nb e];rfl⟩
  |some d=>
   have e:c[a.toNat]?=dB (dB d):=by rw[qc i,hd]
   obtain⟨b,g⟩:=ok.addr e;exact .inr ⟨a.toNat,d,b,nb,nb,e,v6,g,by rw[g];rfl⟩
 .rw[k4 h,k4 h];exact .inl ⟨m9,m9⟩
theorem mT{b:aR}{pw:fY}{a:Int}{c:List bx}(h8:m8 b=8)(n:Nat):(cP b pw a c)[10+n]?=(c[n]?).map .pointer:=by unfold cP;rw[qk nb,h8,show 10+n-8=n+1+1 by omega,qO,qO,qM]
theorem ut{b:aR}{pw:fY}{a:Int}{c:List bx}(h8:m8 b=8):(cP b pw a c)[8]?=dB (xL (dB pw)):=by unfold cP;rw[qk nb,h8];rfl
theorem Hg{b:aR}{pw:fY}{a:Int}{c:List bx}(h8:m8 b=8):(cP b pw a c)[9]?=dB (xJ xP a):=by unfold cP;rw[qk nb,h8];rfl
abbrev bP:Qw.Kit:=⟨105,107,172,λpw=>ft pw⟩
theorem MK{e:TypeId}(s:Sl)(l:aC)(h:hY)(c:Own h e s 1 av l)(a:m8 l<2^40):aj xT 259 #[s] h λv h'=>v=xK s.ptr (Lib.compact l).length s.cap/\Own h' e ⟨s.ptr,(Lib.compact l).length,s.cap⟩ 1 av (Lib.compact l)/\aQ (λb=>¬s.on b) h h':=
 GP Tryz.slices_Compact_int Tryz.slices_Compact_int_empty c a
section
variable {pw:fY}
theorem jI(b:Int)(ok:gT mc da ds)(f:bQ h a 105 (cP mc pw offs da)):aj xT 26 #[xL (dB a),xJ xP b] h λv h'=>v=.pointer (cT da b)/\h'=h:=by
 refine lG (dB a) b ?_;have d:¬(0<=b/\b<64)->Value.pointer eH=.pointer (cT da b)/\h=h:=λe=>by unfold cT;rw[k4 e];exact⟨m9,m9⟩
 refine aE (aS (λe=>n5) λ_=>ae (λe=>d nb) λg=>ae (λe=>d nb) λe2=>?_);have c:b.toNat<m8 da:=B0
 refine⟨a,m9,⟨nb,nb⟩,da[b.toNat],?_,?_,m9⟩
 .rw[zG];refine f.mh 10 b.toNat ?_;rw[mT ok.l8,qc c];rfl
 .unfold cT;rw[hZ nb,qc c];rfl
theorem aa.cF(H:aa B h0 h (aJ bP a pw mc offs da w ds::As)):gT mc da ds/\bQ h a 105 (cP mc pw offs da):=by obtain⟨ok,b⟩:=Qw.aa.gM H;exact⟨ok,b.box 0 m9⟩
theorem Hj(s:Sl)(l:aC)(x:Rd h s 1 av l)(G:m8 l<=2^30)(H:aa B h0 h (aJ bP a pw mc offs da w ds::As)):
  aj xT 66 #[.func (.func 26) #[xL (dB a)] #[],s] h λv h'=>∃r:Sl,v=r/\Sp h h' [ai 3 r 1 av (bh ds l)]:=by
 refine ts Tryz.func66 ?_ (F8 (F8 (F9 [(5,bJ),(11,aI)] [(5,6),(7,9),(11,30)]))) (args:=[(.func (.func 26) #[xL (dB a)] #[]),s]);have F:=x.len;obtain⟨ok,u⟩:=aa.cF H;refine ak (λt:Sl×Nat=>(t.1,(t.2:Int))) (λt h'=>t.2<=m8 l/\Sp h h' [ai 3 t.1 1 av (bh ds (l.take t.2))]) (λt=>m8 l-t.2) (⟨eH,0,0⟩,0) m9 ⟨n4,by simpa[bh]using(Sp.refl h).nil 3 1 av⟩ ?_;rintro⟨o,i⟩ J ⟨L,j⟩;dsimp only at*;refine ae (λe=>?_) (λe=>?_)
 .have p:i<m8 l:=nb
  have c:bh ds (l.take (i+1))=bh ds (l.take i)++(if isLive ds l[i]then[l[i]]else[]):=by unfold bh;rw[aA _ _ p,zi,zA,wY]
  have z:(bh ds (l.take i)).length<=m8 l:=by have:=qK (isLive ds) (l.take i);unfold bh;simp at this⊢;omega
  have next:∀{h':hY} {k:Sl},Sp h h' [ai 3 k 1 av (bh ds (l.take (i+1)))]->∃m:Sl×Nat,((⟨k.ptr,k.len,k.cap⟩:Sl),qd xP ((i:Int)+1))=(m.1,(m.2:Int))/\(m.2<=m8 l/\Sp h h' [ai 3 m.1 1 av (bh ds (l.take m.2))])/\l.length-m.2<m8 l-i:=λ{h' k} H'=>
   ⟨(k,i+1),n3,⟨n1,H'⟩,n1⟩
  refine(Seq.up x j.ac).aW i m9 p l[i] m9 (fF pa ?_);refine(jI l[i] ok (u.ac j.ac u.lt)).G6 ⟨_,m9,?_⟩;rcases gp ok l[i]with⟨c1,c2⟩|⟨n,d,b,c0,c1,c2,c3,c4,c5⟩
  .rw[c2];have g:isLive ds l[i]=eR:=by unfold isLive;rw[c1]
   rw[g]at c;refine aH (λe=>n5) λ_=>next (by rw[c];simpa using j)
  .rw[c5];have g:isLive ds l[i]=!d.lost:=by unfold isLive;rw[c3]
   refine aH (λ_=>?_) λe=>n5
   obtain⟨I,f,y⟩:=Qw.aa.fD (aa.up H j.ac) c2;rw[c4]at f;injection f with f
   injection f with f
   subst f;obtain⟨E,A,q,_,_⟩:=jx.box y;refine(vS E A q).G6 ⟨_,m9,aH (λe=>?_) λe=>?_⟩
   .rw[g,e]at c;refine j.push ag 0 m9 ge m9 nq (λ_=>rfl) dt l[i] m9 nq nb λk M D=>next ?_
    rw[c];exact D
   .rw[g,e]at c;exact next (by rw[c];simpa using j)
 .rw[qh nb]at j;exact⟨o,m9,j⟩
theorem SK(s:Sl)(l:aC)(R:St B h0 As λh=>Rd h s 1 av l)(Z:m8 l<=2^30)(G:∀x∈l,0<=x/\x<64)(H:aa B h0 h (aJ bP a pw mc offs da w ds::As)):
  aj xT 186 #[.func (.func 26) #[xL (dB a)] #[],s] h λv h'=>v=xJ xP (iY (gA l) w ds).1/\aa B h0 h' (aJ bP a pw mc offs da (iY (gA l) w ds).2.1 (iY (gA l) w ds).2.2::As):=by
 refine ts Tryz.func186 ?_ (F8 (F8 (F8 (F9 [(15,aI)] [(4,5),(6,8),(15,27)])))) (args:=[(.func (.func 26) #[xL (dB a)] #[]),s]);refine(jN s l h (R.at [_] H) nb).Hf λr S W=>?_;have K:=H.bS W;refine⟨r,m9,(JQ r l S (K.own 0 m9) nb).G7 λU ⟨J,P⟩=>?_⟩;have N:=K.oq 0 m9 P J;refine⟨(),m9,(MK r (mD l) U J (by rw[Jv];omega)).G7 λh3 ⟨Q,I⟩=>?_⟩;have F:=N.step (D:=ai 3 ⟨r.ptr,(Lib.compact (mD l)).length,r.cap⟩ 1 av (Lib.compact (mD l))) 0 m9 λq A E=>⟨I.mono λb _ m z=>m (A.2 b z),Q,λb m=>⟨qU (E b (A.2 b m)) I.1,.inl (A.2 b m)⟩⟩
 rw[Sf l G]at F⊢;obtain⟨u,L⟩:=HF (gA l)
 rw[<-L]at F⊢;have Y:m8 u<=64:=by have:=qK (λi=>decide (i∈l)) ((qy 64).map λi:Nat=>(i:Int));rw[L];unfold gA;simpa using this
 refine⟨⟨r.ptr,m8 u,r.cap⟩,m9,?_⟩;refine ak (λt:Nat×Pow×aG=>(t.1:Int)) (λt h'=>t.1<=m8 u/\iY u w ds=iY (u.drop t.1) t.2.1 t.2.2/\aa B h0 h' (ai 3 ⟨r.ptr,m8 u,r.cap⟩ 1 av u::aJ bP a pw mc offs da t.2.1 t.2.2::As)) (λt=>m8 u-t.1) (0,w,ds) m9 ⟨n4,m9,F⟩ ?_;rintro⟨i,j,f⟩ h4 ⟨hi,c,o⟩;dsimp only at*;refine ae (λe=>?_) (λe=>?_)
 .have p:i<m8 u:=nb
  obtain⟨ok,m⟩:=aa.cF o.rest;rw[qT p,nf]at c;refine(o.seq 0 m9 λ_=>rfl).aW i m9 p u[i] m9 (fF pa ?_);refine(jI u[i] ok m).mono ?_;rintro _ O ⟨rfl,rfl⟩;refine⟨_,m9,?_⟩;rcases gp ok u[i]with⟨c1,c2⟩|⟨n,d,b,c0,c1,c2,c3,c4,c5⟩
  .rw[c2];refine(MF O).mono ?_;rintro _ V ⟨rfl,rfl⟩;have y:fG j f u[i]=(5,j,f):=by unfold fG;rw[c1]
   rw[y]at c;refine⟨5,m9,bm (λ_=>?_) λe=>absurd e nq⟩;have:iY u w ds=(5,j,f):=c;rw[this];exact⟨m9,o.rest⟩
  .rw[c5];obtain⟨b',g,X⟩:=Qw.aa.fD (o.aF 2 [1,0]) c2;rw[c4]at g;injection g with g
   injection g with g
   subst g;refine(Vk X).G7 λV T=>?_;have M:=Qw.aa.kW (k:=bP) (n:=n) c4 T;have y:fG j f u[i]=((d.sync j).1,(d.sync j).2.1,f.set n (dB (d.sync j).2.2)):=by unfold fG;rw[c3];simp only[iP,c0,qi]
   rw[y]at c;refine⟨_,m9,bm (λe2=>?_) λe2=>?_⟩
   .have:iY u w ds=((d.sync j).1,(d.sync j).2.1,f.set n (dB (d.sync j).2.2)):=by rw[c];exact k4 e2
    rw[this];exact⟨m9,M.nP⟩
   .refine⟨(i+1,(d.sync j).2.1,f.set n (dB (d.sync j).2.2)),n3,⟨n1,?_,M.aF 2 [1,0]⟩,n1⟩;rw[c];exact hZ e2
 .rw[zh nb]at c;rw[c];exact⟨m9,o.rest⟩
end
theorem HP.AN{h:hY}:∀{L:List HP} {q:ar} {i:Nat} {A:HP},(HP.all L).p h q->L[i]?=dB A->A.p h q
 |A::L,q,0,A',⟨q1,q2,_,b,_,d,_⟩,hi=>by simp at hi;subst hi;exact A.mono d b
 |A::L,q,i+1,A',⟨q1,q2,_,_,c,_,e⟩,hi=>A'.mono (HP.AN e (by simpa using hi)) c
 |[],_,i,_,_,hi=>by simp at hi
variable {β:Type} {e e2:Nat} {ll:List (List α)}
section
variable {f:α->aR}
theorem aa.ML(H:aa B h0 h (lh e s e2 k f ll::As))(j:∀x,(f x).length=k):∃rs,aa B h0 h (cB (iR k f) 1 bv s rs ll::As):=by
 obtain⟨rs,H⟩:=H.Bq;obtain⟨H,b⟩:=H.FJ;refine⟨rs,H.dY 0 m9 λq d=>⟨?_,b,λi r l c a=>?_⟩⟩
 .have:=HP.AN (i:=0) d m9;exact this.1.seq (λ_=>rfl) this.2
 .have g:i<m8 ll:=(qm.1 a).1;have m:=eN (e:=e2) (k:=k) (f:=f) b i g;have:=HP.AN (i:=i+1) d (by simpa using m);have n:rs[i]'nb=r:=by rw[qc nb]at c;simpa using c
  have e2:ll[i]=l:=by rw[qc g]at a;simpa using a
  rw[n,e2]at this;exact this.1.seq j this.2
end
def bi(m:aB)(a:aC):List (Int×aT):=a.flatMap λn=>(bG m).map λc=>(n,c)
theorem mw{m:aB}{a:aC}{x:Int×aT}(h:x∈bi m a):x.1∈a/\x.2.length=64:=by unfold bi at h;obtain⟨n,e,b⟩:=wM.1 h;obtain⟨c,d,rfl⟩:=qI.1 b;exact⟨e,sM d⟩
theorem jJ(m:aB)(a:bM m):(bG m).length<=3000:=by have:=uq m a;unfold bG fl;simp;omega
abbrev MM:bO C.toAA 137 142 2 [xJ xP 0,xK eH 0 0] 32:=⟨_,_,m9,m9,m9,m9,m9,m9⟩
section
variable {pw:fY}
theorem Du(s:Sl)(u:List (Int×Sl))(P:List (Int×aT))(J:St B h0 As λh=>gE ey 2 piv h s u P)(hl:m8 P<=2^30)(G:∀x∈P,(0<=x.1/\x.1<64)/\x.2.length<=2^20)(H:aa B h0 h (aJ bP a pw mc offs da w ds::As)):
  aj xT 100 #[.func (.func 26) #[xL (dB a)] #[],s] h λv h'=>v=xJ xP (layAll P w ds).1/\aa B h0 h' (aJ bP a pw mc offs da (layAll P w ds).2.1 (layAll P w ds).2.2::As):=by
 refine ts Tryz.func100 ?_ (F8 (F8 (E5 (F8 (E7 (E8 [(5,bJ),(11,aI)] [(4,6),(7,9),(11,31)] (F8 (F8 (E5 (E7 (F8 (E5 (E9 [] [(4,5),(8,9),(15,25)] (G0 [(8,aI)] [(8,9),(15,22)] E6)) E6))) E6)))))) E6))) [(5,(.l [0,1,2,4,5,3,6,7]))] (args:=[(.func (.func 26) #[xL (dB a)] #[]),s]);have ab:=(J.at [_] H).1.len;have U:=(J.at [_] H).2.1;have R:=(H.nil 3 1 av).ba;refine ak (λt:Sl×Nat×Pow×aG=>(t.1,(t.2.1:Int))) (λt h'=>t.2.1<=m8 P/\fX P w ds=fX (P.drop t.2.1) t.2.2.1 t.2.2.2/\aa B h0 h' (ai 3 t.1 1 av ((P.take t.2.1).map qC)::aJ bP a pw mc offs da t.2.2.1 t.2.2.2::As)) (λt=>m8 P-t.2.1) (⟨eH,0,0⟩,0,w,ds) m9 ⟨n4,m9,by simpa using R⟩ ?_;rintro⟨o,i,z,r⟩ h1 ⟨hi,f,I⟩;dsimp only at*;refine ae (λe=>?_) (λe=>?_)
 .have q:i<m8 P:=nb
  rw[qT q,lu]at f;have F1:=J.at [_,_] I;have K:=G _ (qe q);refine F1.1.cQ (g:=piv) i m9 nb (u[i]'nb) m9 ?_;refine I.alloc ag m9 λa4 Y A=>?_;have A:=A.ba;refine A.storeAll ag 0 m9 m9 (piv (u[i]'nb)) m9 m9 m9 m9 λh3 p=>?_;obtain⟨Q,O⟩:=Fix.row (J.at [_,_,_] p) q;have p:=p.aF 3 [2,0,1];obtain⟨ok,V⟩:=aa.cF p;obtain⟨c,m⟩:=HF (dX z r P[i].1 P[i].2)
  rw[<-m]at f;refine bn (λ_ h'=>c.1=0/\aa B h0 h' (aJ bP a pw mc offs da c.2.1 c.2.2::an a4 142 (piv (u[i]'nb))::ai 3 o 1 av ((P.take i).map qC)::As)) ?_ ?_
  .refine bn (λe h'=>e=c.1/\aa B h0 h' (aJ bP a pw mc offs da c.2.1 c.2.2::an a4 142 (piv (u[i]'nb))::ai 3 o 1 av ((P.take i).map qC)::As)) ?_ ?_
   .refine⟨P[i].1,by rw[<-Q];exact(p.box 1 m9).cell0 m9,(u[i]'nb).2,(p.box 1 m9).cell m9,fF pa ?_⟩;refine(jI P[i].1 ok V).mono ?_;rintro _ N ⟨rfl,rfl⟩;refine⟨_,m9,⟨(p.box 1 m9).cell m9,I0⟩,?_⟩;rcases gp ok P[i].1 with⟨c1,c2⟩|⟨n,d,b,c0,c1,c2,c3,c4,c5⟩
    .rw[c2];refine(IT (u[i]'nb).2 P[i].2 N O).mono ?_;rintro _ S ⟨rfl,rfl⟩;have D:c=(if P[i].2.length≠64 then 1 else 5,z,r):=by rw[m];unfold dX;rw[c1]
     refine⟨_,m9,I0,by rw[D],?_⟩;rw[D];exact p
    .rw[c5];obtain⟨b',j,M⟩:=Qw.aa.fD p c2;rw[c4]at j;injection j with j
     injection j with j
     subst j;refine(OK (u[i]'nb).2 P[i].2 M O K.2).G7 λh6 X=>?_;have H7:=Qw.aa.kW (k:=bP) (n:=n) c4 X;have D:c=((d.append z P[i].2).1,(d.append z P[i].2).2.1,r.set n (dB (d.append z P[i].2).2.2)):=by rw[m];unfold dX;rw[c3];simp only[iP,c0,qi]
     refine⟨_,m9,I0,by rw[D],?_⟩;rw[D];exact H7
   .rintro e4 N ⟨rfl,E⟩;refine bm (λe2=>?_) λe2=>⟨e2,E⟩
    rw[k4 e2]at f;have:layAll P w ds=c:=by unfold layAll;rw[f];exact k4 e2
    rw[this];exact⟨m9,E.nP.nP⟩
  .rintro _ N ⟨e2,E⟩;rw[hZ e2]at f;refine⟨P[i].1,by rw[<-Q];exact(E.box 1 m9).cell0 m9,?_⟩;refine E.push ag 2 m9 ge m9 nq (λ_=>rfl) dt P[i].1 m9 nq n2 λW S M=>?_;refine⟨(W,i+1,c.2.1,c.2.2),n3,⟨n1,f,?_⟩,n1⟩
   try dsimp only
   rw[aA _ _ q,qE];exact M.aF 3 [2,0]
 .have L:i=m8 P:=nb
  subst L;rw[List.drop_length]at f;rw[qt]at I;have A:=(I.freeze 0 m9 λ_=>rfl).aF 2 [1,0];have F:layAll P w ds=iY (gA (P.map qC)) z r:=by unfold layAll;rw[f];rfl
  refine(SK o (P.map qC) (St.dS 0 m9 λh' Z=>Z) n2 (λx T=>?_) A).mono ?_
  .obtain⟨y,hy,rfl⟩:=qI.1 T;exact(G y hy).1
  .rintro _ Y ⟨rfl,p⟩;refine⟨_,m9,by rw[F],?_⟩;rw[F];exact p.nP
theorem Fa(x:bc)(m:aB)(s:Sl)(a:aC)(h:hY)(hx:cv h x m)(G:bM m)(R:Rd h s 1 av a)(ad:m8 a<=2^10):
  aj xT 108 #[cC x,s] h λv h'=>∃(r:Sl) (Z:List (Int×Sl)),v=r/\Sp h h' [cB ey 2 piv r Z (bi m a)]:=by
 refine ts Tryz.func108 ?_ (F8 (F8 (F8 (E5 (F8 (E7 (E8 [(6,bJ),(15,aI)] [(6,7),(8,9),(10,11),(15,33)] (F8 (F8 (E5 (E7 (F8 (F8 (E7 (E8 [(6,bJ),(21,aI)] [(6,7),(10,11),(21,32)] E6))))) E6)))))) E6)))) (args:=[x,s]);refine(Sp.refl h).boxed λa1 U L=>?_;refine⟨x,(L.box 0 m9).aw _ m9,(lV x m U (hx.up L.ac) G).Hf λr h2 R2=>?_⟩;have y:=L.bS R2;refine⟨r,m9,?_⟩;obtain⟨rs,y⟩:=y.ML λ_=>rfl;have K:=jJ m G;obtain⟨d,E⟩:=HF (bG m)
 rw[<-E]at y K;have V:=y.dv 0 m9;have ah:=V.1.len;have ab:=V.2.1;have X:=R.len;obtain⟨T,I⟩:∃T:Int->List ((Int×Sl)×(Int×aT)),T=λn=>(rs.zip d).map λz=>((n,z.1),(n,z.2)):=⟨_,rfl⟩
 have f:∀n,(T n).length=m8 d:=λn=>by rw[I];simp;omega
 have Q:∀n,(T n).map zg=d.map λc=>(n,c):=λn=>by
  have G:=xj (l₁:=rs) (l₂:=d) nb
  conv=>rhs;rw[<-G]
  rw[I];simp[y0,Function.comp_def]
 have N:∀n j (J:j<m8 d),(T n)[j]'(by rw[f];exact J)=((n,rs[j]'nb),(n,d[j])):=λn j J=>by subst I;simp
 have w:=(y.nil 142 2 piv).bs [2,0];have D:∀i,i<=m8 a->((a.take i).flatMap T).length<=i*3000:=λi=>by
  induction i with
  |zero=>simp
  |succ i ih=>
   intro W;rw[aA _ _ (show i<m8 a by omega),za,qo];have U:=ih nb;have h2:([a[i]].flatMap T).length=m8 d:=by rw[zm,we,qL,f]
   omega
 refine ak (λt:Sl×Nat=>(t.1,(t.2:Int))) (λt h'=>t.2<=m8 a/\Sp h h' [ai 142 t.1 2 piv (((a.take t.2).flatMap T).map qC),cB (iR 1 aq) 1 bv r rs d]) (λt=>m8 a-t.2) (⟨eH,0,0⟩,0) m9 ⟨n4,w⟩ ?_;rintro⟨o,i⟩ h3 ⟨W,w⟩;dsimp only at*;refine ae (λe=>?_) (λe=>?_)
 .have F:i<m8 a:=nb
  have ht:=D i W;have hb:i*3000<=2^10*3000:=zk _ nb;refine(Seq.up R w.ac).aW i m9 F a[i] m9 ?_;refine ak (λt:Sl×Nat=>(t.1,(t.2:Int))) (λt h'=>t.2<=m8 d/\Sp h h' [ai 142 t.1 2 piv (((a.take i).flatMap T).map qC++((T a[i]).take t.2).map qC),cB (iR 1 aq) 1 bv r rs d]) (λt=>m8 d-t.2) (o,0) m9 ⟨n4,D0⟩ ?_;rintro⟨u,j⟩ h4 ⟨J,g⟩;dsimp only at*;refine ae (λe2=>?_) (λe2=>?_)
  .have B:j<m8 d:=nb
   refine(g.dv 1 m9).1.ly j m9 nb ?_;refine g.push ag 0 m9 MM m9 nq (λ_=>rfl) tC (a[i],rs[j]'nb) m9 nq (by simp only[qo,qn,qx,f];omega) λu' h5 Y=>?_;refine⟨(u',j+1),n3,⟨n1,?_⟩,n1⟩
   try dsimp only
   rw[aA (T a[i]) j (by rw[f];exact B),qE,N _ _ B,<-ql];exact Y
  .have P:j=m8 d:=nb
   subst P;rw[qh (l:=T a[i]) (by rw[f];exact qj _)]at g;refine⟨(u,i+1),n3,⟨n1,?_⟩,n1⟩
   try dsimp only
   rw[aA _ _ F,za,qE,zm,we,qL];exact g
 .have M:i=m8 a:=nb
  subst M;rw[qt]at w;refine⟨o,(a.flatMap T).map qC,m9,?_⟩;have g:=(w.freeze 0 m9 λ_=>rfl).kA;refine g.dY 0 m9 λq ⟨q1,q2,_,b,c,z1,z2⟩=>?_;have A:(a.flatMap T).map zg=bi m a:=by unfold bi;rw[List.map_flatMap,<-E];congr 1;funext n;exact Q n
  rw[<-A];refine⟨z2.mono c,n4,λj r' l' p H=>?_⟩;rw[qM]at p H;cases g3:(a.flatMap T)[j]? with
  |none=>rw[g3]at p;cases p
  |some t=>
   rw[g3]at p H;simp at p H;subst p;subst H;obtain⟨n,_,S⟩:=wM.1 (wj g3);rw[I]at S;obtain⟨z,O,rfl⟩:=qI.1 S;obtain⟨k,hk,rfl⟩:=List.mem_iff_getElem.1 O;rw[yl];exact⟨m9,(z1.2.2 k _ _ (qc _) (qc _)).mono b⟩
end
section
variable {d:List bw}
theorem SL{c d:List bw}{y:bw}(b:Sd cJ (c++d))(g:∀z∈c,cJ z y=eL)(f:∀z∈d,¬cJ z y=eL):Sd cJ (c++y::d):=
 Sd.app eJ b.left (zr.2 ⟨λz a=>eJ.CS (f z a),b.right⟩) λx e z a=>by
  rcases qN.1 a with rfl|a
  .exact g x e
  .exact b.Em x e z a
theorem AO(X M Y:List bw)(a b:Int)(ha:a=(m8 X:Int))(hb:b=(m8 X+m8 M:Nat))(ah:m8 X+m8 M+m8 Y<=2^40)(H:aa B h0 h (bV s (X++(M++Y))::As)):
  aj xT 311 #[s,xJ xP a,xJ xP b,.func (.func 171) #[] #[]] h λv h'=>v=.tuple #[]/\∃M',Sd cJ M'/\cI cJ M M'/\aa B h0 h' (bV s (X++(M'++Y))::As):=by
 refine ts Tryz.func311 ?_ (F8 (E7 (E8 [(8,aI)] [(8,10),(12,53)] (F8 (E5 (E7 (F8 (E7 (E8 [(9,aI)] [(9,10),(18,53)] (G0 [] [(18,35)] E6))))) E6))))) (args:=[s,(a:Int),(b:Int),(.func (.func 171) #[] #[])]);subst ha;subst hb;rw[af ((m8 X:Int)+1)];refine ak (λt:Nat×List bw=>((m8 X+1+t.1:Nat):Int)) (λt h'=>(t.1+1<=m8 M∨t.1=0)/\Sd cJ t.2/\cI cJ (M.take (t.1+1)) t.2/\t.2.length=(M.take (t.1+1)).length/\aa B h0 h' (bV s (X++(t.2++(M.drop (t.1+1)++Y)))::As)) (λt=>m8 M-t.1) (0,M.take 1) m9 ?_ ?_
 .refine⟨.inr m9,?_,cI.refl _,m9,?_⟩
  .cases M with
   |nil=>exact List.Pairwise.nil
   |cons x M=>exact zr.2 ⟨λ_ h=>C9,n4⟩
  .rw[<-ql (M.take (0+1)),qA];exact H
 rintro⟨t,P⟩ h1 ⟨ht,r,q,U,S⟩;dsimp only at*;refine ae (λe=>?_) (λe=>?_)
 .have K:t+1<m8 M:=nb
  obtain⟨y,hy⟩:=HF (M[t+1])
  have G:m8 P=t+1:=by rw[U];simp;omega
  have eD:M.drop (t+1)=y::M.drop (t+1+1):=by rw[qT K,hy]
  rw[eD]at S;refine ak (λu:List bw×List bw=>((m8 X+m8 u.1:Nat):Int)) (λu h'=>u.1++u.2=P/\(∀z∈u.2,¬cJ z y=eL)/\aa B h0 h' (bV s (X++(u.1++(y::(u.2++(M.drop (t+1+1)++Y)))))::As)) (λu=>m8 u.1) (P,[]) (by dsimp only;rw[G];congr 1;omega) ⟨n4,n4,by simpa using S⟩ ?_;rintro⟨c,d⟩ W ⟨L,f,J⟩;dsimp only at*;have ad:m8 c+m8 d=t+1:=by rw[<-G,<-L,qo]
  have done:∀{h':hY},(∀z∈c,cJ z y=eL)->aa B h0 h' (bV s (X++(c++(y::(d++(M.drop (t+1+1)++Y)))))::As)->
    ∃k:Nat×List bw,qd xP (((m8 X+1+t:Nat):Int)+1)=((m8 X+1+k.1:Nat):Int)/\((k.1+1<=m8 M∨k.1=0)/\Sd cJ k.2/\cI cJ (M.take (k.1+1)) k.2/\k.2.length=(M.take (k.1+1)).length/\aa B h0 h' (bV s (X++(k.2++(M.drop (k.1+1)++Y)))::As))/\M.length-k.1<m8 M-t:=λ{h'} hle H'=>by
   refine⟨(t+1,c++y::d),by dsimp only;rw[af _];omega,⟨.inl n1,?_,?_,?_,?_⟩,n1⟩
   .exact SL C3 hle f
   .try dsimp only
    rw[aA M (t+1) K,<-hy];have h1:cI cJ (M.take (t+1)++[y]) (P++[y]):=q.app (cI.refl _);refine h1.trans ?_;rw[<-L,ql];have W:cI cJ (d++[y]) ([y]++d):=cI.Ux eJ λx hx z O=>by rw[qB.1 O];exact f x hx
    exact(cI.refl _).app W
   ·(try dsimp only);simp;omega
   .try dsimp only
    have:X++((c++y::d)++(M.drop (t+1+1)++Y))=X++(c++(y::(d++(M.drop (t+1+1)++Y)))):=n4
    rw[this];exact H'
  obtain⟨D,N⟩:=HF (X++(c++(y::(d++(M.drop (t+1+1)++Y)))))
  refine bn (λ_ h'=>∃(Q:List bw) (z:bw),c=Q++[z]/\¬cJ z y=eL/\aa B h0 h' (bV s D::As)) ?_ ?_
  .rw[<-N]at J done;refine ae (λe2=>?_) (λe2=>⟨I0,done (λz O=>?_) J⟩)
   .have I:c≠[]:=λh=>by rw[h]at e2;simp at e2
    obtain⟨Q,z,o⟩:∃(Q:List bw) (z:bw),c=Q++[z]:=⟨c.dropLast,c.getLast I,(List.dropLast_concat_getLast I).symm⟩
    have ab:m8 c=m8 Q+1:=D7
    have g1:D[m8 X+m8 c]?=dB y:=by rw[N,qk nb,show X.length+m8 c-m8 X=m8 c by omega,qk nb,zd];rfl
    have g2:D[m8 X+m8 c-1]?=dB z:=by rw[N,qk nb,show X.length+m8 c-1-m8 X=m8 Q by omega,o,ql,qk (qj _),zd];rfl
    obtain⟨R,A⟩:=qm.1 g1;obtain⟨T,p⟩:=qm.1 g2;refine(J.seq 0 m9 λ_=>rfl).cQ (g:=bB) _ m9 R y E2 ?_;have V:qd xP (((m8 X+m8 c:Nat):Int)-1)=((m8 X+m8 c-1:Nat):Int):=o0
    rw[V];refine(J.seq 0 m9 λ_=>rfl).cQ (g:=bB) _ m9 T z (by rw[p]) (fF pa ?_);refine(pi y z W).G7 λh3 R3=>?_;have F:=J.up R3.ac;refine⟨_,m9,I0,ae (λZ=>⟨Q,z,o,(pT y z).1 Z,F⟩) λZ=>done (λw l=>?_) F⟩;have m:cJ z y=eL:=by
     by_cases hc:cJ z y=eL
     .exact hc
     .exact absurd ((pT y z).2 hc) Z
    rw[o]at l;rcases qw.1 l with l|l
    .refine eJ.trans _ _ _ ?_ m;have:Sd cJ (Q++[z]):=by rw[<-o];exact Sd.left (v:=d) C3
     exact this.Em w l z n4
    .rw[qB.1 l];exact m
   .have:c=[]:=by
     cases c with
     |nil=>rfl
     |cons x P=>exfalso;simp only[q7]at e2;omega
    rw[this]at O;cases O
  .rintro _ h3 ⟨Q,z,o,m,F⟩;have ab:m8 c=m8 Q+1:=D7
   have E:D=(X++Q)++z::([]++y::(d++(M.drop (t+1+1)++Y))):=by rw[N,o];simp
   obtain⟨q1,q2,q3,q4⟩:=MH (X++Q) [] (d++(M.drop (t+1+1)++Y)) z y (i:=m8 X+m8 c-1) (j:=m8 X+m8 c) n2 n2;rw[<-E]at q1 q2 q3 q4;obtain⟨T,p⟩:=qm.1 q1;obtain⟨R,A⟩:=qm.1 q2;have V:qd xP (((m8 X+m8 c:Nat):Int)-1)=((m8 X+m8 c-1:Nat):Int):=o0
   rw[V];refine(F.seq 0 m9 λ_=>rfl).cQ (g:=bB) _ m9 T z (by rw[p]) ?_;refine(F.seq 0 m9 λ_=>rfl).cQ (g:=bB) _ m9 R y E2 ?_;refine F.set ag 0 m9 (λ_=>rfl) m9 (m8 X+m8 c) m9 R z m9 m9 m9 λh4 H4=>⟨I0,?_⟩
   refine H4.set ag 0 m9 (λ_=>rfl) m9 (m8 X+m8 c-1) m9 (by simpa using T) y m9 m9 m9 λh5 H5=>⟨I0,?_⟩
   refine⟨(Q,z::d),by dsimp only;congr 1;omega,⟨by dsimp only;rw[<-L,o];simp,?_,?_⟩,n1⟩
   .try dsimp only
    intro w l;rcases qN.1 l with rfl|l
    .exact m
    .exact f w l
   .try dsimp only
    have:X++(Q++(y::(z::d++(M.drop (t+1+1)++Y))))=(X++Q)++y::([]++z::(d++(M.drop (t+1+1)++Y))):=n4
    rw[this,<-q4];exact H5
 .refine⟨m9,P,r,?_,?_⟩
  .rw[qh nb]at q;exact q
  .rw[zh nb]at S;simpa using S
end
theorem EI(x y:Nat)(h:x+y<=2^62:=by omega):qd xP (zp (qd xS (qd xP ((x:Int)+(y:Int)))) (2^min (1:Int).toNat (qq xS)))=(((x+y)/2:Nat):Int):=by
 rw[af ((x:Int)+y)];have e:qd xS ((x:Int)+(y:Int))=(x:Int)+y:=by unfold qd;simp[qq,yC];omega
 rw[e,show min (1:Int).toNat (qq xS)=1 from m9,Int.fdiv_eq_ediv_of_nonneg _ nq,af _];omega
section
variable {d:List bw}
theorem Ak{x y:bw}(h:¬lW x y<0):cJ y x=eL:=by
 by_cases a:cJ y x=eL
 .exact a
 .exact absurd ((pT x y).2 a) h
theorem kp{K:bw->Prop}(H:aa B h0 h (bV s d::As)){i:Int}(n:Nat)(e:i=n){x:bw}(c:d[n]?=dB x)(j:K x):
  ∃a:fY,(s.ptr=dB a/\0<=i/\i<((s.len:Nat):Int))/\∃x:bw,bp h (a.add (i.toNat*8)) 0 (bB x)/\K x:=by
 obtain⟨f,b⟩:=qm.1 c;exact(H.seq 0 m9 λ_=>rfl).cQ (g:=bB) n e f x (by rw[b]) j
theorem IV(x:bw)(X R Y:List bw)(ah:m8 X+1+m8 R+m8 Y<=2^40)(J:Sd cJ R)(H:aa B h0 h (bV s (X++(x::(R++Y)))::As)){K:Ac}
  (d:∀h',(∃M,Sd cJ M/\cI cJ (x::R) M/\aa B h0 h' (bV s (X++(M++Y))::As))->K (.tuple #[]) h') (a m b:Int) (ha:a=(m8 X:Int)) (hm:m=(m8 X+1:Nat)) (hb:b=(m8 X+1+m8 R:Nat)):
  gr (σ:=Int×Int) (λc K1 g=>
   Br (decide (c.1<c.2))
   ((0<=(1:Int))/\
   ∃a2:fY,(s.ptr=dB a2/\0<=(qd xP (zp (qd xS (qd xP (c.1+c.2))) (2^min (1:Int).toNat (qq xS))))/\(qd xP (zp (qd xS (qd xP (c.1+c.2))) (2^min (1:Int).toNat (qq xS))))<((s.len:Nat):Int))/\
   ∃x3:bw,bp g (a2.add ((qd xP (zp (qd xS (qd xP (c.1+c.2))) (2^min (1:Int).toNat (qq xS)))).toNat*8)) 0 (bB x3)/\
   ∃a4:fY,(s.ptr=dB a4/\0<=a/\a<((s.len:Nat):Int))/\
   ∃x5:bw,bp g (a4.add (a.toNat*8)) 0 (bB x5)/\
   tK C 171 ((#[]:Array Value).toList++[recv x3,recv x5]++(#[]:Array Value).toList) (.one (.sc (.int .i64))) g λr6 n=>
   (bK.ok [] n)/\
   Br (decide (r6<(0:Int)))
   (K1 (qd xP ((qd xP (zp (qd xS (qd xP (c.1+c.2))) (2^min (1:Int).toNat (qq xS))))+(1:Int)),c.2) n)
   (K1 (c.1,qd xP (zp (qd xS (qd xP (c.1+c.2))) (2^min (1:Int).toNat (qq xS)))) n))
   (gr (σ:=Int) (λf K2 h3=>
   Br (decide (f<(qd xP (c.1-(1:Int)))))
   (∃a8:fY,(s.ptr=dB a8/\0<=(qd xP (f+(1:Int)))/\(qd xP (f+(1:Int)))<((s.len:Nat):Int))/\
   ∃x9:bw,bp h3 (a8.add ((qd xP (f+(1:Int))).toNat*8)) 0 (bB x9)/\
   ∃y:fY,(s.ptr=dB y/\0<=f/\f<((s.len:Nat):Int))/\
   ∃G:bw,bp h3 (y.add (f.toNat*8)) 0 (bB G)/\
   ∃A:fY,(s.ptr=dB A/\0<=f/\f<((s.len:Nat):Int))/\
   au xT (qG 128 (xL (dB (A.add (f.toNat*8)))) (recv x9)) h3 λ_ Q=>
   (bK.ok [] Q)/\
   ∃L:fY,(s.ptr=dB L/\0<=(qd xP (f+(1:Int)))/\(qd xP (f+(1:Int)))<((s.len:Nat):Int))/\
   au xT (qG 128 (xL (dB (L.add ((qd xP (f+(1:Int))).toNat*8)))) (recv G)) Q λ_ U=>
   (bK.ok [] U)/\
   K2 (qd xP (f+(1:Int))) U)
   (K (.tuple #[]) h3)) a g)) (m,b) h:=by
 subst ha;subst hm;subst hb;refine ak (λt:Nat×Nat=>(((m8 X+1+t.1:Nat):Int),((m8 X+1+t.2:Nat):Int))) (λt h'=>t.1<=t.2/\t.2<=m8 R/\(∀k (d:k<m8 R),k<t.1->¬cJ x R[k]=eL)/\(∀k (d:k<m8 R),t.2<=k->cJ x R[k]=eL)/\aa B h0 h' (bV s (X++(x::(R++Y)))::As)) (λt=>t.2-t.1) (0,m8 R) m9 ⟨n4,n4,λ_ _ h=>C9,λ_ g n=>absurd g (by simpa using n),H⟩ ?_;rintro⟨i,j⟩ g ⟨ad,hj,q,D,N⟩;dsimp only at*;refine ae (λe=>?_) (λe=>?_)
 .have o:i<j:=nb
  rw[EI _ _];have eh:((m8 X+1+i)+(m8 X+1+j))/2=m8 X+1+(i+j)/2:=nb
  rw[eh];have d:(i+j)/2<m8 R:=nb
  refine⟨nq,kp N _ m9 (x:=R[(i+j)/2]) ?_ (kp N X.length m9 (x:=x) ?_ (fF pa ?_))⟩
  .rw[qk nb,show X.length+1+(i+j)/2-m8 X=(i+j)/2+1 by omega,qO,qu d,qc d]
  .rw[qk (qj _),zd];rfl
  refine(pi R[(i+j)/2] x g).G7 λn R2=>?_;have H2:=N.up R2.ac;refine⟨_,m9,I0,ae (λe2=>?_) λe2=>?_⟩
  .have P:=(pT _ _).1 e2;refine⟨((i+j)/2+1,j),n3,⟨n1,hj,λk I W=>?_,D,H2⟩,n1⟩;intro hc;exact P (eJ.trans _ _ _ hc (J.at_ eJ (i:=k) (j:=(i+j)/2) (by dsimp only at W;omega) d))
  .refine⟨(i,(i+j)/2),m9,⟨n1,n1,q,λk I S=>?_,H2⟩,n1⟩;exact eJ.trans _ _ _ (Ak e2) (J.at_ eJ (by dsimp only at S;omega) I)
 .have o:i=j:=nb
  subst o;have hM:Sd cJ (R.take i++x::R.drop i):=by
   refine Sd.app eJ (Sd.left (v:=R.drop i) (by rw[qA];exact J)) (zr.2 ⟨λz r=>?_,Sd.right (u:=R.take i) (by rw[qA];exact J)⟩) λz r w E=>?_
   .obtain⟨k,d,rfl⟩:=qD r;rw[zM];exact D _ _ nb
   .obtain⟨k,d,rfl⟩:=qD r;rw[zH];have V:k<i:=tq
    have g:=eJ.CS (q k tq V);rcases qN.1 E with rfl|E
    .exact g
    .obtain⟨l,hl,rfl⟩:=qD E;rw[zM];exact J.at_ eJ nb (by simp at hl;omega)
  have hE:cI cJ (x::R) (R.take i++x::R.drop i):=by
   have g:cI cJ ([x]++R.take i) (R.take i++[x]):=cI.Ux eJ λz r w E=>by
    rw[qB.1 r];obtain⟨k,d,rfl⟩:=qD E;rw[zH];exact q k tq tq
   have n:=g.app (cI.refl (le:=cJ) (R.drop i));have e1:([x]++R.take i)++R.drop i=x::R:=by rw[ql,qA];rfl
   have e2:(R.take i++[x])++R.drop i=R.take i++x::R.drop i:=n4
   rw[e1,e2]at n;exact n
  have el:qd xP (((m8 X+1+i:Nat):Int)-1)=((m8 X+i:Nat):Int):=o0
  rw[el];refine ak (λt:Nat=>((m8 X+t:Nat):Int)) (λt h'=>t<=i/\aa B h0 h' (bV s (X++(R.take t++(x::(R.drop t++Y))))::As)) (λt=>i-t) 0 m9 ⟨nb,by simpa using N⟩ ?_;rintro t h3 ⟨ht,O⟩;refine ae (λe2=>?_) (λe2=>?_)
  .have ab:t<i:=nb
   have F:t<m8 R:=nb
   have p:X++(R.take t++(x::(R.drop t++Y)))=(X++R.take t)++x::([]++R[t]::(R.drop (t+1)++Y)):=by rw[qT F];simp only[ql,zD,wX]
   obtain⟨Z,T,q3,q4⟩:=MH (X++R.take t) [] (R.drop (t+1)++Y) x R[t] (i:=m8 X+t) (j:=m8 X+t+1) n2 n2;rw[<-p]at Z T q3 q4;have ek:qd xP (((m8 X+t:Nat):Int)+1)=((m8 X+t+1:Nat):Int):=o0
   rw[ek];refine kp O _ m9 T (kp O _ m9 Z ?_);refine O.set ag 0 m9 (λ_=>rfl) m9 (m8 X+t) m9 (qm.1 Z).1 R[t] m9 m9 m9 λQ H4=>⟨I0,?_⟩
   refine H4.set ag 0 m9 (λ_=>rfl) m9 (m8 X+t+1) m9 (by rw[qP];exact(qm.1 T).1) x m9 m9 m9 λU H5=>⟨I0,?_⟩
   refine⟨t+1,m9,⟨nb,?_⟩,nb⟩;have e3:X++(R.take (t+1)++(x::(R.drop (t+1)++Y)))=(X++R.take t)++R[t]::([]++x::(R.drop (t+1)++Y)):=by rw[aA R t F];simp only[ql,zD,wX]
   rw[e3,<-q3];exact H5
  .have:t=i:=nb
   subst this;refine d h3 ⟨R.take t++x::R.drop t,hM,hE,?_⟩;have:X++((R.take t++x::R.drop t)++Y)=X++(R.take t++(x::(R.drop t++Y))):=n4
   rw[this];exact O
theorem Hk(y:bw)(X L Y:List bw)(ax:m8 X+m8 L+1+m8 Y<=2^40)(O:Sd cJ L)(H:aa B h0 h (bV s (X++(L++(y::Y)))::As)){K:Ac}
  (d:∀h',(∃M,Sd cJ M/\cI cJ (L++[y]) M/\aa B h0 h' (bV s (X++(M++Y))::As))->K (.tuple #[]) h') (a m:Int) (ha:a=(m8 X:Int)) (hm:m=(m8 X+m8 L:Nat)):
  gr (σ:=Int×Int) (λb K3 W=>
   Br (decide (b.1<b.2))
   ((0<=(1:Int))/\
   ∃p:fY,(s.ptr=dB p/\0<=m/\m<((s.len:Nat):Int))/\
   ∃r:bw,bp W (p.add (m.toNat*8)) 0 (bB r)/\
   ∃q:fY,(s.ptr=dB q/\0<=(qd xP (zp (qd xS (qd xP (b.1+b.2))) (2^min (1:Int).toNat (qq xS))))/\(qd xP (zp (qd xS (qd xP (b.1+b.2))) (2^min (1:Int).toNat (qq xS))))<((s.len:Nat):Int))/\
   ∃T:bw,bp W (q.add ((qd xP (zp (qd xS (qd xP (b.1+b.2))) (2^min (1:Int).toNat (qq xS)))).toNat*8)) 0 (bB T)/\
   tK C 171 ((#[]:Array Value).toList++[recv r,recv T]++(#[]:Array Value).toList) (.one (.sc (.int .i64))) W λah h7=>
   (bK.ok [] h7)/\
   Br (!(decide (ah<(0:Int))))
   (K3 (qd xP ((qd xP (zp (qd xS (qd xP (b.1+b.2))) (2^min (1:Int).toNat (qq xS))))+(1:Int)),b.2) h7)
   (K3 (b.1,qd xP (zp (qd xS (qd xP (b.1+b.2))) (2^min (1:Int).toNat (qq xS)))) h7))
   (gr (σ:=Int) (λc K4 h8=>
   Br (decide (c>b.1))
   (∃A:fY,(s.ptr=dB A/\0<=(qd xP (c-(1:Int)))/\(qd xP (c-(1:Int)))<((s.len:Nat):Int))/\
   ∃F:bw,bp h8 (A.add ((qd xP (c-(1:Int))).toNat*8)) 0 (bB F)/\
   ∃I:fY,(s.ptr=dB I/\0<=c/\c<((s.len:Nat):Int))/\
   ∃Q:bw,bp h8 (I.add (c.toNat*8)) 0 (bB Q)/\
   ∃a25:fY,(s.ptr=dB a25/\0<=c/\c<((s.len:Nat):Int))/\
   au xT (qG 128 (xL (dB (a25.add (c.toNat*8)))) (recv F)) h8 λ_ h9=>
   (bK.ok [] h9)/\
   ∃G:fY,(s.ptr=dB G/\0<=(qd xP (c-(1:Int)))/\(qd xP (c-(1:Int)))<((s.len:Nat):Int))/\
   au xT (qG 128 (xL (dB (G.add ((qd xP (c-(1:Int))).toNat*8)))) (recv Q)) h9 λ_ E=>
   (bK.ok [] E)/\
   K4 (qd xP (c-(1:Int))) E)
   (K (.tuple #[]) h8)) m W)) (a,m) h:=by
 subst ha;subst hm;refine ak (λt:Nat×Nat=>(((m8 X+t.1:Nat):Int),((m8 X+t.2:Nat):Int))) (λt h'=>t.1<=t.2/\t.2<=m8 L/\(∀k (d:k<m8 L),k<t.1->cJ L[k] y=eL)/\(∀k (d:k<m8 L),t.2<=k->¬cJ L[k] y=eL)/\aa B h0 h' (bV s (X++(L++(y::Y)))::As)) (λt=>t.2-t.1) (0,m8 L) m9 ⟨n4,n4,λ_ _ h=>C9,λ_ g P=>absurd g (by simpa using P),H⟩ ?_;rintro⟨i,j⟩ g ⟨ao,hj,U,n,V⟩;dsimp only at*;refine ae (λe=>?_) (λe=>?_)
 .have f:i<j:=nb
  rw[EI _ _];have eh:((m8 X+i)+(m8 X+j))/2=m8 X+(i+j)/2:=nb
  rw[eh];have d:(i+j)/2<m8 L:=nb
  refine⟨nq,kp V (m8 X+m8 L) m9 (x:=y) ?_ (kp V _ m9 (x:=L[(i+j)/2]) ?_ (fF pa ?_))⟩
  .rw[qk nb,show X.length+m8 L-m8 X=m8 L by omega,qk (qj _),zd];rfl
  .rw[qk nb,show X.length+(i+j)/2-m8 X=(i+j)/2 by omega,qu d,qc d]
  refine(pi y L[(i+j)/2] g).G7 λP R2=>?_;have H2:=V.up R2.ac;refine⟨_,m9,I0,?_⟩;by_cases e2:lW y L[(i+j)/2]<0
  .have ab:=(pT _ _).1 e2;refine aH (λR=>absurd R u0) λ_=>?_;refine⟨(i,(i+j)/2),m9,⟨n1,n1,U,λk S ad=>?_,H2⟩,n1⟩;intro hc;exact ab (eJ.trans _ _ _ (O.at_ eJ (i:=(i+j)/2) (j:=k) (by dsimp only at ad;omega) S) hc)
  .refine aH (λ_=>?_) λR=>absurd R u0;refine⟨((i+j)/2+1,j),n3,⟨n1,hj,λk S am=>?_,n,H2⟩,n1⟩;exact eJ.trans _ _ _ (O.at_ eJ (by dsimp only at am;omega) d) (Ak e2)
 .have f:i=j:=nb
  subst f;have hM:Sd cJ (L.take i++y::L.drop i):=by
   refine Sd.app eJ (Sd.left (v:=L.drop i) (by rw[qA];exact O)) (zr.2 ⟨λz D=>?_,Sd.right (u:=L.take i) (by rw[qA];exact O)⟩) λz D w J=>?_
   .obtain⟨k,d,rfl⟩:=qD D;rw[zM];exact eJ.CS (n _ tq nb)
   .obtain⟨k,d,rfl⟩:=qD D;rw[zH];have al:k<i:=tq
    have g:=U k tq al;rcases qN.1 J with rfl|J
    .exact g
    .obtain⟨l,hl,rfl⟩:=qD J;rw[zM];exact O.at_ eJ nb (by simp at hl;omega)
  have hE:cI cJ (L++[y]) (L.take i++y::L.drop i):=by
   have g:cI cJ (L.drop i++[y]) ([y]++L.drop i):=cI.Ux eJ λz D w J=>by
    rw[qB.1 J];obtain⟨k,d,rfl⟩:=qD D;rw[zM];exact n _ tq nb
   have P:=(cI.refl (le:=cJ) (L.take i)).app g;have e1:L.take i++(L.drop i++[y])=L++[y]:=by rw[<-ql,qA]
   rw[e1]at P;exact P
  refine ak (λt:Nat=>((m8 X+t:Nat):Int)) (λt h'=>i<=t/\t<=m8 L/\aa B h0 h' (bV s (X++(L.take t++(y::(L.drop t++Y))))::As)) (λt=>t-i) L.length m9 ⟨nb,nb,by simpa using V⟩ ?_;rintro t h3 ⟨ht,ap,Z⟩;refine ae (λe2=>?_) (λe2=>?_)
  .obtain⟨u,rfl⟩:∃u,t=u+1:=⟨t-1,nb⟩
   have N:u<m8 L:=nb
   have o:X++(L.take (u+1)++(y::(L.drop (u+1)++Y)))=(X++L.take u)++L[u]::([]++y::(L.drop (u+1)++Y)):=by rw[aA L u N];simp only[ql,zD,wX]
   obtain⟨q1,q2,q3,q4⟩:=MH (X++L.take u) [] (L.drop (u+1)++Y) L[u] y (i:=m8 X+u) (j:=m8 X+(u+1)) n2 n2;rw[<-o]at q1 q2 q3 q4;have ek:qd xP (((m8 X+(u+1):Nat):Int)-1)=((m8 X+u:Nat):Int):=o0
   rw[ek];refine kp Z _ m9 q1 (kp Z _ m9 q2 ?_);refine Z.set ag 0 m9 (λ_=>rfl) m9 (m8 X+(u+1)) m9 (qm.1 q2).1 L[u] m9 m9 m9 λh4 H4=>⟨I0,?_⟩
   refine H4.set ag 0 m9 (λ_=>rfl) m9 (m8 X+u) m9 (by rw[qP];exact(qm.1 q1).1) y m9 m9 m9 λh5 H5=>⟨I0,?_⟩
   refine⟨u,m9,⟨nb,nb,?_⟩,nb⟩;have R:X++(L.take u++(y::(L.drop u++Y)))=(X++L.take u)++y::([]++L[u]::(L.drop (u+1)++Y)):=by rw[qT N];simp only[ql,zD,wX]
   rw[R,<-q4];exact H5
  .have:t=i:=nb
   subst this;refine d h3 ⟨L.take t++y::L.drop t,hM,hE,?_⟩;have:X++((L.take t++y::L.drop t)++Y)=X++(L.take t++(y::(L.drop t++Y))):=n4
   rw[this];exact Z
end
theorem Vu{L R:List bw}(k:Sd cJ L)(h:Sd cJ R)(p q:Nat)(r:p<=m8 L)(s:q<=m8 R)
  (m:∀i j (c:i<m8 L) (b:j<m8 R),i+1=p->j=q->cJ L[i] R[j]=eL)
  (o:∀i j (c:i<m8 L) (b:j<m8 R),i=p->j+1=q->¬cJ L[i] R[j]=eL):
  (∀x∈L.take p,∀y∈R.drop q,cJ x y=eL)/\(∀x∈L.drop p,∀y∈R.take q,¬cJ x y=eL):=by
 constructor
 .intro x e y g;obtain⟨i,c,rfl⟩:=qD e;obtain⟨j,b,rfl⟩:=qD g;rw[zH,zM];have a:i<p:=by simp at c;omega
  have d:q+j<m8 R:=by simp at b;omega
  have f:=k.at_ eJ (i:=i) (j:=p-1) nb nb;have n:=m (p-1) q nb nb nb m9;have h3:=h.at_ eJ (i:=q) (j:=q+j) nb d;exact eJ.trans _ _ _ f (eJ.trans _ _ _ n h3)
 .intro x e y g l;obtain⟨i,c,rfl⟩:=qD e;obtain⟨j,b,rfl⟩:=qD g;rw[zH,zM]at l;have d:j<q:=by simp at b;omega
  have a:p+i<m8 L:=by simp at c;omega
  have f:=k.at_ eJ (i:=p) (j:=p+i) nb a;have h3:=h.at_ eJ (i:=j) (j:=q-1) nb nb;exact o p (q-1) nb nb m9 nb (eJ.trans _ _ _ f (eJ.trans _ _ _ l h3))
theorem Cq:∀(N:Nat) {B:ar} {h0 h:hY} {As:List HP} {s:Sl} (X L R Y:List bw) (a m b:Int),0<m8 L->0<m8 R->m8 L+m8 R<=N->a=(m8 X:Int)->m=(m8 X+m8 L:Nat)->b=(m8 X+m8 L+m8 R:Nat)->m8 X+m8 L+m8 R+m8 Y<=2^40->Sd cJ L->Sd cJ R->
  aa B h0 h (bV s (X++(L++(R++Y)))::As)->
  aj xT 312 #[s,xJ xP a,xJ xP m,xJ xP b,.func (.func 171) #[] #[]] h λv h'=>v=.tuple #[]/\∃M,Sd cJ M/\cI cJ (L++R) M/\aa B h0 h' (bV s (X++(M++Y))::As):=by
 intro N
 induction N with
 |zero=>intro B h0 h As s X L R Y a m b hL hR hN;omega
 |succ N ih=>
  intro B h0 h As s X L R Y a m b hL hR hN ha hm hb ah W sR H;refine ts Tryz.func312 ?_ (E5 (F8 (E5 (F8 (F8 (E5 (E7 (E8 [(10,aI),(11,aI)] [(10,13),(31,54)] E6)) (F9 [(13,aI)] [(13,14),(55,77)])))) E6)) (E5 (F8 (E5 (F8 (F8 (E5 (E7 (E8 [(14,aI),(15,aI)] [(14,17),(83,107)] E6)) (F9 [(17,aI)] [(17,18),(108,129)])))) E6)) (F8 (F8 (F8 (G0 [(20,aI),(21,aI)] [(20,22),(138,147)] (F8 (E5 (E7 (E8 [(20,aI),(21,aI)] [(20,22),(23,24),(149,175)] E6)) (F8 (G0 [] [(178,192)] (G0 [] [(192,206)] E6))))))))))) (args:=[s,(a:Int),(m:Int),(b:Int),(.func (.func 171) #[] #[])]);have e1:qd xP (m-a)=(m8 L:Int):=o0
  have e2:qd xP (b-m)=(m8 R:Int):=o0
  rw[e1,e2];refine aZ (λc=>?_) λc=>aZ (λc2=>?_) λc2=>?_
  .obtain⟨x,hx⟩:∃x,L=[x]:=by
    match L,hL,c with
    |[x],_,_=>exact⟨x,m9⟩
    |x::y::L,_,c=>simp at c;omega
   subst hx;exact IV (K:=λv h'=>v=.tuple #[]/\∃M,Sd cJ M/\cI cJ ([x]++R) M/\aa B h0 h' (bV s (X++(M++Y))::As)) x X R Y (by simp at ah⊢;omega) sR H (λh' ⟨M,q1,P,q3⟩=>⟨m9,M,q1,P,q3⟩) a m b ha (by rw[hm];simp) (by rw[hb];simp)
  .obtain⟨y,hy⟩:∃y,R=[y]:=by
    match R,hR,c2 with
    |[x],_,_=>exact⟨x,m9⟩
    |x::y::L,_,c=>simp at c;omega
   subst hy;exact Hk (K:=λv h'=>v=.tuple #[]/\∃M,Sd cJ M/\cI cJ (L++[y]) M/\aa B h0 h' (bV s (X++(M++Y))::As)) y X L Y (by simp at ah⊢;omega) W H (λh' ⟨M,q1,P,q3⟩=>⟨m9,M,q1,P,q3⟩) a m ha hm
  .refine⟨nq,?_⟩;subst ha;subst hm;subst hb;have c':m8 L≠1:=λA=>c nb;have bq:m8 R≠1:=λA=>c2 nb;rw[EI X.length (m8 X+m8 L+m8 R)];obtain⟨Cj,U⟩:=HF ((m8 X+(m8 X+m8 L+m8 R))/2)
   rw[<-U];have en:qd xP ((Cj:Int)+((m8 X+m8 L:Nat):Int))=((Cj+(m8 X+m8 L):Nat):Int):=o0
   rw[en];obtain⟨n,hn⟩:=HF (Cj+(m8 X+m8 L))
   rw[<-hn];have ep:qd xP ((n:Int)-1)=((n-1:Nat):Int):=o0
   rw[ep];obtain⟨D,hD⟩:=HF (X++(L++(R++Y)))
   have gL:∀i (f:i<m8 L),D[m8 X+i]?=dB L[i]:=λi f=>by
    rw[hD,qk nb,wF,qu f,qc f]
   have gR:∀i (f:i<m8 R),D[m8 X+m8 L+i]?=dB R[i]:=λi f=>by
    rw[hD,qk nb,show X.length+m8 L+i-m8 X=m8 L+i by omega,qk nb,wF,qu f,qc f]
   rw[<-hD]at H;refine bn (λ(k:Int×Int) h'=>h'=h/\∃o f:Nat,k=((o:Int),(f:Int))/\o<=f/\X.length<=o/\f<=m8 X+m8 L/\f<=Cj/\n<=o+(m8 X+m8 L+m8 R)/\(o=m8 X∨n=o+(m8 X+m8 L+m8 R))/\(f=m8 X+m8 L∨f=Cj)) ?_ ?_
   .refine ae (λe=>⟨m9,n-(m8 X+m8 L+m8 R),Cj,?_,nb,nb,nb,nb,nb,nb,nb⟩) λe=>⟨m9,m8 X,m8 X+m8 L,m9,nb,nb,nb,nb,nb,nb,nb⟩
    have:qd xP ((n:Int)-((m8 X+m8 L+m8 R:Nat):Int))=((n-(m8 X+m8 L+m8 R):Nat):Int):=o0
    rw[this]
   .rintro⟨bk,bl⟩ _ ⟨rfl,o,f,a9,b1,b2,b3,b4,b5,b6,b7⟩;injection a9 with est1 est2
    subst est1;subst est2
    try dsimp only
    refine ak (λt:Nat×Nat=>((t.1:Int),(t.2:Int))) (λt h'=>o<=t.1/\t.1<=t.2/\t.2<=f/\
     (∀i j (l:i<m8 L) (S:j<m8 R),m8 X+i+1=t.1->m8 X+i+(m8 X+m8 L+j)=n-1->o<t.1->cJ L[i] R[j]=eL)/\
     (∀i j (l:i<m8 L) (S:j<m8 R),m8 X+i=t.2->m8 X+i+(m8 X+m8 L+j)=n-1->t.2<f->¬cJ L[i] R[j]=eL)/\
     aa B h0 h' (bV s D::As)) (λt=>t.2-t.1) (o,f) m9 ⟨n4,by simpa using b1,n4,λ_ _ _ _ _ _ F=>absurd F n4,λ_ _ _ _ _ _ F=>absurd F n4,H⟩ ?_
    rintro⟨k,r⟩ h1 ⟨t1,t2,t3,F1,F2,H1⟩;dsimp only at*;refine ae (λe=>?_) (λe=>?_)
    .have F:k<r:=nb
     rw[EI _ _];obtain⟨G,al⟩:=HF ((k+r)/2)
     rw[<-al];have bb:qd xP (((n-1:Nat):Int)-(G:Int))=((n-1-G:Nat):Int):=o0
     rw[bb];obtain⟨i,l⟩:∃i,G=m8 X+i:=⟨G-m8 X,nb⟩
     obtain⟨j,a4⟩:∃j,n-1-G=m8 X+m8 L+j:=⟨n-1-G-(m8 X+m8 L),nb⟩
     have a5:i<m8 L:=nb
     have ao:j<m8 R:=nb
     rw[a4,l];refine⟨nq,kp H1 _ m9 (gR j ao) (kp H1 _ m9 (gL i a5) (fF pa ?_))⟩;refine(pi R[j] L[i] h1).G7 λh2 R2=>?_;have I:=H1.up R2.ac;refine⟨_,m9,I0,?_⟩;by_cases e2:lW R[j] L[i]<0
     .have am:=(pT _ _).1 e2;refine aH (λe3=>absurd e3 u0) λ_=>?_;refine⟨(k,m8 X+i),m9,⟨t1,n1,n1,F1,λi2 j2 a7 a0 z E _=>?_,I⟩,n1⟩;dsimp only at z;have:i2=i:=nb
      subst this;have:j2=j:=nb
      subst this;exact am
     .refine aH (λ_=>?_) λe3=>absurd e3 u0;refine⟨(m8 X+i+1,r),n3,⟨n1,n1,t3,λi2 j2 a7 a0 z E _=>?_,F2,I⟩,n1⟩;dsimp only at z;have:i2=i:=nb
      subst this;have:j2=j:=nb
      subst this;exact Ak e2
    .have a2:k=r:=nb
     subst a2;have a6:qd xP ((n:Int)-(k:Int))=((n-k:Nat):Int):=o0
     rw[a6];obtain⟨p,hp⟩:∃p,k=m8 X+p:=⟨k-m8 X,nb⟩
     obtain⟨q,hq⟩:∃q,n-k=m8 X+m8 L+q:=⟨n-k-(m8 X+m8 L),nb⟩
     have a1:p<=m8 L:=nb
     have a3:q<=m8 R:=nb
     obtain⟨ax,a8⟩:=Vu W sR p q a1 a3 (λi j l S z E=>F1 i j l S nb nb (by
      by_cases bd:o<k
      .exact bd
      .exfalso;have:k=o:=nb
       omega)) (λi j l S z E=>F2 i j l S nb nb (by
      by_cases ay:k<f
      .exact ay
      .exfalso;have:k=f:=nb
       omega))
     have Z:L.take p++L.drop p=L:=qA _ _;have V:R.take q++R.drop q=R:=qA _ _;have l1:(L.take p).length=p:=n2
     have l2:(L.drop p).length=m8 L-p:=n4
     have r1:(R.take q).length=q:=n2
     have r2:(R.drop q).length=m8 R-q:=n4
     have ad:Sd cJ (L.take p):=Sd.left (v:=L.drop p) (by rw[Z];exact W);have Q:Sd cJ (L.drop p):=Sd.right (u:=L.take p) (by rw[Z];exact W);have ab:Sd cJ (R.take q):=Sd.left (v:=R.drop q) (by rw[V];exact sR);have T:Sd cJ (R.drop q):=Sd.right (u:=R.take q) (by rw[V];exact sR);rw[hq,hp];refine bn (λ_ h'=>aa B h0 h' (bV s (X++(L.take p++(R.take q++(L.drop p++(R.drop q++Y)))))::As)) ?_ ?_
     .have w:aa B h0 h1 (bV s ((X++L.take p)++(L.drop p++(R.take q++(R.drop q++Y))))::As):=by
       have:(X++L.take p)++(L.drop p++(R.take q++(R.drop q++Y)))=D:=by
        rw[hD]
        conv=>rhs;rw[<-Z,<-V]
        simp only[ql,zD,wX]
       rw[this];exact H1
      refine ae (λz=>ae (λE=>?_) λE=>?_) λz=>?_
      .refine(OO (X++L.take p) (L.drop p) (R.take q) (R.drop q++Y) _ _ _ nb nb n2 n2 n2 n2 w).G7 λh2 I=>⟨(),m9,?_⟩;rw[ql]at I;exact I
      .have:R.take q=[]:=qR nb;rw[this]at w⊢;simpa using w
      .have:L.drop p=[]:=qR nb;rw[this]at w⊢;simpa using w
     .rintro _ h2 I;refine bn (λ_ h'=>∃g,Sd cJ g/\cI cJ (L.take p++R.take q) g/\g.length=p+q/\aa B h0 h' (bV s (X++(g++(L.drop p++(R.drop q++Y))))::As)) ?_ ?_
      .have d:(L.take p=[]∨R.take q=[])->∃g,Sd cJ g/\cI cJ (L.take p++R.take q) g/\g.length=p+q/\aa B h0 h2 (bV s (X++(g++(L.drop p++(R.drop q++Y))))::As):=λJ=>by
        refine⟨L.take p++R.take q,?_,cI.refl _,n2,by rw[ql];exact I⟩;rcases J with A|A
        .rw[A];exact ab
        .rw[A,qL];exact ad
       refine ae (λz=>ae (λE=>?_) λE=>d (.inr (qR nb))) λz=>d (.inl (qR nb));refine(ih X (L.take p) (R.take q) (L.drop p++(R.drop q++Y)) _ _ _ nb nb nb m9 (by rw[l1]) (by rw[l1,r1];omega) n2 ad ab I).G7 λh3 ⟨g,q1,P,q3⟩=>⟨(),m9,g,q1,P,?_,q3⟩;have O:=tm eJ P;rw[<-O];simp;omega
      .rintro _ h3 ⟨g,m1,m2,m3,H3⟩;have fin:∀{h':hY} {M2:List bw},Sd cJ M2->cI cJ (L.drop p++R.drop q) M2->aa B h0 h' (bV s (X++(g++(M2++Y)))::As)->(Value.tuple #[]=.tuple #[]/\∃M,Sd cJ M/\cI cJ (L++R) M/\aa B h0 h' (bV s (X++(M++Y))::As)):=λ{h' M2} k1 k2 k3=>by
        obtain⟨f1,f2⟩:=Uy eJ (by rw[Z];exact W) (by rw[V];exact sR) ax a8 m2 m1 k2 k1;rw[Z,V]at f2;exact⟨m9,g++M2,f1,f2,by rw[ql];exact k3⟩
       have d:(L.drop p=[]∨R.drop q=[])->(Value.tuple #[]=.tuple #[]/\∃M,Sd cJ M/\cI cJ (L++R) M/\aa B h0 h3 (bV s (X++(M++Y))::As)):=λJ=>by
        refine fin (M2:=L.drop p++R.drop q) ?_ (cI.refl _) (by rw[ql];exact H3);rcases J with A|A
        .rw[A];exact T
        .rw[A,qL];exact Q
       refine ae (λz=>ae (λE=>?_) λE=>d (.inr (qR nb))) λz=>d (.inl (qR nb));have ap:aa B h0 h3 (bV s ((X++g)++(L.drop p++(R.drop q++Y)))::As):=by rw[ql];exact H3
       refine(ih (X++g) (L.drop p) (R.drop q) Y _ _ _ nb nb nb n2 n2 n2 n2 Q T ap).G7 λh4 ⟨M2,k1,k2,k3⟩=>⟨(),m9,fin k1 k2 (by rw[ql]at k3;exact k3)⟩
def Bs(k:Nat)(l:List bw):Prop:=∀q,Sd cJ ((l.drop (q*k)).take k)
theorem Bs.nil(k:Nat):Bs k []:=λq=>by simp[Sd]
theorem Bs.first{k:Nat}{l:List bw}(h:Bs k l):Sd cJ (l.take k):=by have:=h 0;simpa using this
theorem Bs.rest{k:Nat}{l:List bw}(h:Bs k l):Bs k (l.drop k):=λq=>by
 have:=h (q+1);rw[wu,show k+q*k=(q+1)*k by rw[zU,Nat.add_comm]];exact this
theorem Bs.snoc{k t:Nat}{l M:List bw}(h:Bs k l)(b:m8 l=t*k)(c:Sd cJ M)(d:m8 M<=k):Bs k (l++M):=λq=>by
 rcases Nat.lt_trichotomy q t with hq|hq|hq
 .have a:(q+1)*k<=t*k:=zk _ hq;rw[zU]at a;rw[List.drop_append_of_le_length nb,List.take_append_of_le_length o6];exact h q
 .subst hq;rw[<-b,List.drop_left,qh d];exact c
 .have a:(t+1)*k<=q*k:=zk _ hq;rw[zU]at a;rw[zh (by rw[qo];omega)];simp[Sd]
theorem Bs.whole{k:Nat}{l:List bw}(h:Bs k l)(a:m8 l<=k):Sd cJ l:=by have:=h.first;rw[qh a]at this;exact this
section
variable {d:List bw}
theorem OP(d:List bw)(n:Int)(hn:n=m8 d)(hd:m8 d<=2^30)(H:aa B h0 h (bV s d::As)):
  aj xT 242 #[s,xJ xP n,.func (.func 171) #[] #[]] h λv h'=>v=.tuple #[]/\aa B h0 h' (bV s (d.mergeSort cJ)::As):=by
 subst hn;refine ts Tryz.func242 ?_ (F8 (F8 (E5 (E7 (E8 [(7,aI),(8,aI)] [(7,9),(11,23)] E6)) (F8 (E7 (E8 [(6,aI)] [(6,10),(28,63)] (F8 (E7 (F8 (E5 (E7 (E8 [(7,aI),(8,aI)] [(7,9),(33,49)] E6)) E6)))))))))) (args:=[s,(m8 d:Int),(.func (.func 171) #[] #[])]);refine ak (λP:List bw=>((m8 P:Int),((m8 P+20:Nat):Int))) (λP h'=>m8 P<=m8 d/\(∃t,m8 P=t*20)/\Bs 20 P/\cI cJ (d.take P.length) P/\aa B h0 h' (bV s (P++d.drop P.length)::As)) (λP=>m8 d-m8 P) [] m9 ⟨n4,⟨0,n4⟩,Bs.nil _,by simpa using cI.refl _,tg⟩ ?_;rintro P h1 ⟨hP,⟨t,L⟩,S,T,N⟩
 try dsimp only
 refine ae (λe=>?_) (λe=>?_)
 .have ah:m8 P+20<=m8 d:=nb
  have eY:(d.drop P.length).take 20++d.drop (m8 P+20)=d.drop P.length:=by rw[<-wu];exact qA _ _
  have X:((d.drop P.length).take 20).length=20:=n2
  rw[<-eY]at N;refine(AO P ((d.drop P.length).take 20) (d.drop (m8 P+20)) _ _ m9 (by rw[X]) n2 N).G7 λh2 ⟨p,i,b,H2⟩=>?_;have z:m8 p=20:=by rw[<-tm eJ b,X]
  have g:(P++p).length=m8 P+20:=by rw[qo,z]
  refine⟨(),m9,P++p,?_,⟨nb,⟨t+1,by rw[g,L,zU]⟩,S.snoc L i nb,?_,?_⟩,nb⟩
  .rw[g,af _];congr 1
  .rw[g];have:d.take (m8 P+20)=d.take P.length++(d.drop P.length).take 20:=by rw[List.take_add]
   rw[this];exact T.app b
  .rw[g,ql];exact H2
 .have I:aa B h0 h1 (bV s (P++(d.drop P.length++[]))::As):=by rw[qL];exact N
  refine(AO P (d.drop P.length) [] _ _ m9 o6 n2 I).G7 λh3 ⟨p,i,b,U⟩=>?_;have z:m8 p=m8 d-m8 P:=by rw[<-tm eJ b,qH]
  have O:=S.snoc L i nb;have c:cI cJ d (P++p):=by have:=T.app b;rw[qA]at this;exact this
  refine⟨(),m9,?_⟩;refine ak (λt:Nat×List bw=>(t.1:Int)) (λt h'=>0<t.1/\t.1<=2^32/\t.2.length=m8 d/\Bs t.1 t.2/\cI cJ d t.2/\aa B h0 h' (bV s t.2::As)) (λt=>2^32-t.1) (20,P++p) m9 ⟨n1,n1,by dsimp only;rw[qo];omega,O,c,by rw[qL]at U;exact U⟩ ?_;rintro⟨k,l⟩ h4 ⟨al,hk,hl,W,w,K⟩;dsimp only at*;refine ae (λe2=>?_) (λe2=>?_)
  .have am:k<m8 d:=nb
   have E:qd xP ((2:Int)*k)=((2*k:Nat):Int):=o0
   have G:qd xP ((k:Int)*2)=((2*k:Nat):Int):=o0
   rw[E];have next:∀{h':hY} (q:List bw),m8 q=m8 d->Bs (2*k) q->cI cJ l q->aa B h0 h' (bV s q::As)->∃f:Nat×List bw,qd xP ((k:Int)*2)=(f.1:Int)/\(0<f.1/\f.1<=2^32/\f.2.length=m8 d/\Bs f.1 f.2/\cI cJ d f.2/\aa B h0 h' (bV s f.2::As))/\2^32-f.1<2^32-k:=λ{h'} q q1 q2 q3 q4=>
    ⟨(2*k,q),G,⟨n1,n1,q1,q2,w.trans q3,q4⟩,n1⟩
   refine ak (λt:List bw×List bw=>((m8 t.1:Int),((m8 t.1+2*k:Nat):Int))) (λt h'=>(∃u,m8 t.1=u*(2*k))/\t.1.length+m8 t.2=m8 d/\Bs (2*k) t.1/\Bs k t.2/\cI cJ l (t.1++t.2)/\aa B h0 h' (bV s (t.1++t.2)::As)) (λt=>m8 t.2) ([],l) (by dsimp only;rw[wL,Nat.zero_add];rfl) ⟨⟨0,n4⟩,by simpa using hl,Bs.nil _,W,by simpa using cI.refl _,by simpa using K⟩ ?_;rintro⟨P,Q⟩ V ⟨⟨u,D⟩,ab,o,a,c,J⟩;dsimp only at*;have R:qd xP ((m8 P:Int)+k)=((m8 P+k:Nat):Int):=o0
   rw[R];have eQ:Q.take k++Q.drop k=Q:=qA _ _;refine ae (λe3=>?_) (λe3=>ae (λe4=>?_) λe4=>?_)
   .have Y:2*k<=m8 Q:=nb
    have r:Q.take k++((Q.drop k).take k++Q.drop (2*k))=Q:=by
     have:Q.drop (2*k)=(Q.drop k).drop k:=by rw[wu];congr 1;omega
     rw[this,qA,eQ]
    have l1:(Q.take k).length=k:=n2
    have l2:((Q.drop k).take k).length=k:=n2
    have m:aa B h0 V (bV s (P++(Q.take k++((Q.drop k).take k++Q.drop (2*k))))::As):=by rw[r];exact J
    refine(Cq _ P (Q.take k) ((Q.drop k).take k) (Q.drop (2*k)) _ _ _ nb nb (qj _) m9 (by rw[l1]) (by rw[l1,l2];omega) n2 a.first a.rest.first m).G7 λh6 ⟨M,i,b,A⟩=>?_;have y:m8 M=2*k:=by rw[<-tm eJ b,qo,l1,l2];omega
    have j:(P++M).length=m8 P+2*k:=by rw[qo,y]
    refine⟨(),m9,(P++M,Q.drop (2*k)),?_,⟨⟨u+1,by dsimp only;rw[j,D];exact(zU u (2*k)).symm⟩,by dsimp only;rw[j,qH];omega,o.snoc D i nb,?_,?_,?_⟩,by dsimp only;rw[qH];omega⟩
    .try dsimp only
     rw[j,af _];congr 1
    .try dsimp only
     have:Q.drop (2*k)=(Q.drop k).drop k:=by rw[wu];congr 1;omega
     rw[this];exact a.rest.rest
    .try dsimp only
     refine c.trans ?_
     conv=>arg 2;rw[<-r]
     rw[ql];have:=(cI.refl P).app (b.app (cI.refl (Q.drop (2*k))));rw[ql]at this;exact this
    .try dsimp only
     rw[ql];exact A
   .have x:k<m8 Q:=nb
    have ad:m8 Q<2*k:=nb
    have l1:(Q.take k).length=k:=n2
    have l2:(Q.drop k).length=m8 Q-k:=n4
    have F:Sd cJ (Q.drop k):=by have:=a.rest.first;rw[qh nb]at this;exact this
    have m:aa B h0 V (bV s (P++(Q.take k++(Q.drop k++[])))::As):=by rw[qL,eQ];exact J
    refine(Cq _ P (Q.take k) (Q.drop k) [] _ _ _ nb nb (qj _) m9 (by rw[l1]) (by rw[l1,l2];omega) n2 a.first F m).G7 λh6 ⟨M,i,b,A⟩=>?_;have y:m8 M=m8 Q:=by rw[<-tm eJ b,eQ]
    rw[eQ]at b;rw[qL]at A;exact⟨(),m9,next (P++M) (by rw[qo];omega) (o.snoc D i nb) (c.trans ((cI.refl _).app b)) A⟩
   .have x:m8 Q<=k:=nb
    exact next (P++Q) (by rw[qo];omega) (o.snoc D (a.whole x) nb) c J
  .have Z:=W.whole nb;rw[ZJ eJ Z w]at K;exact⟨m9,K⟩
theorem Hl(d:List bw)(b:m8 d<=2^30)(H:aa B h0 h (bV s d::As)):
  aj xT 170 #[s,.func (.func 171) #[] #[]] h λv h'=>v=.tuple #[]/\aa B h0 h' (bV s (d.mergeSort cJ)::As):=by
 refine ts Tryz.func170 ?_ (args:=[s,(.func (.func 171) #[] #[])]);refine(OP d _ (by rw[(H.own 0 m9).len]) b H).G7 λc a=>⟨(),m9,m9,a⟩
def kc:bw:=(0,0,0,0,0,0,0,⟨eH,0,0⟩)
end
def lI(l:List bw)(k:Nat):Bool:=decide (k=0)||decide (lW (l.getD k kc) (l.getD (k-1) kc)≠0)
def kG(l:List bw)(k:Nat):List bw:=((qy k).filter (lI l)).map λi=>l.getD i kc
def Vv(l:List bw):List bw:=kG l l.length
theorem np(l:List bw)(k:Nat):kG l (k+1)=kG l k++if lI l k then[l.getD k kc]else[]:=by unfold kG;rw[zC,zi,qE,zA,wY];split<;>rfl
section
variable {d:List bw}
theorem Hm(a b:bw)(h:hY):aj xT 173 #[recv a,recv b] h λv h'=>v=xN (decide (lW a b=0))/\Sp h h' []:=by refine ts Tryz.func173 ?_ (args:=[a,b]);refine(Sp.refl h).boxed λi g e=>e.boxed λj d c=>?_;refine⟨a,(c.box 0 m9).aw _ m9,b,(c.box 1 m9).aw _ m9,(pi a b d).G7 λh3 f=>?_⟩;refine⟨_,m9,?_,.zip (aa.up c f.ac).ac⟩;congr 1
theorem Gb(l:List bw)(hd:m8 l<=2^30)(H:aa B h0 h (bV s l::As)):
  aj xT 172 #[s,.func (.func 173) #[] #[]] h λv h'=>∃r:Sl,v=r/\aa B h0 h' (bV r (Vv l)::As):=by
 refine ts Tryz.func172 ?_ (F8 (F8 (E5 (F8 (E7 (E8 [(5,aI)] [(4,8),(12,65)] (F8 (E5 (E7 (F8 (E5 (F8 (F9 [(5,aI),(7,aI)] [(5,6),(7,8),(32,59)])) E6))) E6))))) E6))) (args:=[s,(.func (.func 173) #[] #[])]);have ah:=(H.own 0 m9).len;have E:=(H.own 0 m9).cap;have g:(∀j,j<m8 l->lI l j=eL)->Vv l=l:=λu=>by
  have:∀k,k<=m8 l->kG l k=l.take k:=λk=>by
   induction k with
   |zero=>simp[kG]
   |succ k ih=>
    intro L;rw[np,ih nb,hZ (u k nb),aA l k,getD_lt (show k<m8 l by omega)]
  unfold Vv;rw[this _ (qj _),qt]
 refine ae (λe=>⟨s,m9,?_⟩) (λe=>?_)
 .rw[g λj f=>by unfold lI;rw[ln (show j=0 by omega)];rfl];exact H
 refine ak (λi:Nat=>(i:Int)) (λi h'=>1<=i/\i<=m8 l/\(∀j,j<i->lI l j=eL)/\aa B h0 h' (bV s l::As)) (λi=>m8 l-i) 1 m9 ⟨nb,nb,λj f=>by unfold lI;rw[ln (show j=0 by omega)];rfl,H⟩ ?_;rintro i h1 ⟨ad,hi,u,G⟩;refine ae (λK=>?_) (λK=>?_)
 .have F:i<m8 l:=by have e':=K;omega
  have Z:qd xP ((i:Int)-1)=((i-1:Nat):Int):=o0
  rw[Z];refine kp G i m9 (x:=l.getD i kc) (by rw[getD_lt F,qc F]) (kp G (i-1) m9 (x:=l.getD (i-1) kc) (by rw[getD_lt (show i-1<m8 l by omega),qc]) (fF pa ?_));refine(Hm _ _ h1).G7 λh2 R2=>?_;have U:=G.up R2.ac;refine⟨_,m9,I0,aS (λe2=>?_) λe2=>?_⟩
  .have o:lI l i=eR:=by unfold lI;rw[m5 (show¬i=0 by omega)];simpa using e2
   have p:kG l i=l.take i:=by
    have:∀k,k<=i->kG l k=l.take k:=λk=>by
     induction k with
     |zero=>simp[kG]
     |succ k ih=>
      intro L;rw[np,ih nb,hZ (u k nb),aA l k,getD_lt (show k<m8 l by omega)]
    exact this i (qj _)
   refine⟨⟨nb,nb⟩,?_⟩;rw[qi];refine ak (λt:Nat×List bw=>(((kG l (i+t.1)).length:Int),(t.1:Int))) (λt h'=>1<=t.1/\i+t.1<=m8 l/\t.2.length=m8 l/\(kG l (i+t.1)).length+1<=i+t.1/\t.2.take (kG l (i+t.1)).length=kG l (i+t.1)/\(∀j,i+t.1-1<=j->t.2[j]?=l[j]?)/\aa B h0 h' (bV s t.2::As)) (λt=>m8 l-t.1) (1,l) ?_ ⟨n4,n1,m9,?_,?_,λ_ _=>rfl,U⟩ ?_
   .try dsimp only
    rw[np,o,p];simp;omega
   .try dsimp only
    rw[np,o,p];simp;omega
   .try dsimp only
    rw[np,o,p];simp
   rintro⟨k,D⟩ h3 ⟨am,al,z,Q,d,q,I⟩;dsimp only at*;obtain⟨c,T⟩:=HF ((kG l (i+k)).length)
   rw[<-T]at Q d⊢;have ab:=(I.own 0 m9).len;have y:=(I.seq 0 m9 λ_=>rfl).drop i E;refine ae (λe3=>?_) (λe3=>?_)
   .have J:i+k<m8 l:=nb
    have ek:qd xP ((k:Int)-1)=((k-1:Nat):Int):=o0
    rw[ek];have X:∀j,k-1<=j->(f:i+j<m8 l)->(D.drop i)[j]?=dB (l.getD (i+j) kc):=λj f A=>by
     rw[wJ,q _ nb,getD_lt A,qc A]
    have gk:=X k nb J;have N:=X (k-1) nb nb;obtain⟨V,Y⟩:=qm.1 gk;obtain⟨q1,q2⟩:=qm.1 N;refine Seq.cQ y k m9 V (l.getD (i+k) kc) (by rw[Y]) ?_;refine Seq.cQ y (k-1) m9 q1 (l.getD (i+(k-1)) kc) (by rw[q2]) (fF pa ?_);refine(Hm _ _ h3).G7 λh4 R4=>?_;have M:=I.up R4.ac;have m:lI l (i+k)=!decide (lW (l.getD (i+k) kc) (l.getD (i+(k-1)) kc)=0):=by unfold lI;rw[m5 (show¬i+k=0 by omega),show i+k-1=i+(k-1)by omega];simp
    have b:=np l (i+k);rw[m]at b;refine⟨_,m9,I0,aH (λS=>?_) λS=>?_⟩
    .rw[S]at b;have a:(kG l (i+(k+1))).length=c+1:=by rw[<-w7,b];simp[T]
     have w:=(M.seq 0 m9 λ_=>rfl).drop i E;refine Seq.cQ w k m9 V (l.getD (i+k) kc) (by rw[Y]) ?_;refine M.set ag 0 m9 (λ_=>rfl) m9 c m9 nb (l.getD (i+k) kc) m9 m9 m9 λh5 H5=>?_;refine⟨(k+1,D.set c (l.getD (i+k) kc)),?_,⟨n1,n1,by dsimp only;rw[qP];exact z,by dsimp only;rw[a];omega,?_,λj f=>?_,H5⟩,n1⟩
     .try dsimp only
      rw[a,af _,af _];rfl
     .try dsimp only
      rw[a,aA _ c D1,List.getElem_set_self,List.take_set_of_le (qj _),d,<-w7,b];simp
     .dsimp only at f⊢;rw[w4 nb];exact q j nb
    .rw[S]at b;have a:(kG l (i+(k+1))).length=c:=by rw[<-w7,b];simp[T]
     refine⟨(k+1,D),?_,⟨n1,n1,z,by dsimp only;rw[a];omega,?_,λj f=>q j (by dsimp only at f;omega),M⟩,n1⟩
     .try dsimp only
      rw[a,af _];rfl
     .try dsimp only
      rw[a,d,<-w7,b];simp
   .have O:i+k=m8 l:=nb
    refine⟨⟨nb,nb⟩,?_⟩;rw[qi];refine I.ox ag 0 m9 BH (λ_=>rfl) m9 nq c nb λh6 W=>⟨⟨nb,nb⟩,⟨s.ptr,c,s.cap⟩,m9,?_⟩
    rw[d,O]at W;exact W
  .refine⟨i+1,n7,⟨nb,nb,λj f=>?_,U⟩,nb⟩;by_cases R:j=i
   .subst R;unfold lI;rw[ln (show lW (l.getD j kc) (l.getD (j-1) kc)≠0 by simpa using e2)];simp
   .exact u j nb
 .have P:i=m8 l:=by have e':=K;omega
  subst P;rw[g u];exact⟨s,m9,G⟩
end
def fieldsOf(d:Option TypeDesc):List (Bool×TypeId×Nat):=match d with|some (.struct fs)=>fs.toList.map (λf=>(f.name== "_",f.type,f.offset))|_=>[]
theorem Vw:fieldsOf (Tryz.prog.underlying 24)=[(eR,3,0),(eR,3,1),(eR,3,2)]:=n9
theorem Yl:Tryz.prog.stoodInHeld 24=eR:=n9
theorem Ym:Tryz.prog.eqGuardType Tryz.prog.depth 24=eR:=n9
theorem MN{P:Program}{t:TypeId}{a b c:TypeId×Nat}(h:fieldsOf (P.underlying t)=[(eR,a.1,a.2),(eR,b.1,b.2),(eR,c.1,c.2)]):
  ∃f g e:Field,P.underlying t=dB (.struct #[f,g,e])/\(f.name≠ "_" /\f.type=a.1/\f.offset=a.2)/\(g.name≠ "_" /\g.type=b.1/\g.offset=b.2)/\(e.name≠ "_" /\e.type=c.1/\e.offset=c.2):=by
 cases hu:P.underlying t with
 |none=>rw[hu]at h;cases h
 |some d=>
  rw[hu]at h;cases d with
  |struct fs=>
   simp only[fieldsOf]at h;obtain⟨l⟩:=fs;have i:m8 l=3:=by simpa using congrArg xr h
   obtain⟨f,r,rfl⟩:=yu i;obtain⟨g,j,rfl⟩:=yu (by simpa using i:m8 r=1+1);obtain⟨e,k,rfl⟩:=yu (by simpa using i:m8 j=0+1);obtain rfl:k=[]:=by simpa using i
   simp at h;exact⟨f,g,e,m9,⟨h.1.1,h.1.2.1,h.1.2.2⟩,⟨h.2.1.1,h.2.1.2.1,h.2.1.2.2⟩,⟨h.2.2.1,h.2.2.2.1,h.2.2.2.2⟩⟩
  |_=>cases h
theorem jA{P:Program}{d:Nat}{t:TypeId}{k:IntKind}(h:∃c,P.underlying t=dB (.int c))(a b:Int):aL P (Op.equalIn (d+1) t (.int k a) (.int k b)) (a==b):=by obtain⟨c,h⟩:=h;unfold Op.equalIn;refine(aK h).bind ?_;simp only[if_true];exact .pure
theorem my{P:Program}{t:TypeId}{k:IntKind}(h:P.underlying t=dB (.int k)){a:Array Value}{i:Nat}{v:Value}(b:a[i]?=dB v):aL P (part t a i) v:=by unfold part isAgg;refine aL.bind (v:=eR) ((aK h).bind .pure) ?_;simp only[zc,if_false,b];exact .pure
theorem aea(p q:Pm):aL xT (Op.equal 24 (xO #[xJ xP p.1,xJ xP p.2.1,xJ xP p.2.2]) (xO #[xJ xP q.1,xJ xP q.2.1,xJ xP q.2.2])) (decide (p=q)):=by
 obtain⟨f,g,u,E,⟨z,A,F⟩,⟨B,y,H⟩,⟨D,I,u3⟩⟩:=MN (a:=(3,0)) (b:=(3,1)) (c:=(3,2)) Vw;have G:∃k,Tryz.prog.underlying 3=dB (.int k):=⟨.i64,n9⟩
 obtain⟨k,d⟩:=G;unfold Op.equal;rw[show Op.maxDepth=9998+1+1 from m9,Op.equalIn];refine(aK E).bind ?_;refine aL.bind (v:=xT) (λw=>rfl) ?_;simp only[Yl,zc,if_false,List.forIn_toArray,List.forIn_cons,List.forIn_nil,ne_eq,z,B,D,not_false_eq_true,if_true,A,F,y,H,I,u3];obtain⟨a,b,c⟩:=p;obtain⟨h,i,j⟩:=q
 try dsimp only
 have n:aL xT (part 3 #[Value.int xP a,Value.int xP b,Value.int xP c] 0) _:=my d m9;have o:aL xT (part 3 #[Value.int xP h,Value.int xP i,Value.int xP j] 0) _:=my d m9;have s:aL xT (part 3 #[Value.int xP a,Value.int xP b,Value.int xP c] 1) _:=my d m9;have r:aL xT (part 3 #[Value.int xP h,Value.int xP i,Value.int xP j] 1) _:=my d m9;have t:aL xT (part 3 #[Value.int xP a,Value.int xP b,Value.int xP c] 2) _:=my d m9;have x:aL xT (part 3 #[Value.int xP h,Value.int xP i,Value.int xP j] 2) _:=my d m9;by_cases l:a=h
 .by_cases m:b=i
  .by_cases h3:c=j
   .have e:decide ((a,b,c)=(h,i,j))=eL:=by simp[l,m,h3]
    rw[e];refine aL.bind (v:=(eH,())) (aL.bind (v:=ForInStep.yield (eH,())) (n.bind (o.bind ((jA ⟨k,d⟩ a h).bind ?_))) (aL.bind (v:=ForInStep.yield (eH,())) (s.bind (r.bind ((jA ⟨k,d⟩ b i).bind ?_))) (aL.bind (v:=ForInStep.yield (eH,())) (t.bind (x.bind ((jA ⟨k,d⟩ c j).bind ?_))) .pure))) .pure
    .simp only[l,beq_self_eq_true,ym,zc,if_false];exact .pure
    .simp only[m,beq_self_eq_true,ym,zc,if_false];exact .pure
    .simp only[h3,beq_self_eq_true,ym,zc,if_false];exact .pure
   .have e:decide ((a,b,c)=(h,i,j))=eR:=by simp[h3]
    rw[e];refine aL.bind (v:=(dB eR,())) (aL.bind (v:=ForInStep.yield (eH,())) (n.bind (o.bind ((jA ⟨k,d⟩ a h).bind ?_))) (aL.bind (v:=ForInStep.yield (eH,())) (s.bind (r.bind ((jA ⟨k,d⟩ b i).bind ?_))) (aL.bind (v:=ForInStep.done (dB eR,())) (t.bind (x.bind ((jA ⟨k,d⟩ c j).bind ?_))) .pure))) .pure
    .simp only[l,beq_self_eq_true,ym,zc,if_false];exact .pure
    .simp only[m,beq_self_eq_true,ym,zc,if_false];exact .pure
    .rw[show(c==j)=eR by simpa using h3];simp only[wG,if_true];exact .pure
  .have e:decide ((a,b,c)=(h,i,j))=eR:=E4
   rw[e];refine aL.bind (v:=(dB eR,())) (aL.bind (v:=ForInStep.yield (eH,())) (n.bind (o.bind ((jA ⟨k,d⟩ a h).bind ?_))) (aL.bind (v:=ForInStep.done (dB eR,())) (s.bind (r.bind ((jA ⟨k,d⟩ b i).bind ?_))) .pure)) .pure
   .simp only[l,beq_self_eq_true,ym,zc,if_false];exact .pure
   .rw[show(b==i)=eR by simpa using m];simp only[wG,if_true];exact .pure
 .have e:decide ((a,b,c)=(h,i,j))=eR:=by simp[l]
  rw[e];refine aL.bind (v:=(dB eR,())) (aL.bind (v:=ForInStep.done (dB eR,())) (n.bind (o.bind ((jA ⟨k,d⟩ a h).bind ?_))) .pure) .pure;rw[show(a==h)=eR by simpa using l];simp only[wG,if_true];exact .pure
theorem MO(x y:Operand)(p q:Pm):iN xT .neq 24 x y (xO #[xJ xP p.1,xJ xP p.2.1,xJ xP p.2.2]) (xO #[xJ xP q.1,xJ xP q.2.1,xJ xP q.2.2]) (xN (!decide (p=q))):=by
 unfold iN eqGuard;refine aL.bind (v:=()) ?_ ?_
 .simp only[ym,zc,if_false];refine aL.bind (v:=xT) (λw=>rfl) ?_;refine aL.bind (v:=xT) (λw=>rfl) ?_;simp only[Ym,wG,if_true];exact .pure
 .exact(aea p q).bind .pure
def MP(P:cZ->Bool)(l:List cZ)(i:Int):Prop:=(i=-1/\l.any P=eR)∨∃n:Nat,∃h:n<m8 l,i=n/\P l[n]=eL/\(l.take n).any P=eR
theorem MQ{P:cZ->Bool}{l:List cZ}{i:Int}(h:MP P l i):decide (i>=0)=l.any P:=by
 rcases h with⟨rfl,h⟩|⟨n,hn,rfl,h,_⟩
 .rw[h];rfl
 .rw[zR.2 ⟨_,qe hn,h⟩];exact ln nb
theorem Fb(f:FuncId)(pre post:Array Value)(P:Qw.cZ->Bool)(l:Sl)(a:List Qw.cZ)(h:hY)(t:C.fns[f]?=dB eL)(j:fm tz h l a)(B:m8 a<=2^30)
  (w:∀(u:dM) (E:Qw.cZ) (h':hY),Sp h h' []->fm gS h' u E->E∈a->aj xT f (pre.toList++[Value.agg #[xM u.1,xJ xP u.2.1,xJ xP u.2.2.1,u.2.2.2]]++post.toList).toArray h' λv g=>v=xN (P E)/\Sp h' g []):
  aj xT 156 #[l,.func (.func f) pre post] h λv h'=>(∃i:Int,v=xJ xP i/\MP P a i)/\Sp h h' []:=by
 refine ij l (f,pre,post) ?_;obtain⟨m,x,z,s⟩:=ce.kZ j;have o:=ce.len j;refine ak (λi:Nat=>(i:Int)) (λi h'=>i<=m8 a/\(a.take i).any P=eR/\Sp h h' []) (λi=>m8 a-i) 0 m9 ⟨nb,n4,Sp.refl h⟩ ?_;rintro i r ⟨D,b,d⟩;refine ae (λe=>?_) (λe=>?_)
 .have c:i<m8 a:=by have p:=e;omega
  have n:=gS.mono (gS.loc (s i nb c) d.ac) λ_ q=>qU q d.ac.1;refine(Seq.up x d.ac).cQ i m9 nb (m[i]'nb) m9 (fF t ?_);refine(w (m[i]'nb) a[i] r d n (qe c)).G7 λA y=>?_;have k:=d.up y.ac;refine⟨_,m9,aS (λe2=>⟨⟨i,m9,.inr ⟨i,c,m9,e2,b⟩⟩,k⟩) λe2=>?_⟩;refine⟨i+1,n7,⟨nb,?_,k⟩,nb⟩;rw[aA _ _ c,ye,b,List.any_cons,List.any_nil,e2];rfl
 .have p:=e;rw[qh nb]at b;exact⟨⟨-1,m9,.inl ⟨m9,b⟩⟩,d⟩
theorem IW(f:FuncId)(pre post:Array Value)(P:Qw.cZ->Bool)(l:Sl)(a:List Qw.cZ)(h:hY)(d:C.fns[f]?=dB eL)(c:fm tz h l a)(g:m8 a<=2^30)
  (e:∀(u:dM) (E:Qw.cZ) (h':hY),Sp h h' []->fm gS h' u E->E∈a->aj xT f (pre.toList++[Value.agg #[xM u.1,xJ xP u.2.1,xJ xP u.2.2.1,u.2.2.2]]++post.toList).toArray h' λv b=>v=xN (P E)/\Sp h' b []):
  aj xT 134 #[l,.func (.func f) pre post] h λv h'=>v=xN (a.any P)/\Sp h h' []:=by
 refine ts Tryz.func134 ?_ (args:=[l,(.func (.func f) pre post)]);refine(Fb f pre post P l a h d c g e).mono ?_;rintro _ m ⟨⟨i,rfl,k⟩,j⟩;exact⟨i,m9,by rw[MQ k],j⟩
theorem sV(o b t:Int)(h:hY):aj xT 90 #[xJ xP o,xJ xP b,xJ xP t] h λv h'=>v=xJ xR (fx o b t)/\h'=h:=by
 refine ts Tryz.func90 ?_;refine⟨?_,m9⟩;have:qd xR ((qd xR ((qd xR ((128:Int)*(qd xR o)))+(qd xR ((16:Int)*(qd xR b)))))+(qd xR t))=fx o b t:=by unfold fx qd;simp[qq,yC];omega
 rw[this]
theorem OQ(x:bc)(m:aB)(y:bw)(r:ct)(h:hY)(o:cv h x m)(S:bM m)(O:fm cK h y r):
  aj xT 169 #[cC x,recv y] h λv h'=>v=xN (dK m r)/\Sp h h' []:=by
 refine ts Tryz.func169 ?_ (F8 (G0 [] [(4,15)] E6)) (args:=[x,y]);refine(Sp.refl h).boxed λa1 h1 Z=>Z.boxed λj Y l=>?_;obtain⟨⟨e1,e2,e3,B,e5,e7,e8⟩,e6⟩:=id O;have H:=congrArg (·.1) o.p;have w:=congrArg (·.2.1) o.p;have G:=congrArg (·.2.2) o.p;have s:=congrArg (·.1) B;have z:=congrArg (·.2.1) B;have F:=congrArg (·.2.2) B;have W:=S.ob;refine aE ⟨y,(l.box 1 m9).aw _ m9,(EZ y r Y (cK.mono (cK.loc O l.ac) λ_ X=>qU X l.ac.1)).G7 λh3 T=>?_⟩;have d:=l.up T.ac;have J:=d.box 0 m9;have t:=d.box 1 m9;refine⟨_,m9,aH (λg=>⟨by unfold dK;rw[g];rfl,.zip d.ac⟩) λg=>?_⟩;obtain⟨_,g2,_⟩:=(jS r).1 g;refine⟨r.p,by rw[<-s,<-z,<-F];exact t.mE 3 m9 m9 m9,m.p,by rw[<-H,<-w,<-G];exact J.mE 2 m9 m9 m9,_,MO _ _ r.p m.p,aH (λI=>⟨?_,.zip d.ac⟩) λI=>?_⟩
 .unfold dK;rw[g,I];rfl
 obtain⟨P,Q⟩:∃P:Qw.cZ->Bool,P=λx=>decide (x.object=r.object)&&(decide (r.block<(x.tries.length:Int))&&decide (r.seed=fx r.object r.block (x.tries.getD r.block.toNat 0))):=⟨_,rfl⟩
 have A:dK m r=m.objs.any P:=by unfold dK;rw[g,I,Q];rfl
 refine⟨x.2.2.2.2.2.2.2,J.cell m9,?_⟩;refine(IW 241 #[] #[xL (dB j)] P x.2.2.2.2.2.2.2 m.objs h3 pa (o.up d.ac).objs nb λu E h4 V R _=>?_).mono ?_
 .obtain⟨⟨y1,y2,y3⟩,K⟩:=R;have ab:=Seq.len K;have k:=t.ac V.ac t.lt;refine ts Tryz.func241 ?_ (args:=[u,j]);refine(Sp.refl h4).boxed λa5 a e=>?_;have N:=e.box 0 m9;have b:=k.ac e.ac k.lt;have q:hU a (a5.add 1)=dB (xJ xP E.object):=by rw[<-y2];exact N.cell m9
  have f:hU a (a5.add 3)=dB (xK u.2.2.2.ptr u.2.2.2.len u.2.2.2.cap):=N.cell m9;have i:hU a j=dB (xJ xP r.object):=by rw[<-e1];exact b.cell0 m9
  have c:hU a (j.add 1)=dB (xJ xP r.block):=by rw[<-e2];exact b.cell m9
  have M:hU a (j.add 6)=dB (xJ xR r.seed):=by rw[<-e5];exact b.cell m9
  rw[Q];refine⟨E.object,q,r.object,i,aZ (λD=>?_) λD=>⟨⟨i,q,I0⟩,?_,.zip e.ac⟩⟩
  .refine⟨u.2.2.2,f,r.block,c,ae (λU=>?_) λU=>⟨⟨c,f,i,q,I0⟩,?_,.zip e.ac⟩⟩
   .have L:r.block.toNat<E.tries.length:=nb
    refine⟨r.seed,M,r.object,i,r.block,c,u.2.2.2,f,r.block,c,?_⟩;refine Seq.aW (Seq.up K e.ac) r.block.toNat nb L (E.tries.getD r.block.toNat 0) (by rw[getD_lt L];rfl) ?_;refine(sV _ _ _ a).G6 ⟨_,m9,⟨c,f,M,c,f,i,q,I0⟩,?_,.zip e.ac⟩
    try dsimp only
    rw[ln D,ln (show r.block<(E.tries.length:Int)by omega),z7,z7];congr 1
   .try dsimp only
    rw[m5 (show¬r.block<(E.tries.length:Int)by omega)];simp
  .try dsimp only
   rw[m5 D];rfl
 .rintro _ a ⟨rfl,R5⟩;exact⟨_,m9,E2,.zip (aa.up d R5.ac).ac⟩
def gf(k:Nat)(f:α->aR):jq Sl (List α):=⟨λh q s l=>Seq h q s k f l/\s.len<=s.cap,λa c=>⟨a.1.ac c,a.2⟩,λa b=>⟨a.1.mono b,a.2⟩⟩
theorem aa.Ho{B:ar}{d h:hY}{As:List HP}{e a k:Nat}{s:Sl}{f:α->aR}{ll:List (List α)}(H:aa B d h (lh e s a k f ll::As))(n:∀x,(f x).length=k):∃rs,aa B d h (cB (gf k f) 1 bv s rs ll::As):=by
 obtain⟨rs,H⟩:=H.Bq;obtain⟨H,c⟩:=H.FJ;refine⟨rs,H.dY 0 m9 λq j=>⟨?_,c,λi r l g b=>?_⟩⟩
 .have:=HP.AN (i:=0) j m9;exact this.1.seq (λ_=>rfl) this.2
 .have m:=(qm.1 b).1;have o:=eN (e:=a) (k:=k) (f:=f) c i m;have:=HP.AN (i:=i+1) j B3;have p:rs[i]'nb=r:=by rw[qc nb]at g;simpa using g
  have a:ll[i]=l:=by rw[qc m]at b;simpa using b
  rw[p,a]at this;exact⟨this.1.seq n this.2,this.1.cap⟩
def gg(T:List (bw×ct)):HP:=⟨λh q=>∀t∈T,cK.p h q t.1 t.2,λa d t b=>cK.loc (a t b) d,λa c t b=>cK.mono (a t b) c⟩
def Keyed(T:List (bw×ct)):Prop:=∀t∈T,t.1.1=t.2.object/\t.1.2.1=t.2.block/\t.1.2.2.1=t.2.id
def MR(a b:bw×ct):Bool:=mf a.2 b.2
theorem Yn{T:List (bw×ct)}(k:Keyed T):∀a∈T,∀b∈T,MR a b=cJ a.1 b.1:=λa f b d=>by
 obtain⟨g,h,a3⟩:=k a f;obtain⟨e,i,c⟩:=k b d;unfold MR mf cJ;rw[decide_eq_decide,AM,g,h,a3,e,i,c]
theorem SM{T:List (bw×ct)}(k:Keyed T):(T.mergeSort MR).map qC=(T.map qC).mergeSort cJ/\(T.mergeSort MR).map zg=(T.map zg).mergeSort mf/\Keyed (T.mergeSort MR):=
 ⟨vK (Yn k),vK λa _ b _=>rfl,λt c=>k t (vI.1 c)⟩
def Hp:bw×ct:=(kc,nN)
def Dv(T:List (bw×ct)):List (bw×ct):=((qy T.length).filter (oO (T.map zg))).map λi=>T.getD i Hp
theorem getD_map{α β:Type}(f:α->β)(l:List α)(i:Nat)(d:α):(l.map f).getD i (f d)=f (l.getD i d):=by rw[qg,qg,qM];cases l[i]?<;>rfl
theorem Vx{T:List (bw×ct)}(k:Keyed T):(Dv T).map qC=Vv (T.map qC)/\(Dv T).map zg=ny (T.map zg)/\∀t∈Dv T,t∈T:=by
 have l:∀i,i<m8 T->lI (T.map qC) i=oO (T.map zg) i:=λi a=>by
  unfold lI oO;have g:∀j,j<m8 T->(T.map qC).getD j kc=(T[j]?.getD Hp).1/\(T.map zg).getD j nN=(T[j]?.getD Hp).2:=λj p=>by
   rw[qg,qg,qM,qM,qc p];exact⟨m9,m9⟩
  by_cases h0:i=0
  .rw[ln h0];rfl
  .rw[m5 h0,yp,yp,(g i a).1,(g i a).2,(g (i-1) nb).1,(g (i-1) nb).2];rw[qc a,qc (show i-1<m8 T by omega)];obtain⟨r,o,a3⟩:=k _ (qe a);obtain⟨e,f,q⟩:=k _ (qe (show i-1<m8 T by omega));unfold dO;simp only[vu];have c:=Vr T[i].1 (T[i-1]'nb).1;rw[r,o,a3,e,f,q]at c;by_cases b:lW T[i].1 (T[i-1]'nb).1=0
   .rw[m5 λh=>h b,ln (c.1 b)];rfl
   .rw[ln b,m5 λn=>b (c.2 n)];rfl
 have m:=List.filter_congr λi a=>l i (qY.1 a);refine⟨?_,?_,λt d=>?_⟩
 .unfold Dv Vv kG;rw[qn,m,y0];congr 1;funext i;exact(getD_map qC T i Hp).symm
 .unfold Dv ny;rw[qn,y0];congr 1;funext i;exact(getD_map zg T i Hp).symm
 .unfold Dv at d;obtain⟨i,a,rfl⟩:=qI.1 d;have:=qY.1 (qJ.1 a).1;rw[getD_lt this];exact qe this
theorem KE(a pw:fY)(d:bu)(s b:Sl)(x:bc)(m:aB)(h:hY)(F:bQ h a 172 (ft pw d s b))(hl:eF h s 1 aq d.l)(ok:ff d)(hx:cv h x m)(hz:bM m):
  aj xT 93 #[xL (dB a),cC x] h λv h'=>∃(r:Sl) (T:List (bw×ct)),v=r/\T.map zg=iI m d.l/\Keyed T/\Sp h h' [bV r (T.map qC),gg T]:=by
 refine ts Tryz.func93 ?_ (F8 (.scope 0 [(6,bJ),(7,aI)] [(4,5),(6,10),(12,40)] [E6,E6,E6] [(.two E6 (.two E6 (.two (.join [(6,bJ)] [(6,7),(8,10),(18,36)] E6) E6)))] [(1,[E6])])) (args:=[(dB a),x]);have ab:=ok.len;have Y:=ok.room;refine(Sp.refl h).boxed λI h1 R=>?_;refine(Ga s b (F.ac R.ac F.lt) (hl.up R.ac) ok).Hf λH h2 R2=>?_;have K:=R.bS R2;obtain⟨rs,K⟩:=aa.Ho K λ_=>rfl;refine⟨H,m9,?_⟩;have F2:=K.dv 0 m9;have am:=F2.1.len;have ah:=F2.2.1;have A:Sp h h2 [bV ⟨eH,0,0⟩ [],gg [],cB (gf 1 aq) 1 bv H rs d.l,an I 27 (aD x)]:=
  ((K.comp (.one (aQ.refl _ _) λt f=>(by cases f))).nil 128 8 bB).bs [3,2,0,1]
 refine ak (λt:Sl×Nat×List (bw×ct)=>(t.1,(t.2.1:Int)-1)) (λt h'=>t.2.1<=m8 d.l/\t.2.2.length<=t.2.1/\Keyed t.2.2/\t.2.2.map zg=(d.l.take t.2.1).filterMap (gv m)/\Sp h h' [bV t.1 (t.2.2.map qC),gg t.2.2,cB (gf 1 aq) 1 bv H rs d.l,an I 27 (aD x)]) (λt=>m8 d.l-t.2.1) (⟨eH,0,0⟩,0,[]) m9 ⟨n4,n4,(λt f=>(by cases f)),n4,A⟩ ?_;rintro⟨o,i,T⟩ h3 ⟨hi,ad,L,k,A⟩;dsimp only at*;have ei:qd xP ((i:Int)-1+1)=(i:Int):=o0
 rw[ei];refine ae (λe=>?_) (λe=>?_)
 .have S:i=m8 d.l:=nb
  subst S;rw[qt]at k;refine(Hl (T.map qC) A9 A).G7 λh4 H4=>?_;obtain⟨s1,s2,s3⟩:=SM L;rw[<-s1]at H4;refine⟨(),m9,(Gb _ (by rw[qn,List.length_mergeSort];omega) H4).Hf λr5 h5 Z=>?_⟩;obtain⟨c1,c2,c3⟩:=Vx s3;rw[<-c1]at Z;refine⟨r5,m9,r5,Dv (T.mergeSort MR),m9,?_,λt f=>s3 t (c3 t f),?_⟩
  .have hr:iI m d.l=(Dv (T.mergeSort MR)).map zg:=by unfold iI;rw[<-k,c2,s2]
   exact hr.symm
  .exact(Z.dY 1 m9 λq z t f=>z t (vI.1 (c3 t f))).bs [0,1]
 .have E:i<m8 d.l:=nb
  have g:=GN m d.l i E;have next:∀{h':hY} {w:Sl} {T':List (bw×ct)},m8 T'<=i+1->Keyed T'->T'.map zg=(d.l.take (i+1)).filterMap (gv m)->Sp h h' [bV w (T'.map qC),gg T',cB (gf 1 aq) 1 bv H rs d.l,an I 27 (aD x)]->
    ∃j:Sl×Nat×List (bw×ct),((⟨w.ptr,w.len,w.cap⟩:Sl),(i:Int))=(j.1,(j.2.1:Int)-1)/\(j.2.1<=m8 d.l/\j.2.2.length<=j.2.1/\Keyed j.2.2/\j.2.2.map zg=(d.l.take j.2.1).filterMap (gv m)/\Sp h h' [bV j.1 (j.2.2.map qC),gg j.2.2,cB (gf 1 aq) 1 bv H rs d.l,an I 27 (aD x)])/\d.l.length-j.2.1<m8 d.l-i:=λ{h' w T'} q1 q2 q3 q4=>
   ⟨(w,i+1,T'),by dsimp only;congr 1;omega,⟨n1,q1,q2,q3,q4⟩,n1⟩
  refine aE ?_;refine(A.dv 2 m9).1.ly i m9 nb ?_;obtain⟨p,P⟩:=Fix.row (A.dv 2 rfl) E;obtain⟨c,hc⟩:=HF (d.l[i])
  rw[<-hc]at p g;have al:m8 c=64:=by rw[hc];exact ok.cell _ (qe E)
  refine(MI (rs[i]'nb) c h3 p nb P).Hf λy h6 ⟨Q0,Q1⟩=>⟨(y,(dq c).isSome),m9,?_⟩
  try dsimp only
  cases htr:dq c with
  |none=>
   have J:gv m c=eH:=by unfold gv;rw[htr]
   rw[J,vL,qL]at g;have Q:=A.up (Q0 htr).ac;refine Q.alloc ag m9 λa9 h7 V=>?_;refine V.storeAll ag 4 m9 m9 (bB y) m9 m9 m9 m9 λh8 B=>aS (λe=>n5) λ_=>?_;exact next nb L (by rw[k,g]) (B.bs [0,1,2,3])
  |some r=>
   have Q:=A.bS (Q1 r htr);refine Q.alloc ag m9 λa9 h7 V=>?_;refine V.storeAll ag 5 m9 m9 (bB y) m9 m9 m9 m9 λh8 B=>aS (λ_=>?_) λe=>n5
   have M:=B.eAt 0 m9;have O:bp h8 I 0 (aD x):=(B.box 4 m9).aw _ m9;have N:bp h8 a9 0 (bB y):=(B.box 5 m9).aw _ m9;have U:=OQ x m y r h8 (hx.up B.ac) hz M;refine⟨x,O,y,N,U.mono ?_⟩;rintro _ h9 ⟨rfl,R9⟩;have W:=B.up R9.ac;refine⟨_,m9,aS (λe2=>?_) λe2=>?_⟩
   .have J:gv m c=dB r:=by unfold gv;rw[htr];exact hZ e2
    rw[J,Option.toList_some]at g;refine⟨y,(W.box 5 m9).aw _ m9,?_⟩;refine W.push ag 1 m9 BH m9 nq (λ_=>rfl) QI y n9 nq A9 λw ao G=>?_;have u:=(G.eAt 0 m9).1;have X:=G.merge 2 0 nq m9 m9 (D:=gg (T++[(y,r)])) (λq1 q2 _ p1 p2 t f=>by
     rcases qw.1 f with f|f
     .exact cK.mono (p1 t f) λ_ F=>.inl F
     .rw[qB.1 f];exact cK.mono p2 λ_ F=>.inr F)
    refine next (T':=T++[(y,r)]) n2 (λt f=>?_) (by rw[qE,k,g];rfl) ?_
    .rcases qw.1 f with f|f
     .exact L t f
     .rw[qB.1 f];exact⟨u.1,u.2.1,u.2.2.1⟩
    .rw[qE];exact X.bs [1,2,3,4]
   .have J:gv m c=eH:=by unfold gv;rw[htr];exact k4 D9
    rw[J,vL,qL]at g;exact next nb L (by rw[k,g]) (W.bs [1,2,3,4])
theorem uu(a pw:fY)(d:bu)(s b:Sl)(x:bc)(m:aB)(h:hY)(n:bQ h a 172 (ft pw d s b))(g:eF h s 1 aq d.l)(ok:ff d)(k:cv h x m)(i:bM m):
  aj xT 93 #[xL (dB a),cC x] h λv h'=>∃(r:Sl) (z:List bw),v=r/\Sp h h' [cB cK 8 bB r z (iI m d.l)]:=by
 refine(KE a pw d s b x m h n g ok k i).mono ?_;rintro _ h' ⟨r,T,rfl,y,_,H⟩;refine⟨r,T.map qC,m9,?_⟩;have o:=(H.freeze 0 m9 λ_=>rfl).kA;have w:aa _ _ _ (cB cK 8 bB r (T.map qC) (iI m d.l)::_):=o.dY 0 m9 λq ⟨D,B,_,b,c,p,u⟩=>by
  rw[<-y];refine⟨Seq.mono u c,n4,λj A E e f=>?_⟩;rw[qM]at e f;cases g3:T[j]? with
  |none=>rw[g3]at e;cases e
  |some t=>
   rw[g3]at e f;simp at e f;subst e;subst f;exact cK.mono (p t (wj g3)) b
 exact w.bs [0]
def bg(l:aC)(k:Nat):aC:=((qy k).map λi:Nat=>(i:Int)).filter λi=>decide (0<l.getD i.toNat 0)
def dN(l:aC):aC×Bool:=
 if l.all (dQ · 0 512)then(bg l l.length,decide (m8 l<=64)&&decide (0<(bg l l.length).length))else([],eR)
theorem nT(l:aC)(k:Nat)(a:k<m8 l):bg l (k+1)=bg l k++if 0<l[k]then[(k:Int)]else[]:=by unfold bg;rw[zC,qE,zi];congr 1;simp only[List.map_cons,List.map_nil,zA,wY,qi,qg,qc a,vu];by_cases h:0<l[k]<;>simp[h]
theorem lJ(l:aC)(k:Nat):(bg l k).length<=k:=by unfold bg;exact qX (qK _ _) n4
theorem OR(s:Sl)(l:aC)(h:hY)(m:Rd h s 1 av l)(D:m8 l<=2^20):
  aj xT 105 #[s] h λv h'=>∃r:Sl,v=.tuple #[r,xN (dN l).2]/\Sp h h' [ai 3 r 1 av (dN l).1]:=by
 refine ts Tryz.func105 ?_ (F8 (F8 (E5 (F8 (E7 (E8 [(4,bJ),(9,aI)] [(2,7),(9,27)] (F8 (F8 (E5 (E7 (F8 (G0 [] [(2,4),(14,20)] E6))) E6)))))) E6)));have A:=m.len;have p:=(Sp.refl h).nil 3 1 av;refine ak (λt:Sl×Nat=>(t.1,(t.2:Int))) (λt h'=>t.2<=m8 l/\(l.take t.2).all (dQ · 0 512)=eL/\Sp h h' [ai 3 t.1 1 av (bg l t.2)]) (λt=>m8 l-t.2) (⟨eH,0,0⟩,0) m9 ⟨n4,n4,p⟩ ?_;rintro⟨o,i⟩ E ⟨F,c,f⟩;dsimp only at*;have d:∀(a:i<m8 l),dQ l[i] 0 512=eR->dN l=([],eR):=λa g=>by
  unfold dN;rw[k4];intro z;have:=qQ.1 z _ (qe a);rw[g]at this;cases this
 refine ae (λe=>?_) (λe=>?_)
 .have a:i<m8 l:=nb
  have B:=lJ l i;refine(Seq.up m f.ac).aW i m9 a l[i] m9 ?_;refine aE (ae (λk=>?_) λk=>ae (λe2=>?_) λe2=>?_)
  .have g:=d a pb;rw[g];exact⟨⟨eH,0,0⟩,m9,(f.bs []).nil 3 1 av⟩
  .have g:=d a pb;rw[g];exact⟨⟨eH,0,0⟩,m9,(f.bs []).nil 3 1 av⟩
  .have b:(l.take (i+1)).all (dQ · 0 512)=eL:=by rw[aA l i a,wx,c,z7,List.all_cons,List.all_nil,Bool.and_true];unfold dQ;simp;omega
   refine ae (λy=>?_) (λy=>?_)
   .refine f.push ag 0 m9 ge m9 nq (λ_=>rfl) dt (i:Int) m9 nq nb λx G q=>?_;refine⟨(x,i+1),n3,⟨n1,b,?_⟩,n1⟩
    try dsimp only
    rw[nT l i a,hZ nb];exact q
   .refine⟨(o,i+1),n3,⟨n1,b,?_⟩,n1⟩
    try dsimp only
    rw[nT l i a,k4 nb,qL];exact f
 .have j:i=m8 l:=nb
  subst j;rw[qt]at c;have u:=(f.own 0 m9).len;have w:dN l=(bg l l.length,decide (m8 l<=64)&&decide (0<(bg l l.length).length)):=by unfold dN;rw[hZ c]
  rw[w];refine ae (λk=>⟨o,?_,f⟩) (λk=>⟨o,?_,f⟩)
  .try dsimp only
   rw[ln (show l.length<=64 by omega),z7];congr 4;refine congrArg Value.bool ?_;rw[decide_eq_decide];omega
  .try dsimp only
   rw[m5 (show¬m8 l<=64 by omega),Bool.false_and]
section
variable {pw:fY}
theorem fC(x:bc)(m:aB)(f:cv h x m)(g:bM m)(H:aa B h0 h (aJ bP a pw (aD x) offs da w ds::As)):
  aj xT 38 #[xL (dB a)] h λv h'=>∃r:Sl,v=r/\Sp h h' [ai 3 r 1 av (bh ds m.drives)]:=by
 refine pf (dB a) ?_;obtain⟨ok,d⟩:=aa.cF H;have c:=g.dr;refine aS (λe=>n5) λ_=>⟨a,m9,x.2.2.2.2.2.2.1,d.cell m9,(Hj _ m.drives f.drives nb H).Hf λr i b=>?_⟩;exact⟨r,m9,r,m9,b⟩
theorem AP(x:bc)(m:aB)(j:cv h x m)(i:bM m)(H:aa B h0 h (aJ bP a pw (aD x) offs da w ds::As)):
  aj xT 25 #[xL (dB a)] h λv h'=>∃y:bc,v=cC y/\Sp h h' [bo y m]:=by
 refine ts Tryz.func25 ?_;obtain⟨ok,d⟩:=aa.cF H;refine(Sp.refl h).alloc ag m9 λo k b=>?_;have c:=d.ac b.ac d.lt;refine aS (λe=>n5) λ_=>⟨a,m9,x,c.aw _ m9,(BG x m k (j.up b.ac) i).Hf λy n l=>?_⟩;have g:=b.comp l;refine⟨y,m9,?_⟩;refine g.store ag 0 m9 m9 0 (aD y) m9 m9 m9 o1 λh3 f=>?_;exact⟨y,(f.box 0 m9).aw _ m9,y,m9,f.bs [1]⟩
end
def gy(w:Pow)(a:Int):Bool:=w.off||w.offs !=a
section
variable {pw:fY}
theorem aa.IX(H:aa B h0 h (aJ bP a pw mc offs da w ds::As)):∃l,EE w l/\bQ h pw 107 (powC w l):=by obtain⟨ok,e⟩:=Qw.aa.gM H;have c:=e.rest;obtain⟨l,b,d⟩:=aa.iV c;exact⟨l,b,d.box 0 m9⟩
theorem nr(H:aa B h0 h (aJ bP a pw mc offs da w ds::As)):
  aj xT 33 #[xL (dB a)] h λv h'=>v=xN (gy w offs)/\h'=h:=by
 refine ts Tryz.func33 ?_ E6 [(1,(.l [0,1,2,3,4,5,6,7,8,9,10,11,12,13,15,16,17,18,14,19,20,21,22]))];obtain⟨ok,d⟩:=aa.cF H;obtain⟨l,i,c⟩:=aa.IX H;have g:hU h (a.add 8)=dB (xL (dB pw)):=d.cell (ut ok.l8);have f:hU h (a.add 9)=dB (xJ xP offs):=d.cell (Hg ok.l8);refine aS (λ_=>?_) (λe=>n5);refine⟨a,m9,dB pw,g,(tw l c).G6 ?_⟩;refine⟨_,m9,I0,aH (λe=>⟨I0,?_⟩) λe=>?_⟩
 .have b:w.off=eL:=o7
  exact⟨by unfold gy;rw[b];rfl,m9⟩
 .have b:w.off=eR:=o7
  refine⟨a,m9,dB pw,g,a,m9,offs,f,(vl l c).G6 ?_⟩;exact⟨_,m9,⟨f,I0⟩,by unfold gy;rw[b];rfl,m9⟩
theorem nU(H:aa B h0 h (aJ bP a pw mc offs da w ds::As)):
  aj xT 15 #[xL (dB a)] h λv h'=>v=xL (dB pw)/\h'=h:=by
 refine oC (dB a) ?_;obtain⟨ok,b⟩:=aa.cF H;exact aS (λe=>n5) λ_=>⟨a,m9,dB pw,b.cell (ut ok.l8),m9,m9⟩
end
section
variable {k:Kit} {pw:fY}
theorem aa.acT(H:aa B h0 h As):∀n,aa B h0 h (qf n emp++As)
 |0=>H
 |n+1=>(((aa.acT H n).comp (.one (A:=emp) (aQ.refl _ _) I0)).ba:aa B h0 h (emp::(qf n emp++As)))
theorem aa.JU(h8:m8 mc=8)(H:aa B h0 h (an a k.tS (cP mc pw offs (qf 64 eH))::ee k.tP pw w::As)):aa B h0 h (aJ k a pw mc offs (qf 64 eH) w (qf 64 eH)::As):=by
 have ok:gT mc (qf 64 eH) (qf 64 (eH:Option bu)):=⟨h8,n4,n4,λi=>by
  simp only[qg,wE];split<;>rfl⟩
 have f:jz k pw (qf 64 eH) (qf 64 (eH:Option bu))=qf 64 emp:=by simp[jz,acS]
 refine aa.je ok ?_;rw[f];have e:=aa.acT H 64;refine e.pick (λi=>if i=0 then 64 else if i=1 then 65 else if i<66 then i-2 else i) (λx y b=>by(try dsimp only at b);split at b<;>split at b<;>(try split at b)<;>(try split at b)<;>(try split at b)<;>(try split at b)<;>omega) λi A d=>?_;rcases i with _|_|i
 .simpa using d
 .simpa using d
 .by_cases g:i<64
  .have c:(qf 64 emp++As)[i]?=dB A:=d;rw[qu C7]at c
   try dsimp only
   rw[k4 nb,k4 nb,hZ nb,qu n2];simpa using c
  .have c:(qf 64 emp++As)[i]?=dB A:=d;rw[qk n2]at c
   try dsimp only
   rw[k4 nb,k4 nb,k4 nb,qk n2];simp only[List.length_replicate]at c⊢;obtain⟨j,rfl⟩:∃j,i=j+64:=⟨i-64,nb⟩
   have e2:j+64+1+1-64=j+1+1:=nb
   rw[e2];simpa using c
end
theorem JV(x:bc)(pw:fY)(a:Int):aL xT (Instr.build 105 #[(0,cC x),(1,xL (dB pw)),(2,xJ xP a)]) (xO (cP (aD x) pw a (qf 64 eH)).toArray):=
 tV ag (i:=_) m9 m9 m9 (vs:=[(0,cC x),(1,xL (dB pw)),(2,xJ xP a)]) (cells:=(cP (aD x) pw a (qf 64 eH)).toArray) n9
section
variable {k:Kit} {pw b:fY}
theorem JW(h8:m8 mc=8):(cP mc pw offs da).set (10+n) (xL (dB b))=cP mc pw offs (da.set n (dB b)):=by unfold cP;rw[qZ _ _ nb,h8,show 10+n-8=n+1+1 by omega,wZ,wZ,List.map_set]
theorem aa.QK(ok:gT mc da ds)(z:n<64)(t:ds[n]?=dB eH)(H:aa B h0 h (an a k.tS (cP mc pw offs (da.set n (dB b)))::ee k.tP pw w::(jz k pw da ds++(kh k.tD (k.f pw) b d::As)))):aa B h0 h (aJ k a pw mc offs (da.set n (dB b)) w (ds.set n (dB d))::As):=by
 have l:=ok.Vt z t;have r:=ok.la;have p:=ok.ls;have o:gT mc (da.set n (dB b)) (ds.set n (dB d)):=⟨ok.l8,by simp[r],D4,λi=>by
  by_cases F:n=i
  .grind
  .have:=ok.same i
   grind⟩
 have m:=MJ (k:=k) (pw:=pw) ok;have u:(jz k pw da ds)[n]?=dB emp:=by simp only[jz,wQ,l,t];rfl
 have c:jz k pw (da.set n (dB b)) (ds.set n (dB d))=(jz k pw da ds).set n (kh k.tD (k.f pw) b d):=by
  apply zn;intro j;simp only[jz,qV,wQ,List.length_zipWith];by_cases g:n=j
  .subst g;rw[hZ m9,hZ nb,hZ m9,hZ nb,hZ m9,hZ nb];rfl
  .simp[g]
 refine aa.je o ?_;rw[c];obtain⟨L,q⟩:=HF (jz k pw da ds)
 rw[<-q]at H u m⊢;have v:=H.cons (m8 L+2) (A:=kh k.tD (k.f pw) b d) n4;have e:(an a k.tS (cP mc pw offs (da.set n (dB b)))::ee k.tP pw w::(L++(kh k.tD (k.f pw) b d::As))).set (m8 L+2) emp=an a k.tS (cP mc pw offs (da.set n (dB b)))::ee k.tP pw w::(L++(emp::As)):=n4
 rw[e]at v;have x:=v.aF 3 [0,2,1];have s:L.set n emp=L:=by
  obtain⟨I,D⟩:=qm.1 u
  conv=>lhs;rw[<-D]
  simp
 have E:aa B h0 h (kh k.tD (k.f pw) b d::ee k.tP pw w::an a k.tS (cP mc pw offs (da.set n (dB b)))::(L.set n emp++(emp::As))):=by rw[s];exact x
 have y:=aa.QJ n nb E;have G:=aa.closeAll (an a k.tS (cP mc pw offs (da.set n (dB b)))::ee k.tP pw w::L.set n (kh k.tD (k.f pw) b d)) y;exact aa.AE (L:=an a k.tS (cP mc pw offs (da.set n (dB b)))::ee k.tP pw w::L.set n (kh k.tD (k.f pw) b d)) G.nP
end
def cw(p:Pm)(a:Int)(l:aC):aB:=⟨1,0,p,a,bg l l.length,[]⟩
def fO(l:aC)(k:Nat):aG:=(qy 64).map λi:Nat=>if(i:Int)∈(bg l l.length).take k then dB (bu.new (l.getD i 0).toNat)else eH
def dc(p:Pm)(a:Int)(w:Pow)(l:aC):Int×Pow×aG:=
 if(dN l).2&&(bH p&&dQ a 0 16)then
  if(bg l l.length).any λi=>decide (l.getD i.toNat 0<((bG (cw p a l)).length:Int))then(7,w,[])
  else layAll (bi (cw p a l) (bg l l.length)) w (fO l (bg l l.length).length)
 else(1,w,[])
theorem Dw(l:aC):fO l 0=qf 64 eH:=rfl
theorem Am(l:aC)(k:Nat):(fO l k).length=64:=rfl
theorem Dx(l:aC)(k n:Nat)(b:k<(bg l l.length).length)(c:(bg l l.length)[k]=(n:Int))(a:n<64:=by omega):(fO l k).set n (dB (bu.new (l.getD n 0).toNat))=fO l (k+1):=by
 apply zn;intro j;unfold fO;rw[aA _ _ b,qV,]
 grind
theorem pj(l:aC)(k:Nat)(x:Int):x∈bg l k↔∃n:Nat,n<k/\x=(n:Int)/\0<l.getD n 0:=by
 unfold bg;rw[qJ,]
 grind
theorem An(l:aC)(k i:Nat)(a:i<(bg l k).length):∃n:Nat,n<k/\(bg l k)[i]=(n:Int)/\0<l.getD n 0:=(pj l k _).1 (qe a)
def cS(p:Int×Int×Int):Nat:=(p.1*p.2.2).toNat
def sW(a:Nat)(b:aT)(i:Nat):aT:=(b.drop (i*a)).take a++(qf a 0).drop (b.drop (i*a)).length
theorem JX(a:Nat)(b:aT)(i:Nat):(sW a b i).length=a:=by unfold sW;grind
def splitB(p:Int×Int×Int)(b:aT):dT:=(qy (countP p b.length).toNat).map (sW (cS p) b)
def wd(p:Int×Int×Int)(o b:Int)(n:Nat):Bool:=fI p (fx o b n) (fo p)
def lX(p:Int×Int×Int)(o b:Int):Option Nat:=(qy 16).find? (wd p o b)
def cX(p:Int×Int×Int)(o:Int):Nat->Option (aC)
 |0=>dB []
 |n+1=>(cX p o n).bind λl=>(lX p o n).map λt=>l++[(t:Int)]
theorem kH{p:Int×Int×Int}{o:Int}:∀{n:Nat} {l:aC},cX p o n=dB l->m8 l=n
 |0,l,h=>by cases h;rfl
 |n+1,l,h=>by
  unfold cX at h;cases h1:cX p o n with
  |none=>grind
  |some k=>
   rw[h1]at h;cases h2:lX p o n with
   |none=>grind
   |some t=>
    rw[h2]at h;injection h with h
    rw[<-h,qo,kH h1];rfl
theorem Dy{p:Int×Int×Int}{o b:Int}{t:Nat}(h:lX p o b=dB t):t<16/\wd p o b t=eL/\∀k,k<t->wd p o b k=eR:=by
 obtain⟨d,us,vs,a,h3⟩:=List.find?_eq_some_iff_append.1 h;have e:=congrArg xr a;have f:t=m8 us:=by
  have:(qy 16)[m8 us]?=dB t:=n8
  grind
 refine⟨n8,d,λk g=>?_⟩;have c:k∈us:=by
  have:(qy 16)[k]?=us[k]?:=by rw[a,qu nb]
  grind
 grind
theorem Dz{p:Int×Int×Int}{o:Int}:∀{n:Nat} {l:aC},cX p o n=dB l->∀i (b:i<m8 l),∃t:Nat,l[i]=(t)/\lX p o i=dB t
 |0,l,h=>by cases h;simp
 |n+1,l,h=>by
  unfold cX at h;cases h1:cX p o n with
  |none=>grind
  |some k=>
   rw[h1]at h;cases h2:lX p o n with
   |none=>grind
   |some t=>
    rw[h2]at h;injection h with h
    subst h;intro i b;have c:=kH h1;by_cases a:i<m8 k
    .rw[List.getElem_append_left a];exact Dz h1 i a
    .have:i=m8 k:=n8
     grind
theorem DA(p:Pm)(h:hY)(c:bH p=eL):aj xT 167 #[gx p] h λv h'=>v=xJ xP (cS p)/\Sp h h' []:=by
 have b:=(bI p).1 c;refine AJ p ?_;refine(Sp.refl h).boxed λe h3 a=>⟨p.1,(a.box 0 m9).cell0 m9,p.2.2,(a.box 0 m9).cell m9,?_,a.bs []⟩
 have f:p.1*p.2.2<=16*24:=wg nb nb nb nb;have d:0<=p.1*p.2.2:=vT nb nb;rw[af _];unfold cS;congr 1;omega
theorem ik{p:Pm}(b:bH p=eL):1<=cS p/\cS p<=384/\(cS p:Int)=p.1*p.2.2:=by have a:=(bI p).1 b;have d:p.1*p.2.2<=16*24:=wg nb nb nb nb;have c:0<p.1*p.2.2:=Int.mul_pos nb nb;unfold cS;omega
theorem kq{p:Pm}(a:bH p=eL)(n:Nat):0<=countP p n/\countP p n<=n/\∀i:Nat,(i:Int)<countP p n->i*cS p<n:=by
 obtain⟨h,d,c⟩:=ik a;unfold countP;rw[a,z7];by_cases h0:0<(n:Int)
 .rw[ln h0,hZ m9,<-c];have j:((n:Int)-1)/(cS p:Int)<=n-1:=xh _ nb;have e:0<=((n:Int)-1)/(cS p:Int):=xu nb nb;refine⟨nb,nb,λi b=>?_⟩;have h3:(i:Int)<=((n:Int)-1)/(cS p:Int):=nb
  have g:=(Int.le_ediv_iff_mul_le nb).1 h3;have f:((i*cS p:Nat):Int)=(i:Int)*(cS p:Int):=zS i (cS p);omega
 .rw[m5 h0,k4 nq];exact⟨nb,nb,λi b=>nb⟩
theorem OS(p:Pm)(s:Sl)(b:aT)(h:hY)(f:bH p=eL)(m:Rd h s 1 aq b)(J:s.len<=s.cap)(N:m8 b<=2^30):aj xT 176 #[gx p,s] h λv h'=>∃r:Sl,v=r/\Sp h h' [cj r (splitB p b)]:=by
 refine ts Tryz.func176 ?_ (F8 (F8 (F9 [(5,bJ),(12,aI)] [(5,8),(12,31)]))) (args:=[p,s]);have c:=m.len;obtain⟨Q,R,S⟩:=ik f;obtain⟨O,Y,c3⟩:=kq f b.length;refine(Sp.refl h).boxed λq G l=>?_;refine⟨p,(l.box 0 m9).aw _ m9,?_⟩;refine(sT p s.len G).G7 λT K=>?_;have u:=l.up K.ac;refine⟨_,m9,?_⟩;obtain⟨n,F⟩:∃n:Nat,n=(countP p b.length).toNat:=⟨_,rfl⟩
 have d:(countP p (s.len:Nat))=(n:Int):=by rw[c];omega
 rw[d];have M:(splitB p b).length=n:=by unfold splitB;rw[<-F];simp
 have a:=u.kf 41 5 1 aq;refine ak (λt:Sl×Nat=>(t.1,(t.2:Int))) (λt h'=>t.2<=n/\Sp h h' [cj t.1 ((splitB p b).take t.2),an q 24 [xJ xP p.1,xJ xP p.2.1,xJ xP p.2.2]]) (λt=>n-t.2) (⟨eH,0,0⟩,0) m9 ⟨n4,a⟩ ?_;rintro⟨o,i⟩ h3 ⟨W,a⟩;dsimp only at*;refine ae (λe=>?_) (λe=>?_)
 .have B:i<n:=nb
  have D:=c3 i (by rw[<-c,d];omega);refine⟨p,(a.box 1 m9).aw _ m9,(DA p h3 f).G7 λX z=>?_⟩;have y:=a.up z.ac;refine⟨_,m9,y.Ep ag aq cR nq (0:UInt8) m9 m9 (cS p) (cS p) m9 m9 (qj _) nb λv x P V g=>?_⟩;have g:=g.ba;refine⟨p,(g.box 2 m9).aw _ m9,(DA p x f).G7 λU L=>?_⟩;have k:=g.up L.ac;refine⟨_,m9,?_⟩;have em:qd xP ((i:Int)*(cS p:Int))=((i*cS p:Nat):Int):=by rw[<-zS,af _]
  try dsimp only
  rw[em,qi];refine⟨⟨nb,nb⟩,?_⟩;have A:=(Seq.up m k.ac).drop (i*cS p) J;refine k.CT ag 0 m9 cR (λ_=>rfl) (v:=⟨_,s.len-i*cS p,s.cap-i*cS p⟩) A cH λ_ H j=>?_;have j:Sp h H [ai 5 v 1 aq (sW (cS p) b i),cj o ((splitB p b).take i),an q 24 [xJ xP p.1,xJ xP p.2.1,xJ xP p.2.2]]:=by simpa[sW]using j
  refine(j.aF 2 [1,0]).nQ ag cO n2 λE h8 w=>?_;refine⟨(E,i+1),n3,⟨n1,?_⟩,n1⟩
  try dsimp only
  rw[aA _ _ (show i<(splitB p b).length by omega)];have I:(splitB p b)[i]'nb=sW (cS p) b i:=by simp[splitB]
  rw[I];exact w
 .rw[qh nb]at a;exact⟨o,m9,a.bs [0]⟩
theorem mi(a b:UInt8):qd xQ ((qF (qq xQ) (a.toNat:Int)^^^qF (qq xQ) (b.toNat:Int)).toNat:Nat)=((a^^^b).toNat:Int):=by
 have e:∀a:UInt8,qF (qq xQ) (a.toNat:Int)=a.toBitVec:=λa=>by
  apply BitVec.eq_of_toNat_eq;have:=zQ a;simp[qq]
 rw[e,e];have c:=(a.toBitVec^^^b.toBitVec).isLt;have:((a^^^b).toNat:Int)=((a.toBitVec^^^b.toBitVec).toNat:Int):=rfl;rw[this];show(((a.toBitVec^^^b.toBitVec).toNat:Nat):Int)%256=_;have:(a.toBitVec^^^b.toBitVec).toNat<256:=c;omega
def tri(a:UInt8):Nat->Int×Int×Int
 |0=>((a.toNat:Int),(3:Int),(0:Int))
 |1=>(((Gf.x2 a).toNat:Int),(1:Int),(a.toNat:Int))
 |_=>(((Gf.x2 (Gf.x2 a)).toNat:Int),(0:Int),((Gf.x3 a).toNat:Int))
theorem OT(a:UInt8)(h:hY):aj xT 335 #[xJ xQ a.toNat,xJ xQ 3] h λv h'=>v=xJ xQ (Gf.x3 a).toNat/\h'=h:=by
 have e:∀n:Nat,n<256->
   ((qd xQ ((qF (qq xQ) (n:Int)&&&(qF (qq xQ) (128:Int))).toNat:Nat)) !=(0:Int))=eL->qd xQ ((qF (qq xQ) (qd xQ ((n:Int)*2^min (1:Int).toNat (qq xQ)))^^^(qF (qq xQ) (27:Int))).toNat:Nat)=((Gf.x2 (zI n)).toNat:Int):=oi
 have c:∀n:Nat,n<256->
   ((qd xQ ((qF (qq xQ) (n:Int)&&&(qF (qq xQ) (128:Int))).toNat:Nat)) !=(0:Int))=eR->qd xQ ((n:Int)*2^min (1:Int).toNat (qq xQ))=((Gf.x2 (zI n)).toNat:Int):=oi
 refine ts Tryz.func335 ?_ (F8 (.scope 0 [(0,(.sc (.int .u8))),(1,(.sc (.int .u8))),(5,(.sc (.int .u8)))] [(0,2),(4,26)] [E6] [(.two E6 (.two (.join [(5,(.sc (.int .u8)))] [(5,6),(10,16)] E6) (.two E6 (.two E6 (.two (.join [(0,(.sc (.int .u8)))] [(0,1),(21,24)] E6) E6)))))] []));refine ak (tri a) (λt h'=>h'=h/\t<=2) (λt=>2-t) 0 m9 ⟨m9,nb⟩ ?_;rintro t h' ⟨rfl,f⟩;rcases(show t=0∨t=1∨t=2 by omega)with rfl|rfl|rfl
 .rw[show tri a 0=((a.toNat:Int),(3:Int),(0:Int))from rfl]
  try dsimp only
  refine sn nq (aE (Fz nq ?_));refine⟨nq,aE ?_⟩;refine aS (λd=>?_) (λd=>?_)
  .rw[e _ (zQ a) d,wN];refine⟨nq,1,?_,⟨m9,nq⟩,nq⟩;have:=mi 0 a;simp only[wv]at this;exact yU m9 (yU m9 this)
  .rw[c _ (zQ a) d,wN];refine⟨nq,1,?_,⟨m9,nq⟩,nq⟩;have:=mi 0 a;simp only[wv]at this;exact yU m9 (yU m9 this)
 .rw[show tri a 1=(((Gf.x2 a).toNat:Int),(1:Int),(a.toNat:Int))from rfl]
  try dsimp only
  refine sn nq (aE (Fz nq ?_));refine⟨nq,aE ?_⟩;refine aS (λd=>?_) (λd=>?_)
  .rw[e _ (zQ (Gf.x2 a)) d,wN];refine⟨nq,2,?_,⟨m9,nq⟩,nq⟩;refine yU m9 (yU m9 ?_);have:=mi a (Gf.x2 a);rw[vQ]at this;exact this
  .rw[c _ (zQ (Gf.x2 a)) d,wN];refine⟨nq,2,?_,⟨m9,nq⟩,nq⟩;refine yU m9 (yU m9 ?_);have:=mi a (Gf.x2 a);rw[vQ]at this;exact this
 .exact Fz (b:=(0:Int)==0) nq ⟨m9,m9⟩
def jB:aC:=(qy 255).map λi=>((Gf.pw i).toNat:Int)
def pV:aC:=(qy 256).map λx=>if x=0 then 0 else((Gf.lg (zI x):Nat):Int)
theorem il:m8 jB=255:=by simp[jB]
theorem uv:m8 pV=256:=by simp[pV]
def eW:aR:=jB.map (Sc.enc (.int .u8))++pV.map (Sc.enc (.int .i64))
abbrev io(h:hY)(a:fY):Prop:=bQ h a 316 eW
theorem IY(k:IntKind)(l:aC):(l.map (Sc.enc (.int k))).all (·.oneCell')=eL:=by rw[List.all_map,qQ];intro x _;rfl
theorem OU(h:hY):aj xT 281 #[] h λv h'=>v=xO (jB.map (Sc.enc (.int .u8))).toArray/\Sp h h' []:=by
 refine ts Tryz.func281 ?_ (F8 (F8 (F9 [(1,(.sc (.int .u8))),(3,aI)] [(1,12)])));refine(Sp.refl h).alloc ag m9 λa r q=>?_;refine ak (λi:Nat=>(((Gf.pw i).toNat:Int),(i:Int))) (λi h'=>i<=255/\Sp h h' [an a 311 (((qy 255).map λj=>if j<i then((Gf.pw j).toNat:Int)else 0).map (Sc.enc (.int .u8)))]) (λi=>255-i) 0 m9 ⟨nb,?_⟩ ?_
 .have e:((qy 255).map λj=>if j<0 then((Gf.pw j).toNat:Int)else 0).map (Sc.enc (.int .u8))=qf 255 (xJ xQ 0):=by simp;rfl
  rw[e];exact q
 .rintro i s ⟨t,f⟩;refine ae (λo=>?_) (λk=>?_)
  .dsimp only at o;refine⟨⟨n1,n1⟩,?_⟩
   try dsimp only
   rw[show((i:Int).toNat*1)=i by omega];refine f.storeAt ag 0 m9 m9 m9 m9 m9 n2 λh3 g=>?_;refine(OT (Gf.pw i) h3).G6 ⟨_,m9,i+1,?_,⟨nb,?_⟩,nb⟩
   .rw[af _];rfl
   .have e:((((qy 255).map λj=>if j<i then((Gf.pw j).toNat:Int)else 0).map (Sc.enc (.int .u8))).set i (xJ xQ (Gf.pw i).toNat))=(((qy 255).map λj=>if j<i+1 then((Gf.pw j).toNat:Int)else 0).map (Sc.enc (.int .u8))):=by
     apply zn;intro j;simp only[qV,qM,qn,zL];by_cases d:i=j
     .subst d;have:i<255:=nb
      simp[this]
     .by_cases b:j<255
      .simp only[d,if_false,zo b,zl];by_cases c:j<i
       .rw[hZ c,hZ nb]
       .rw[k4 c,k4 nb]
      .simp[d,b]
    rw[<-e];exact g
  .have l:i=255:=by dsimp only at k;omega
   subst l;have e:((qy 255).map λj=>if j<255 then((Gf.pw j).toNat:Int)else 0)=jB:=by unfold jB;apply List.map_congr_left;intro j d;rw[hZ (qY.1 d)]
   rw[e]at f;have p:=f.box 0 m9;refine⟨jB,⟨il,p.aw _ A5⟩,?_⟩;refine f.storeAll ag 0 m9 m9 (jB.map (Sc.enc (.int .u8))) m9 (by rw[qn,il]) (IY _ _) m9 λh3 g=>?_;have m:=g.box 0 m9;exact⟨jB,⟨il,m.aw _ A5⟩,m9,.zip g.ac⟩
theorem Vy(h:hY):aj xT 282 #[xO (jB.map (Sc.enc (.int .u8))).toArray] h λv h'=>v=xO (pV.map (Sc.enc (.int .i64))).toArray/\Sp h h' []:=by
 refine ts Tryz.func282 ?_ (F8 (F9 [(6,aI)] [(3,5),(6,14)])) (args:=[(xO (jB.map (Sc.enc (.int .u8))).toArray)]);refine(Sp.refl h).boxed λa D w=>?_;refine w.alloc ag m9 λy E q=>?_;have m:=q.box 0 m9;refine⟨jB,⟨il,m.aw _ (by show List.take _ (jB.map _)=_;rw[qh (qj _)])⟩,?_⟩;let L:Nat->aC:=λi=>(qy 256).map λx=>if x≠0/\Gf.lg (zI x)<i then((Gf.lg (zI x):Nat):Int)else 0
 refine ak (λi:Nat=>(i:Int)) (λi h'=>i<=255/\Sp h h' [emp,an y 313 ((L i).map (Sc.enc (.int .i64)))]) (λi=>255-i) 0 m9 ⟨nb,?_⟩ ?_
 .have e:(L 0).map (Sc.enc (.int .i64))=qf 256 (xJ xP 0):=by simp[L];rfl
  rw[e];exact q.dY 0 m9 λ_ _=>trivial
 .rintro i h3 ⟨F,k⟩;refine ae (λz=>?_) (λt=>?_)
  .have c:i<255:=nb
   have r:=zQ (Gf.pw i);refine⟨((Gf.pw i).toNat:Int),⟨nb,nb,by simp[jB,c]⟩,⟨nb,nb⟩,?_⟩;rw[show(((Gf.pw i).toNat:Int).toNat*1)=(Gf.pw i).toNat by omega];refine k.storeAt ag 1 m9 m9 m9 m9 m9 (by simp[L];omega) λA g=>?_;refine⟨i+1,n7,⟨nb,?_⟩,nb⟩;have e:((L i).map (Sc.enc (.int .i64))).set (Gf.pw i).toNat (xJ xP i)=(L (i+1)).map (Sc.enc (.int .i64)):=by
    apply zn;intro j;simp only[qV,qM,qn,zL,L];by_cases f:(Gf.pw i).toNat=j
    .subst f;simp only[if_true,zo r,zl,r];have o:(Gf.pw i).toNat≠0:=λh0=>Gf.RV i c (yy.1 h0);rw[wN,Gf.RU i c,hZ ⟨o,nb⟩]
    .by_cases d:j<256
     .simp only[f,if_false,zo d,zl];by_cases b:j=0
      .simp[b]
      .have B:Gf.lg (zI j)≠i:=λh0=>by
        apply f;rw[<-h0,Gf.RT _ λu=>b (by have:=congrArg UInt8.toNat u;simpa[yS d]using this)];simp[yS d]
       by_cases l:Gf.lg (zI j)<i
       .rw[hZ ⟨b,l⟩,hZ ⟨b,nb⟩]
       .rw[k4 λs=>l s.2,k4 λs=>l nb]
     .simp[f,d]
   rw[<-e];exact g
  .have c:i=255:=nb
   subst c;have e:L 255=pV:=by
    unfold pV;apply List.map_congr_left;intro j f;by_cases b:j=0
    .simp[b]
    .rw[hZ ⟨b,Gf.GL _⟩,k4 b]
   rw[e]at k;have m:=k.box 1 m9;refine⟨pV,⟨uv,m.aw _ A5⟩,?_⟩;refine k.storeAll ag 1 m9 m9 (pV.map (Sc.enc (.int .i64))) m9 (by rw[qn,uv]) (IY _ _) m9 λA g=>?_;have p:=g.box 1 m9;exact⟨pV,⟨uv,p.aw _ A5⟩,m9,.zip g.ac⟩
theorem sX(h:hY):aj xT 224 #[] h λv h'=>∃a:fY,v=xL (dB a)/\Sp h h' [an a 316 eW]:=by
 refine ts Tryz.func224 ?_;refine(OU h).mono ?_;rintro v s ⟨rfl,q⟩;refine⟨jB,m9,?_⟩;refine q.alloc ag m9 λa t m=>?_;refine m.storeAll ag 0 m9 m9 (jB.map (Sc.enc (.int .u8))) m9 (by rw[qn,il]) (IY _ _) (by rw[qn,il];rfl) λh3 j=>?_;have g:=j.box 0 m9;have c:bp h3 a 0 (jB.map (Sc.enc (.int .u8))):=g.aw _ A5;refine⟨jB,⟨il,c⟩,jB,⟨il,c⟩,?_⟩;refine(Vy h3).G7 λu f=>⟨pV,m9,nC.2 ⟨(f.ac).cells g.lt c,I0⟩,_,tV ag (i:=_) m9 m9 m9 (cells:=eW.toArray) ?_,?_⟩
 .have b:∀z:aR,m8 z=511->wz (λn=>[(0,255),(255,256)][n]?) z.toArray [(0,xO (jB.map (Sc.enc (.int .u8))).toArray),(1,xO (pV.map (Sc.enc (.int .i64))).toArray)]=dB eW.toArray:=by
   intro z b;have e:z=[]++z.take 255++z.drop 255:=n4
   conv=>lhs;rw[e]
   rw[LW (vs:=jB.map (Sc.enc (.int .u8))) m9 (by simp[il]) (by simp[il,b])];have e2:[]++jB.map (Sc.enc (.int .u8))++z.drop 255=jB.map (Sc.enc (.int .u8))++z.drop 255++[]:=n4
   rw[e2,LW (vs:=pV.map (Sc.enc (.int .i64))) m9 (by simp[il,uv]) (by simp[uv,b])];simp[wz,eW]
  exact b _ m9
 .have o:(Value.agg eW.toArray).cells.toList=eW:=rfl;refine(j.comp f).boxed λp r k=>?_;have d:=k.box 0 m9;exact⟨nC.2 ⟨d.aw _ A5,I0⟩,p,m9,k.take 1 λi A l=>by cases i with|zero=>exact l|succ i=>simp at l⟩
theorem DB{h:hY}{a:fY}(c:io h a)(n:Nat)(b:n<255):hU h (a.add n)=dB (xJ xQ (Gf.pw n).toNat):=
 c.cell (by rw[eW,qu (by simp[il,b])];simp[jB,b])
theorem DC{h:hY}{a:fY}(c:io h a)(x:UInt8)(d:x≠0):hU h ((a.add 255).add x.toNat)=dB (xJ xP (Gf.lg x)):=by
 have f:=c.addr;have e:(a.add 255).add x.toNat=a.add (255+x.toNat):=by rw[f,add_eq,add_eq,add_eq];congr 1;omega
 rw[e];refine c.cell ?_;have b:=zQ x;have h0:x.toNat≠0:=λh0=>d (yy.1 h0);rw[eW,qk (by simp[il])];simp[il,pV,b,h0]
theorem pW(a:fY)(h:hY):aj xT 354 #[xL (dB a)] h λv h'=>v=xL (dB a)/\h'=h:=by refine ts Tryz.func354 ?_;exact sn m9 ⟨m9,m9⟩
theorem sA(a:fY)(h:hY):aj xT 298 #[xL (dB a)] h λv h'=>v=xL (dB a)/\h'=h:=by refine ts Tryz.func298 ?_;exact sn m9 ⟨m9,m9⟩
theorem KF(a:fY)(h:hY):aj xT 382 #[xL (dB a)] h λv h'=>v=xL (dB a)/\h'=h:=by refine ts Tryz.func382 ?_;exact sn m9 ⟨m9,m9⟩
theorem nA{x:UInt8}:((x.toNat:Int)=0)↔x=0:=⟨λh=>yy.1 p5,λh=>by rw[h];rfl⟩
theorem Gc(a:fY)(x y:UInt8)(h:hY)(d:io h a):aj xT 307 #[xL (dB a),xJ xQ x.toNat,xJ xQ y.toNat] h λv h'=>v=xJ xQ (Gf.mul x y).toNat/\h'=h:=by
 refine ts Tryz.func307 ?_ (F8 (G0 [] [(6,7),(8,14)] E6));refine aE ?_;refine aZ (λh0=>⟨by rw[Gf.mul,hZ (.inl (nA.1 h0))];rfl,m9⟩) λg=>?_;refine aZ (λh0=>⟨by rw[Gf.mul,hZ (.inr (nA.1 h0))];rfl,m9⟩) λi=>?_;have b:x≠0:=λh0=>g (nA.2 h0);have c:y≠0:=λh0=>i (nA.2 h0);refine(pW a h).G6 ?_;have j:=zQ x;have k:=zQ y;have l1:=Gf.GL x;have l2:=Gf.GL y;refine⟨dB a,m9,a,m9,⟨nb,nb⟩,(Gf.lg x:Int),?_,a,m9,⟨nb,nb⟩,(Gf.lg y:Int),?_,nq,a,m9,?_⟩
 .rw[show((x.toNat:Int).toNat*1)=x.toNat by omega];exact DC d x b
 .rw[show((y.toNat:Int).toNat*1)=y.toNat by omega];exact DC d y c
 rw[af _];have e:xB ((Gf.lg x:Int)+(Gf.lg y:Int)) 255=(((Gf.lg x+Gf.lg y)%255:Nat):Int):=by rw[zT nb];rfl
 rw[e];have f:=vk (Gf.lg x+Gf.lg y) (show 255>0 by decide);refine⟨⟨nb,nb⟩,_,?_,by rw[Gf.mul,k4 (by simp[b,c])],m9⟩;rw[show((((Gf.lg x+Gf.lg y)%255:Nat):Int).toNat*1)=(Gf.lg x+Gf.lg y)%255 by omega];exact DB d _ f
theorem Yo(a:fY)(x:UInt8)(h:hY)(d:io h a):aj xT 346 #[xL (dB a),xJ xQ x.toNat] h λv h'=>v=xJ xQ (Gf.inv x).toNat/\h'=h:=by
 refine ts Tryz.func346 ?_;refine aZ (λh0=>⟨by rw[Gf.inv,hZ (nA.1 h0)];rfl,m9⟩) λf=>?_;have b:x≠0:=λh0=>f (nA.2 h0);refine(pW a h).G6 ?_;have i:=zQ x;have l1:=Gf.GL x;refine⟨dB a,m9,a,m9,⟨nb,nb⟩,(Gf.lg x:Int),?_,nq,a,m9,?_⟩
 .rw[show((x.toNat:Int).toNat*1)=x.toNat by omega];exact DC d x b
 rw[af _];have e:xB (255-(Gf.lg x:Int)) 255=(((255-Gf.lg x)%255:Nat):Int):=by rw[zT nb];omega
 rw[e];have c:=vk (255-Gf.lg x) (show 255>0 by decide);refine⟨⟨nb,nb⟩,_,?_,by rw[Gf.inv,k4 b],m9⟩;rw[show((((255-Gf.lg x)%255:Nat):Int).toNat*1)=(255-Gf.lg x)%255 by omega];exact DB d _ c
theorem Yp(a:fY)(n:Int)(h:hY)(i:io h a):aj xT 343 #[xL (dB a),xJ xP n] h λv h'=>v=xJ xQ (Gf.pw (n%255).toNat).toNat/\h'=h:=by
 refine ts Tryz.func343 ?_ (F8 (F8 (G0 [(1,aI)] [(1,2),(7,11)] E6)));have j:=yX n (show(0:Int)<255 by decide);have g:-255<n.tmod 255:=vH n nq;have b:=FC n 255;have f:=Int.emod_nonneg n (show(255:Int)≠0 by decide);have d:=Int.emod_lt_of_pos n (show(0:Int)<255 by decide);refine⟨nq,bn (λs h'=>s=n%255/\h'=h) ?_ ?_⟩
 .refine ae (λc=>?_) (λe=>?_)
  .rw[hZ c]at b;exact⟨by rw[af _,b],m9⟩
  .rw[k4 e]at b;exact⟨b.symm,m9⟩
 .rintro s h' ⟨rfl,rfl⟩;refine(pW a h').G6 ⟨dB a,m9,a,m9,⟨f,d⟩,_,?_,m9,m9⟩;rw[zG];exact DB i _ nb
theorem mj(p:Pm)(h:hY):aj xT 223 #[gx p] h λv h'=>v=xJ xP (bD p)/\Sp h h' []:=by refine ts Tryz.func223 ?_ (args:=[p]);refine(Sp.refl h).boxed λa g c=>?_;refine⟨p,(c.box 0 m9).aw _ m9,?_⟩;refine(fe p g).G7 λi f=>?_;have b:=c.comp f;have d:=b.box 0 m9;refine⟨_,m9,aH (λe=>⟨by simp[bD,e],.zip b.ac⟩) λe=>?_⟩;refine⟨_,d.cell0 m9,_,d.cell m9,?_,.zip b.ac⟩;have:=(bI p).1 e;rw[af _,bD,hZ e]
theorem Vz(n i:Int)(h:hY):aj xT 342 #[xJ xP n,xJ xP i] h λv h'=>∃s:Sl,v=s/\
  Sp h h' [ai 5 s 1 aq (if 1<=n/\n<=64/\0<=i/\i<n then(qf n.toNat (0:UInt8)).set i.toNat 1 else[])]:=by
 refine ts Tryz.func342 ?_ (F8 (G0 [] [(4,5),(6,21)] E6));have a:∀c:Prop,¬c->[Decidable c]->Sp h h [ai 5 ⟨eH,0,0⟩ 1 aq (if c then(qf n.toNat (0:UInt8)).set i.toNat 1 else[])]:=λc b _=>by
  rw[k4 b];exact(Sp.refl h).nil 5 1 aq
 refine aE ?_;refine ae (λe=>⟨⟨eH,0,0⟩,m9,a _ nb⟩) λo=>?_;refine ae (λe=>⟨⟨eH,0,0⟩,m9,a _ nb⟩) λe2=>?_;refine ae (λe=>⟨⟨eH,0,0⟩,m9,a _ nb⟩) λm=>?_;refine ae (λe=>⟨⟨eH,0,0⟩,m9,a _ nb⟩) λk=>?_;refine(Sp.refl h).make ag aq ⟨_,_,m9,m9,m9,m9,m9,m9⟩ nq 0 m9 m9 n.toNat n.toNat nb nb (qj _) nb λs j g b f=>?_;refine f.set ag 0 m9 (λ_=>rfl) m9 i.toNat nb n2 1 m9 m9 m9 λl d=>?_;refine⟨s,m9,?_⟩;rw[hZ nb];exact d
theorem KG(s:Int)(h:hY):aj xT 233 #[xJ xR s] h λv h'=>∃a:fY,v=xL (dB a)/\Sp h h' [an a 341 [xJ xS (qd xS s)]]:=by refine ts Tryz.func233 ?_;exact(Sp.refl h).boxed λa c b=>⟨a,m9,b⟩
theorem AQ(a:fY)(s:Int)(h:hY)(d:bQ h a 341 [xJ xS s]):aj xT 234 #[xL (dB a)] h λv h'=>v=xJ xR (told s)/\bQ h' a 341 [xJ xS (tW s)]/\aQ (·≠a.block) h h':=by refine ts Tryz.func234 ?_;refine sn m9 ⟨a,m9,s,d.cell0 m9,a,m9,?_⟩;refine sI ag d m9 _ m9 m9 m9 (qj _) λe b c _=>?_;exact⟨a,m9,_,b.cell0 m9,nq,m9,b,c⟩
theorem Hq(a:fY)(s n:Int)(h:hY)(f:bQ h a 341 [xJ xS s])(g:0<n:=by omega)(d:n<=2^62:=by omega):aj xT 309 #[xL (dB a),xJ xP n] h λv h'=>v=xJ xP (jo s n)/\bQ h' a 341 [xJ xS (tW s)]/\aQ (·≠a.block) h h':=by refine ts Tryz.func309 ?_ (F8 (G0 [] [(4,11)] E6));refine aE (sn m9 (ae (λe=>nb) λ_=>?_));refine(AQ a s h f).G7 λi ⟨c,b⟩=>⟨_,m9,A7,m9,c,b⟩
theorem EJ(a b:Nat)(c:a<=2^40)(d:b<=2^40):qd xP ((a:Int)+(b:Int))=((a+b:Nat):Int):=by rw[af _];rfl
theorem VA(l:Nat)(h:hY)(f:l<=20):aj xT 355 #[xJ xP l] h λv h'=>v=xJ xP (cx l)/\h'=h:=by
 have i:∀l:Nat,l<=20->∀r:Nat,r<=5->(∀j,j<r->j*j<l)->r*r<l->r<5:=nq
 have m:∀l:Nat,l<=20->∀r:Nat,r<=5->(∀j,j<r->j*j<l)->¬r*r<l->r=cx l:=nq
 refine ts Tryz.func355 ?_ (F8 (F8 (E5 (E7 (E8 [(3,aI)] [(3,11)] E6)) E6)));refine ak (λr:Nat=>(r:Int)) (λr h'=>h'=h/\r<=5/\∀j,j<r->j*j<l) (λr=>5-r) 0 m9 ⟨m9,nb,λj d=>nb⟩ ?_;rintro r h' ⟨rfl,c,d⟩;have o:r*r<=25:=zq c c;have e:qd xP ((r:Int)*(r:Int))=((r*r:Nat):Int):=by rw[<-zS];exact kv _
 rw[e];refine ae (λk=>?_) (λg=>?_)
 .have a:r*r<l:=nb
  have p:=i l f r c d a;refine⟨r+1,n7,⟨m9,nb,λj b=>?_⟩,nb⟩;rcases Nat.lt_succ_iff_lt_or_eq.1 b with b|rfl
  .exact d j b
  .exact a
 .exact⟨by rw[m l f r c d nb],m9⟩
theorem VB(r:Nat)(h:hY)(b:r<=5):aj xT 255 #[xJ xS r] h λv h'=>v=xJ xP (ry r)/\h'=h:=by
 intro w a;refine(Tryz.bits_Len (r:Int) w nb nb).mono ?_;rintro e w' ⟨rfl,rfl⟩;have k:∀r:Nat,r<=5->Lib.bitLen r=ry r:=oi
 exact⟨_,m9,dm.refl _,by rw[qi,k r b],a⟩
theorem OV(l k:Nat)(h:hY)(b:l<=20)(a:1<=l)(d:k<=20)(g:1<=k):aj xT 310 #[xJ xP l,xJ xP k] h λv h'=>v=xJ xP (lx l k)/\h'=h:=by
 have j:∀k:Nat,k<=20->1<k->qd xP ((k:Int)*qd xP ((k:Int)-1))=((k*(k-1):Nat):Int)/\k*(k-1)≠0:=nq
 have z:∀l:Nat,l<=20->1<=l->1<=cx l/\cx l<=5:=nq
 have c3:∀l:Nat,l<=20->1<=l->qd xP (yN (l:Int) (cx l))=((l/cx l:Nat):Int):=nq
 have x:∀l:Nat,l<=20->1<=l->∀k:Nat,k<=20->1<=k->qd xP ((l:Int)*k)≠0:=oi
 have m:∀k:Nat,k<=20->1<k->qd xP (yN (1048576:Int) (qd xP ((k:Int)*qd xP ((k:Int)-1))))=((1048576/(k*(k-1)):Nat):Int):=oi
 have q:∀l:Nat,l<=20->1<=l->qd xP (yN (1048576:Int) (l:Int))=((1048576/l:Nat):Int):=oi
 have o:∀l:Nat,l<=20->1<=l->∀k:Nat,k<=20->1<=k->qd xP (yN (qd xP ((1048576:Int)*cx l)) (qd xP ((l:Int)*k)))=((1048576*cx l/(l*k):Nat):Int):=oi
 have y:∀l:Nat,l<=20->1<=l->qd xP (yN (qd xP ((qd xP ((1048576:Int)*cx l))*ry (cx l))) (l:Int))=((1048576*cx l*ry (cx l)/l:Nat):Int):=oi
 have u:∀l:Nat,l<=20->∀k:Nat,k<=20->1048576*cx l/(l*k)<=2^30/\1048576*cx l*ry (cx l)/l<=2^30/\1048576/(k*(k-1))<=2^30/\1048576/l<=2^30:=oi
 refine ts Tryz.func310 ?_ (F8 (F8 (F8 (G0 [(6,aI)] [(6,7),(12,19)] (G0 [(6,aI)] [(6,8),(19,48)] E6)))));have i:=u l b k d;refine(VA l h b).mono ?_;rintro v p ⟨rfl,rfl⟩;have r:=z l b a;refine⟨_,m9,nb,bn (λs h'=>s=(((if k>1 then 1048576/(k*(k-1))else 1048576/l):Nat):Int)/\h'=p) ?_ ?_⟩
 .refine ae (λe=>?_) (λe=>?_)
  .have:=j k d nb;refine⟨by rw[this.1];omega,by rw[m k d nb,hZ nb],m9⟩
  .refine⟨by rw[q l b a,k4 nb],m9⟩
 .rintro s t ⟨rfl,rfl⟩;have A:(if k>1 then 1048576/(k*(k-1))else 1048576/l)<=2^30:=by split<;>first|exact i.2.2.1|exact i.2.2.2
  refine aE ?_;try dsimp only
  refine⟨show((cx l:Nat):Int)≠0 by omega,?_⟩;rw[c3 l b a];refine ae (λe=>⟨x l b a k d g,?_,m9⟩) (λe=>?_)
  .rw[o l b a k d g,EJ _ _ nb (qX i.1 nq),lx,hZ (c:=k<l/cx l) (xA.1 e)]
  .refine aZ (λe2=>?_) (λe2=>?_)
   .have w:qd xS (cx l:Int)=(cx l:Int):=A7
    rw[w];refine(VB (cx l) t r.2).G6 ⟨_,m9,nb,?_,m9⟩;rw[y l b a,EJ _ _ nb (qX i.2.1 nq),lx,k4 (c:=k<l/cx l) λf=>e (xA.2 f),hZ (c:=k=l/cx l) (yQ.1 e2)]
   .exact⟨by rw[lx,k4 (c:=k<l/cx l) λf=>e (xA.2 f),k4 (c:=k=l/cx l) λf=>e2 (yQ.2 f),Nat.add_zero],m9⟩
theorem SN(l:Nat)(h:hY)(a:l<=20)(c:1<=l):aj xT 236 #[xJ xP l] h λv h'=>∃s:Sl,v=s/\Sp h h' [ai 3 s 1 av (fH l)]:=by
 refine ts Tryz.func236 ?_ (F8 (G0 [] [(2,3),(6,12)] (F8 (F8 (F9 [(3,bJ),(4,aI),(5,aI)] [(3,6),(14,28)])))));refine aE (ae (λe=>nb) λ_=>ae (λe=>nb) λ_=>?_);refine(Sp.refl h).make ag av ge nq 0 m9 m9 0 l m9 m9 nb nb λs r f u j=>?_;refine ak (λt:Sl×Nat=>(t.1,((jv l t.2:Nat):Int),((t.2+1:Nat):Int))) (λt h'=>t.2<=l/\Sp h h' [ai 3 t.1 1 av ((fH l).take t.2)]) (λt=>l-t.2) (s,0) m9 ⟨n4,by simpa using j⟩ ?_;rintro⟨s,k⟩ i ⟨q,b⟩;dsimp only at*;refine ae (λe=>?_) (λe=>?_)
 .refine(OV l (k+1) i a c nb nb).G6 ⟨_,m9,?_⟩;have o:=tj l a k nb;have p:=Bn l a (k+1) nb;have e2:qd xP ((jv l k:Int)+(lx l (k+1):Int))=((jv l (k+1):Nat):Int):=by rw[af _,jv];rfl
  try dsimp only
  rw[e2];refine b.push ag 0 m9 ge m9 nq (λ_=>rfl) dt _ m9 nq p8 λg w d=>?_;refine⟨(g,k+1),n3,⟨n1,?_⟩,n1⟩;have m:(fH l).take (k+1)=(fH l).take k++[((jv l (k+1):Nat):Int)]:=by rw[aA _ _ t8];simp[fH]
  dsimp only;rw[m];exact d
 .refine⟨s,m9,?_⟩;rw[qh t8]at b;exact b
theorem OW{p:ar}(t:Sl)(lt:aC)(x b:Int)(h:hY)(f:Seq h p t 1 av lt)(s:0<=x)(a:lt.getLast?=dB b)(i:x<b)(u:m8 lt<=2^40):
  aj xT 308 #[t,xJ xP x] h λv h'=>v=xJ xP (IF lt x)/\h'=h:=by
 refine ts Tryz.func308 ?_ (F8 (G0 [] [(4,5),(7,24)] (F9 [(26,aI)] [(4,7),(26,37)])));have r:=f.len;have d:lt≠[]:=λe=>by rw[e]at a;cases a
 have o:0<m8 lt:=List.length_pos_iff.2 d;have g:lt[m8 lt-1]=b:=by rw[List.getLast?_eq_getElem?,qc nb]at a;simpa using a
 refine aE (aZ (λe=>nb) λ_=>ae (λe=>nb) λ_=>?_);rw[af _];refine f.aW (m8 lt-1) nb nb _ m9 ?_;rw[g];refine ae (λe=>nb) λ_=>?_;have c:(lt.findIdx λy=>decide (y>x))<m8 lt:=List.findIdx_lt_length_of_exists ⟨b,List.mem_of_getLast? a,by simpa using i⟩;refine ak (λk:Nat=>(k:Int)) (λk h'=>h'=h/\k<=(lt.findIdx λy=>decide (y>x))) (λk=>m8 lt-k) 0 m9 ⟨m9,nb⟩ ?_;rintro k h' ⟨rfl,m⟩;refine ae (λe=>?_) (λe=>nb);have j:k<m8 lt:=nb
 refine f.aW k m9 j _ m9 ?_;rw[af _];refine ae (λe2=>?_) (λe2=>?_)
 .have:(lt.findIdx λy=>decide (y>x))=k:=Nat.le_antisymm (Nat.le_of_not_lt λl=>by have:=List.not_of_lt_findIdx l;simp at this;omega) m;exact⟨by rw[IF,this];rfl,m9⟩
 .refine⟨k+1,m9,⟨m9,?_⟩,nb⟩;refine Nat.lt_of_le_of_ne m λq=>?_;have:=List.findIdx_getElem (xs:=lt) (p:=λy=>decide (y>x)) (w:=c);simp only[<-q]at this;simp at this;omega
theorem EP(t:Sl)(n:Nat)(a:fY)(s:Int)(h:hY)(g:Seq h (·≠a.block) t 1 av (fH n))(l:bQ h a 341 [xJ xS s])(d:1<=n)(f:n<=20):
  aj xT 235 #[t,xL (dB a)] h λv h'=>v=xJ xP (Bp s n)/\bQ h' a 341 [xJ xS (tW s)]/\aQ (·≠a.block) h h':=by
 refine ts Tryz.func235 ?_;have j:=g.len;rw[fZ]at j;refine aZ (λe=>nb) λ_=>?_;rw[af _];refine g.aW (n-1) nb t8 _ m9 ?_;have o:(fH n)[n-1]'(by rw[fZ];omega)=((jv n n:Nat):Int):=by simp only[fH,List.getElem_map,List.getElem_range];rw[show n-1+1=n by omega]
 rw[o];have p:=FF n f d;have k:=tj n f n f;refine(Hq a s _ h l).mono ?_;rintro v m ⟨rfl,i,c⟩;have b:=oa s (jv n n);refine⟨_,m9,(OW t (fH n) _ _ m (g.ac c) b.1 (Bo n d) b.2 t8).G6 ?_⟩;exact⟨_,m9,m9,i,c⟩
theorem VC(a:fY)(s:Int)(n k:Nat)(h:hY)(E:bQ h a 341 [xJ xS s])(P:n<=64)(O:k<=n):
  aj xT 237 #[xL (dB a),xJ xP n,xJ xP k] h λv h'=>∃r:Sl,v=r/\aa (λb=>b<h.size/\¬b=a.block) h h' [an a 341 [xJ xS (dZ n s (upto n) k).1],ai 3 r 1 av (Bl s n k)]:=by
 refine ts Tryz.func237 ?_ (F8 (G0 [] [(6,7),(12,27)] (F8 (E5 (F8 (E7 (E8 [(31,aI)] [(8,9),(31,39)] E6))) (F9 [(40,aI)] [(9,11),(40,65)])))));refine aE (ae (λe=>nb) λ_=>ae (λe=>nb) λ_=>ae (λe=>nb) λ_=>ae (λe=>nb) λ_=>?_);have G:aa (λb=>b<h.size/\¬b=a.block) h h [an a 341 [xJ xS s]]:=.LV (λb=>b=a.block) (λb q=>by rw[q];exact E.lt) ⟨E,m9⟩;refine G.make ag av ge nq 0 m9 m9 n n m9 m9 (qj _) nb λv Q N S L=>?_;refine ak (λi:Nat=>(i:Int)) (λi h'=>i<=n/\aa (λb=>b<h.size/\¬b=a.block) h h' [an a 341 [xJ xS s],ai 3 v 1 av ((upto n).take i++qf (n-i) 0)]) (λi=>n-i) 0 m9 ⟨nb,by simpa using L⟩ ?_;rintro i R ⟨V,p⟩;refine ae (λe=>?_) (λe=>?_)
 .have m:i<n:=nb
  refine p.set ag 1 m9 (λ_=>rfl) m9 i m9 (by simp[fE];omega) (i:Int) m9 m9 m9 λh3 f=>?_;refine⟨i+1,n7,⟨nb,?_⟩,nb⟩;have e2:((upto n).take i++qf (n-i) 0).set i (i:Int)=(upto n).take (i+1)++qf (n-(i+1)) 0:=by
   have o:((upto n).take i).length=i:=by rw[qx,fE];omega
   rw[aA _ _ Bk,qZ _ _ nb,o,zd,show n-i=n-(i+1)+1 by omega,yb,zt];simp[upto]
  rw[<-e2];exact f
 .have m:i=n:=nb
  subst m;have e2:(upto i).take i++qf (i-i) 0=upto i:=by rw[qh Bk];simp
  rw[e2]at p;refine ak (λj:Nat=>(j:Int)) (λj h'=>j<=k/\aa (λb=>b<h.size/\¬b=a.block) h h' [an a 341 [xJ xS (dZ i s (upto i) j).1],ai 3 v 1 av (dZ i s (upto i) j).2]) (λj=>k-j) 0 m9 ⟨nb,p⟩ ?_;rintro j h3 ⟨U,f⟩;have A:=pL i s (upto i) j;rw[fE]at A;refine ae (λM=>?_) (λM=>?_)
  .rw[af _];have c:((i:Int)-(j:Int))=((i-j:Nat):Int):=nb
   rw[c];refine(Hq a _ _ h3 (f.box 0 m9)).mono ?_;rintro w F ⟨rfl,y,u⟩;have l:=f.ng 0 m9 u y;have H:=oa (dZ i s (upto i) j).1 ((i-j:Nat):Int);refine⟨_,m9,?_⟩
   try dsimp only
   rw[af _,af _];have J:(j:Int)+jo (dZ i s (upto i) j).1 ((i-j:Nat):Int)=((j+(jo (dZ i s (upto i) j).1 ((i-j:Nat):Int)).toNat:Nat):Int):=nb
   have d:j+(jo (dZ i s (upto i) j).1 ((i-j:Nat):Int)).toNat<(dZ i s (upto i) j).2.length:=nb
   rw[J];have g:=l.seq 1 m9 λ_=>rfl;refine g.aW _ m9 d _ m9 ?_;refine g.aW j m9 nb _ m9 ?_;refine l.set ag 1 m9 (λ_=>rfl) m9 j m9 nb _ m9 m9 m9 λI B=>⟨I0,?_⟩
   refine B.set ag 1 m9 (λ_=>rfl) m9 _ m9 B5 _ m9 m9 m9 λT K=>⟨I0,?_⟩
   refine⟨j+1,m9,⟨nb,?_⟩,nb⟩;rw[dZ,ji,fd,fd,Qw.getD_lt d,Qw.getD_lt (show j<(dZ i s (upto i) j).2.length by omega)];exact K
  .have D:j=k:=nb
   subst D;refine⟨⟨nb,nb⟩,?_⟩;have t:=f.seq 1 m9 λ_=>rfl;refine(jN ⟨v.ptr,j,v.cap⟩ ((dZ i s (upto i) j).2.take j) h3 (t.take j nb) p8).mono ?_;rintro w F ⟨r,rfl,l⟩;refine⟨r,m9,?_⟩;refine(JQ r _ F (l.own 0 m9) p8).G7 λI ⟨z,x⟩=>?_;have B:=(f.comp l).oq 2 m9 x z;exact⟨(),m9,r,m9,B.del 1⟩
theorem wn(p:Pm)(seed id:Int)(h:hY):aj xT 166 #[gx p,xJ xR seed,xJ xP id] h λv h'=>∃r:Sl,v=r/\Sp h h' [ai 3 r 1 av (if bH p&&bR id then eG (bD p).toNat seed id else[])]:=by
 refine ts Tryz.func166 ?_ (F8 (G0 [] [(6,7),(10,21)] E6)) (args:=[p,(xJ xR (seed:Int)),(id:Int)]);refine(Sp.refl h).boxed λa B D=>?_;refine aE ?_;refine⟨p,(D.box 0 m9).aw _ m9,(fe p B).mono ?_⟩;rintro v o ⟨rfl,M⟩;have g:=D.comp M;have k:(bH p&&bR id)=eR->Sp h o [ai 3 ⟨eH,0,0⟩ 1 av (if bH p&&bR id then eG (bD p).toNat seed id else[])]:=λJ=>by
  rw[J];exact(g.nil 3 1 av).take 1 (λi A f=>by cases i with|zero=>exact f|succ i=>simp at f)
 refine⟨_,m9,aH (λe=>⟨⟨eH,0,0⟩,m9,k v6⟩) λl=>?_⟩;refine ae (λe=>⟨⟨eH,0,0⟩,m9,k sL⟩) λV=>?_;refine ae (λe=>⟨⟨eH,0,0⟩,m9,k sL⟩) λe2=>?_;have hid:bR id=eL:=sL
 rw[l,hid];refine⟨p,(g.box 0 m9).aw _ m9,(mj p o).mono ?_⟩;rintro v h3 ⟨rfl,H⟩;have Q:=g.comp H;have P:=(bI p).1 l;have U:bD p=p.1+p.2.1:=by rw[bD,hZ l]
 obtain⟨n,I⟩:∃n:Nat,bD p=n:=⟨(bD p).toNat,nb⟩
 refine⟨_,m9,?_⟩
 try dsimp only
 rw[I,qi];refine(KG _ h3).mono ?_;rintro v S ⟨d,rfl,z⟩;refine⟨dB d,m9,?_⟩;refine(AQ d _ S (z.box 0 m9)).mono ?_;rintro v G ⟨rfl,w,u⟩;have E:=z.ng 0 m9 u w;refine⟨_,m9,?_⟩;refine(SN n G nb nb).mono ?_;rintro v L ⟨t,rfl,x⟩;have c:=E.comp x;refine⟨t,m9,?_⟩;have j:∀b,t.on b->b≠d.block:=λb m T=>by
  have B:=(x.fresh 0 m9).2 b m;have o:=(E.box 0 m9).lt;omega
 refine(EP t n d _ L ((x.own 0 m9).seq (λ_=>rfl) j) (c.box 0 m9) nb nb).mono ?_;rintro v K ⟨rfl,s,y⟩;have F:=c.ng 0 m9 y s;refine⟨_,m9,?_⟩;refine(VC d _ n _ K (F.box 0 m9) nb (pM _ n)).Hf λr h8 N=>?_;have R:=F.call 0 m9 (λb=>b=d.block) (λq O b m=>by rw[m];exact O.2) N;exact⟨r,m9,r,m9,((Q.comp R).take 3 λi A f=>by cases i with|zero=>exact f|succ i=>simp at f)⟩
theorem Yq{α:Type}{h:hY}{e:TypeId}{s:Sl}{k:Nat}{f:α->aR}{l:List α}(c:Own h e s k f l)(a:l≠[]):s.ptr.isNone=eR:=by
 rcases c.head with⟨_,_,h3⟩|⟨b,rest,h1,_⟩
 .exact absurd h3 a
 .rw[h1];rfl
theorem Yr(p:Pm)(seed id:Int)(h:hY):aj xT 314 #[gx p,xJ xR seed,xJ xP id] h λv h'=>∃r:Sl,v=r/\
  Sp h h' [ai 5 r 1 aq (if bH p&&bR id then pO (bD p).toNat seed id else[])]/\r.ptr.isNone=!(bH p&&bR id):=by
 refine ts Tryz.func314 ?_ (F8 (G0 [] [(6,7),(10,21)] (F8 (F9 [(29,aI)] [(9,10),(29,37)])))) (args:=[p,(xJ xR (seed:Int)),(id:Int)]);refine(Sp.refl h).boxed λa J G=>?_;refine aE ?_;refine⟨p,(G.box 0 m9).aw _ m9,(fe p J).mono ?_⟩;rintro v F ⟨rfl,M⟩;have m:=G.comp M;have q:(bH p&&bR id)=eR->Sp h F [ai 5 ⟨eH,0,0⟩ 1 aq (if bH p&&bR id then pO (bD p).toNat seed id else[])]/\Option.isNone (eH:bx)=!(bH p&&bR id):=λK=>by
  rw[K];exact⟨(m.nil 5 1 aq).take 1 (λi A g=>by cases i with|zero=>exact g|succ i=>simp at g),m9⟩
 refine⟨_,m9,aH (λe=>⟨⟨eH,0,0⟩,m9,q v6⟩) λk=>?_⟩;refine ae (λe=>⟨⟨eH,0,0⟩,m9,q sL⟩) λW=>?_;refine ae (λe=>⟨⟨eH,0,0⟩,m9,q sL⟩) λe2=>?_;have hid:bR id=eL:=sL
 refine⟨p,(m.box 0 m9).aw _ m9,(mj p F).mono ?_⟩;rintro v h3 ⟨rfl,H⟩;have O:=m.comp H;have N:=(bI p).1 k;have V:bD p=p.1+p.2.1:=by rw[bD,hZ k]
 obtain⟨n,E⟩:∃n:Nat,bD p=n:=⟨(bD p).toNat,nb⟩
 refine⟨_,m9,?_⟩
 try dsimp only
 rw[E];refine O.make ag aq cR nq 0 m9 m9 n n m9 m9 (qj _) nb λv Q R I B=>?_;refine⟨p,(B.box 0 m9).aw _ m9,(wn p seed id Q).Hf λc S t=>?_⟩;rw[k,hid,E,qi]at t;rw[k,hid,qi];have u:=B.comp t;have j:=u.seq 2 m9 λ_=>rfl;have o:=j.len;obtain⟨b,d⟩:=HF (eG n seed id)
 have y:∀x∈b,0<=x/\x<(n:Int):=λx z=>kw nb nb (by rw[<-d];exact z);have D:m8 b<=n:=by rw[d];exact mK nb nb _ _
 simp only[Bool.and_self,if_true,<-d]at u j o t;refine⟨c,m9,?_⟩;refine ak (λi:Nat=>(i:Int)) (λi h'=>i<=m8 b/\Sp h h' [an a 24 [xJ xP p.1,xJ xP p.2.1,xJ xP p.2.2],ai 5 v 1 aq (ia n (b.take i)),ai 3 c 1 av b]) (λi=>m8 b-i) 0 m9 ⟨nb,u⟩ ?_;rintro i U ⟨g,l⟩;refine ae (λe=>?_) (λe=>?_)
 .have f:i<m8 b:=nb
  have z:=y _ (qe f);refine(l.seq 2 m9 λ_=>rfl).aW i m9 f _ m9 ?_;refine l.set ag 1 m9 (λ_=>rfl) m9 b[i].toNat nb (by rw[pN];omega) 1 m9 m9 m9 λT P=>?_;refine⟨i+1,n7,⟨nb,?_⟩,nb⟩;have e2:ia n (b.take (i+1))=(ia n (b.take i)).set b[i].toNat 1:=by rw[aA _ _ f,ia,wB];rfl
  rw[e2];exact P
 .rw[qh nb]at l;have s:=(l.del 2).take 1 (λi A g=>by cases i with|zero=>exact g|succ i=>simp at g);refine⟨v,m9,?_,Yq (s.own 0 m9) λL=>?_⟩
  .rw[d]at s;exact s
  .have:=pN n b;rw[L]at this;simp at this;omega
theorem Cr(p:Pm)(h:hY):aj xT 293 #[gx p] h λv h'=>∃r:Sl,v=r/\Sp h h' [dE 41 r 1 aq (if bH p then bA p.1.toNat p.2.1.toNat else[])]:=by
 refine ts Tryz.func293 ?_ (F8 (F8 (F8 (F8 (E5 (F8 (E7 (E8 [(4,bJ),(14,aI)] [(4,8),(14,45)] (F8 (F8 (E5 (E7 (F8 (G0 [(6,bJ)] [(6,7),(17,24)] (F9 [(26,aI)] [(7,8),(26,40)])))) E6)))))) E6))))) [(8,(.l [0,2,3,4,5,1,6,7]))] (args:=[p]);refine(Sp.refl h).boxed λa Q E=>?_;refine⟨p,(E.box 0 m9).aw _ m9,(fe p Q).mono ?_⟩;rintro v T ⟨rfl,X⟩;have B:=E.comp X;refine⟨_,m9,aH (λe=>⟨⟨eH,0,0⟩,m9,?_⟩) λq=>?_⟩
 .rw[e];exact(B.sK 41 1 aq).take 1 (λi A c=>by cases i with|zero=>exact c|succ i=>simp at c)
 have Z:=(bI p).1 q;have W:bD p=p.1+p.2.1:=by rw[bD,hZ q]
 obtain⟨K,hK⟩:∃K:Nat,p.1=K:=⟨p.1.toNat,nb⟩
 obtain⟨b,hH⟩:∃H:Nat,p.2.1=H:=⟨p.2.1.toNat,nb⟩
 refine(sX T).mono ?_;rintro v h3 ⟨f,rfl,L⟩;have F:=(B.comp L).sK 41 1 aq;refine⟨dB f,m9,_,(F.box 0 m9).cell m9,?_⟩;refine ak (λt:Sl×Nat=>(t.1,(t.2:Int))) (λt h'=>t.2<=b/\Sp h h' [an a 24 [xJ xP p.1,xJ xP p.2.1,xJ xP p.2.2],an f 316 eW,dE 41 t.1 1 aq ((bA K b).take t.2)]) (λt=>b-t.2) (⟨eH,0,0⟩,0) m9 ⟨n4,F⟩ ?_;rintro⟨s,k⟩ h4 ⟨hk,g⟩;dsimp only at*;refine ae (λe=>?_) (λe=>?_)
 .have ab:k<b:=nb
  refine aE ⟨p,(g.box 0 m9).aw _ m9,p.1,(g.box 0 m9).cell0 m9,?_⟩;refine(mj p h4).mono ?_;rintro v J ⟨rfl,Y⟩;have G:=g.comp Y;refine⟨_,m9,⟨(G.box 0 m9).cell0 m9,I0⟩,?_⟩
  try dsimp only
  rw[af (p.1+k),W];refine(Vz _ _ J).mono ?_;rintro v h6 ⟨u,rfl,x⟩;rw[hZ nb]at x;have e1:(p.1+p.2.1).toNat=K+b:=nb
  have e2:(p.1+(k:Int)).toNat=K+k:=nb
  rw[e1,e2]at x;have w:=G.comp x;refine⟨u,m9,⟨(w.box 0 m9).cell0 m9,I0⟩,p.1,(w.box 0 m9).cell0 m9,?_⟩;let rowAt:Nat->aT:=λj=>(qy j).map (λi=>Gf.pw ((k+1)*(i+1)%255))++((qf (K+b) (0:UInt8)).set (K+k) 1).drop j;refine ak (λj:Nat=>(j:Int)) (λj h'=>j<=K/\Sp h h' [an a 24 [xJ xP p.1,xJ xP p.2.1,xJ xP p.2.2],an f 316 eW,dE 41 s 1 aq ((bA K b).take k),ai 5 u 1 aq (rowAt j)]) (λj=>K-j) 0 m9 ⟨nb,w⟩ ?_;rintro j U ⟨hj,o⟩;refine ae (λV=>?_) (λV=>?_)
  .have m:j<K:=nb
   have hm:(k+1)*(j+1)<=4*16:=zq nb nb;have R:qd xP (qd xP ((k:Int)+1)*qd xP ((j:Int)+1))=(((k+1)*(j+1):Nat):Int):=by rw[af ((k:Int)+1),af ((j:Int)+1),show((k:Int)+1)*((j:Int)+1)=(((k+1)*(j+1):Nat):Int)by rw[zS];rfl];exact kv _
   rw[R];refine(Yp f _ U (o.box 1 m9)).G6 ⟨_,m9,?_⟩;have D:(rowAt j).length=K+b:=by simp[rowAt];omega
   refine o.set ag 3 m9 (λ_=>rfl) m9 j m9 nb _ m9 m9 m9 λO y=>?_;refine⟨j+1,n7,⟨nb,?_⟩,nb⟩;have z:(rowAt j).set j (Gf.pw ((((k+1)*(j+1):Nat):Int)%255).toNat)=rowAt (j+1):=by
    have N:((((k+1)*(j+1):Nat):Int)%255).toNat=(k+1)*(j+1)%255:=nb
    rw[N];simp only[rowAt];rw[qZ _ _ n4,qn,zL,zd,qT n2,zt,zC,qE,ql];rfl
   rw[<-z];exact y
  .have m:j=K:=nb
   subst m;have z:rowAt j=lO j b k:=by
    simp only[rowAt,lO];congr 1;apply zn;intro i;rw[wJ,qV,qM];by_cases c:i<b
    .rw[zo c,zl,wE];by_cases d:i=k
     .subst d;simp[c]
     .rw[k4 nb,hZ nb,k4 d]
    .rw[zf (l:=qy b) n2,k4 nb,wE,k4 nb];rfl
   rw[z]at o;have I:=o.freeze 3 m9 λ_=>rfl;have M:((bA j b).take k).length=k:=A1
   refine I.jM ag 2 3 nq m9 m9 cO nb λP O y=>?_;refine⟨(P,k+1),n3,⟨n1,?_⟩,n1⟩;have S:(bA j b).take (k+1)=(bA j b).take k++[lO j b k]:=by rw[aA _ _ A1];simp[bA]
   try dsimp only
   rw[S];exact y.del 3
 .refine⟨s,m9,?_⟩;rw[hZ q,hK,hH,qi,qi];rw[qh A1]at g;exact g.take 2 (λi A c=>by cases i with|zero=>exact c|succ i=>simp at c)
end Go.Qw
