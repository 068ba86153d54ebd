/- Lemmas for the proof of the law; no condition. -/
import Derived.Test.YtfjdddcdkcbocaaGreatDoorTabS
import Derived.Test.YtfjdddcdkcbocaaGreatDoorShelfA
set_option maxHeartbeats 2000000
set_option linter.unusedVariables false
set_option linter.unusedSimpArgs false
open Go.Proofs.Tryz renaming prog -> xZ
open Go.Value renaming agg -> xU, bool -> xT, int -> xP, pointer -> xR, slice -> xQ, string -> xS
open Go.IntKind renaming bits -> qx, i64 -> xV, signed -> yG, u32 -> xX, u64 -> xY, u8 -> xW, wrap -> qe
open Option renaming some -> wm
open Int renaming ediv_le_self -> vD, ediv_nonneg -> xB, fdiv -> zr, lt_tmod_of_pos -> vP, tdiv -> yD, tmod -> xH
open UInt8 renaming ofNat -> zO
open List renaming exists_cons_of_length_eq_add_one -> yz, foldl_nil -> xd, length -> xz, map_snd_zip -> xp, mem_mergeSort -> vQ, nil_append -> w8, range -> qz, replicate -> qi, replicate_succ -> yk
open Nat renaming mod_eq_of_lt -> yZ
open BitVec renaming ofInt -> qH, ofNat -> yP
open Bool renaming not_true -> yu
open Prod renaming fst -> qF, snd -> zk
open Go.Instr renaming fill -> wC, storeAt -> qL
set_option maxRecDepth 100000
open Option renaming some -> cO, none -> dB
open Bool renaming true -> eH, false -> eL
open Go renaming Addr -> fY
open Go.Qw renaming cellOf -> hU, Heap -> hY
open List renaming length -> n1
open Go.Qw.cT renaming two -> E8, n -> E9, inn -> F8, loop -> G0, join -> G6, tn -> G7, lp -> Hf, jn -> HF
namespace Go.Qw
open Go.Proofs
abbrev Cells:=dS
abbrev powC(w:Pow)(l:Int):aR:=[xT w.off,xT w.fuse.isSome,xP xV l,xP xV w.offs]
def Es(w:Pow)(l:Int):Prop:=∀k,w.fuse=cO k->l=k/\k<2^62
def eJ(t:Nat)(a:fY)(w:Pow):HP:=HP.ex λl:Int=>(aj a t (powC w l)).and (Es w l)
variable {B:au} {h0 h h':hY} {As:List HP} {t:Nat} {a:fY} {w:Pow}
theorem aa.jF(H:aa B h0 h (eJ t a w::As)):∃l,Es w l/\aa B h0 h (aj a t (powC w l)::As):=by obtain⟨l,H⟩:=H.AZ;obtain⟨H,b⟩:=H.Fx;exact⟨l,b,H⟩
theorem aa.mI{l:Int}(b:Es w l)(H:aa B h0 h (aj a t (powC w l)::As)):aa B h0 h (eJ t a w::As):=
 (H.toFx b).CD (F:=λl:Int=>(aj a t (powC w l)).and (Es w l)) l
theorem sW(l:Int)(b:bR h a 96 (powC w l)):an xZ 49 #[xR (cO a)] h λv h'=>v=xT (!w.off)/\h'=h:=by refine ts Tryz.func49 ?_;exact aU (λ_=>⟨a,n2,w.off,b.cell0 n2,n2,n2⟩) λe=>oj
theorem Dd(l:Int)(b:bR h a 96 (powC w l)):an xZ 71 #[xR (cO a)] h λv h'=>v=xP xV w.offs/\h'=h:=by refine ts Tryz.func71 ?_;exact aU (λe=>oj) λ_=>⟨a,n2,w.offs,b.cell n2,n2,n2⟩
theorem JI(h:hY):an xZ 20 #[] h λv h'=>∃a,v=xR (cO a)/\Sp h h' [eJ 96 a Pow.new]:=by refine ts Tryz.func20 ?_;refine(Sp.refl h).boxed λa c b=>⟨a,n2,aa.mI (l:=0) (w:=Pow.new) (λk e=>oj) b⟩
theorem XH(n:Int)(m:n<2^62)(H:aa B h0 h (eJ 96 a w::As)):an xZ 14 #[xR (cO a),xP xV n] h λv h'=>v=.tuple #[]/\aa B h0 h' (eJ 96 a (w.arm n)::As):=by
 obtain⟨l,p,f⟩:=H.jF;refine ts Tryz.func14 ?_;refine(sW l (f.box 0 n2)).I0 ⟨_,n2,aI (λe=>⟨n2,?_⟩) λe=>?_⟩
 .have:w.arm n=w:=by unfold Pow.arm;rw[l0 pt]
  rw[this];exact H
 .have d:w.off=eL:=pt
  refine⟨a,n2,f.store af 0 n2 n2 1 [xT (decide (n>=0))] n2 n2 n2 n9 λq g=>?_⟩;refine⟨a,n2,g.store af 0 n2 n2 2 [xP xV (if(0:Int)>n then 0 else n)] n2 n2 n2 Cr λh3 i=>⟨n2,?_⟩⟩;refine aa.mI (l:=if(0:Int)>n then 0 else n) (λk c=>?_) ?_
  .unfold Pow.arm at c;rw[m6 Bk]at c;by_cases b:0<=n
   .rw[l0 b]at c;simp at c;subst c;rw[m6 n3];omega
   .rw[m6 b]at c;cases c
  .have j:powC (w.arm n) (if(0:Int)>n then 0 else n)=[xT w.off,xT (decide (n>=0)),xP xV (if(0:Int)>n then 0 else n),xP xV w.offs]:=by
    unfold Pow.arm powC;rw[m6 Bk];by_cases b:0<=n
    .rw[l0 b];simp[d,b]
    .rw[m6 b];simp[d];omega
   rw[j];exact i
theorem De(H:aa B h0 h (eJ 96 a w::As)):an xZ 202 #[xR (cO a)] h λv h'=>v=xT w.step.1/\aa B h0 h' (eJ 96 a w.step.2::As):=by
 obtain⟨l,p,b⟩:=H.jF;refine ts Tryz.func202 ?_;refine(sW l (b.box 0 n2)).I0 ⟨_,n2,aI (λe=>?_) λe=>?_⟩
 .have:w.step=(eL,w):=by unfold Pow.step;rw[l0 pt]
  rw[this];exact⟨n2,H⟩
 have g:w.off=eL:=pt
 refine⟨a,n2,_,(b.box 0 n2).cell n2,aI (λe2=>?_) λe2=>?_⟩
 .have:w.step=(eH,w):=by
   unfold Pow.step;rw[m6 A4];cases d:w.fuse with
   |none=>rfl
   |some k=>rw[d]at e2;cases e2
  rw[this];exact⟨n2,H⟩
 obtain⟨k,d⟩:∃k,w.fuse=cO k:=yW.1 e2;obtain⟨rfl,u⟩:=p k d;have r:powC w (k:Int)=[xT eL,xT eH,xP xV k,xP xV w.offs]:=by simp[powC,g,d]
 rw[r]at b;refine⟨a,n2,_,(b.box 0 n2).cell n2,aV (λo=>?_) λo=>?_⟩
 .have m:k=0:=n3
  subst m;have i:w.step=(eL,⟨eH,cO 0,qe xV (w.offs+1)⟩):=by unfold Pow.step;rw[m6 A4,d]
  rw[i];refine⟨a,n2,b.gx af 0 n2 n2 [xT eH] n2 n2 n2 n9 λx n=>?_⟩;refine⟨a,n2,w.offs,(n.box 0 n2).cell n2,a,n2,n.store af 0 n2 n2 3 [xP xV (qe xV (w.offs+1))] n2 n2 n2 Cr λh3 f=>⟨n2,?_⟩⟩;refine aa.mI (l:=((0:Nat):Int)) (λq c=>by cases c;exact⟨n2,n4⟩) ?_;exact f
 .obtain⟨j,rfl⟩:∃j,k=j+1:=⟨k-1,n3⟩
  have i:w.step=(eH,⟨eL,cO j,w.offs⟩):=by unfold Pow.step;rw[m6 A4,d]
  rw[i];refine⟨a,n2,_,(b.box 0 n2).cell n2,a,n2,b.store af 0 n2 n2 2 [xP xV (qe xV (((j+1:Nat):Int)-1))] n2 n2 n2 Cr λh3 f=>⟨n2,?_⟩⟩;refine aa.mI (l:=(j:Int)) (λq c=>by cases c;exact⟨n2,n3⟩) ?_;rw[ag _]at f;have s:((j+1:Nat):Int)-1=(j:Int):=n3
  rw[s]at f;exact f
abbrev Pm:=Int×Int×Int
abbrev gr(p:Pm):Value:=xU #[xP xV p.1,xP xV p.2.1,xP xV p.2.2]
theorem fc(p:Pm)(h:hY):an xZ 74 #[gr p] h λv h'=>v=xT (bJ p)/\Sp h h' []:=by refine ts Tryz.func74 ?_ (args:=[p]);refine(Sp.refl h).boxed λa d g=>?_;have e:=g.box 0 n2;have c:Sp h d []:=.zip g.ac;have f:hU d a=cO (xP xV p.1):=e.cell0 n2;have j:hU d (a.add 1)=cO (xP xV p.2.1):=e.cell n2;have i:hU d (a.add 2)=cO (xP xV p.2.2):=e.cell n2;unfold bJ;refine⟨_,f,ae (λb=>?_) λb=>⟨u9,c⟩⟩;rw[m9 b];refine⟨_,f,ae (λb=>?_) λb=>⟨u9,c⟩⟩;rw[m9 b];refine⟨_,j,ae (λb=>?_) λb=>⟨u9,c⟩⟩;rw[m9 b];refine⟨_,j,ae (λb=>?_) λb=>⟨u9,c⟩⟩;rw[m9 b];refine⟨_,i,ae (λb=>?_) λb=>⟨u9,c⟩⟩;rw[m9 b];exact⟨_,i,n2,c⟩
abbrev eK:bS C.toAk 22 3 1 [xP xV 0] 8:=⟨_,_,n2,n2,n2,n2,n2,n2⟩
abbrev cN:bS C.toAk 41 5 1 [xP xW 0] 1:=⟨_,_,n2,n2,n2,n2,n2,n2⟩
abbrev cM:bS C.toAk 98 41 1 [xQ dB 0 0] 24:=⟨_,_,n2,n2,n2,n2,n2,n2⟩
theorem jG(s:Sl)(l:aD)(h:hY)(a:Rd h s 1 aq l)(c:n1 l<=2^30):an xZ 113 #[s] h λv h'=>∃r:Sl,v=r/\Sp h h' [ai 3 r 1 aq l]:=by
 refine ts Tryz.func113 ?_;refine aU (λe=>?_) (λe=>?_)
 .have:=a.isNil e;subst this;exact⟨⟨dB,0,0⟩,n2,(Sp.refl h).nil 3 1 aq⟩
 .refine(Sp.refl h).lit af aq eK n2 [] n2 n4 n2 λi j b=>?_;refine b.append af 0 n2 eK ⟨_,_,n2,n2⟩ n2 n4 (λ_=>rfl) (a.up b.ac) cP n7 λf g d=>⟨f,n2,d⟩
theorem fT(s:Sl)(l:aS)(h:hY)(a:Rd h s 1 ar l)(c:n1 l<=2^30:=by omega):an xZ 199 #[s] h λv h'=>∃r:Sl,v=r/\Sp h h' [ai 5 r 1 ar l]:=by
 refine ts Tryz.func199 ?_;refine aU (λe=>?_) (λe=>?_)
 .have:=a.isNil e;subst this;exact⟨⟨dB,0,0⟩,n2,(Sp.refl h).nil 5 1 ar⟩
 .refine(Sp.refl h).lit af ar cN n2 [] n2 n4 n2 λi j b=>?_;refine b.append af 0 n2 cN ⟨_,_,n2,n2⟩ n2 n4 (λ_=>rfl) (a.up b.ac) cD n7 λf g d=>⟨f,n2,d⟩
theorem JJ{e:TypeId}(s:Sl)(l:aD)(h:hY)(c:Own h e s 1 aq l)(a:n1 l<2^40):an xZ 204 #[s] h λv h'=>v=.tuple #[]/\Own h' e s 1 aq (mq l)/\aP (λb=>¬s.on b) h h':=
 LW Tryz.slices_Sort_int Tryz.slices_Sort_int_none c a
theorem bm(x n:Int)(h:hY)(b:0<n:=by decide)(f:n<=2^62:=by decide):an xZ 12 #[xP xV x,xP xV n] h λv h'=>v=xP xV (x%n)/\h'=h:=by
 refine ts Tryz.func12 ?_ (G7 (G7 (HF [(0,aH)] [(0,1),(8,13)] E9)));have g:=vb x b;have e:-n<x.tmod n:=vP x b;have d:=Fp x n b;refine⟨n3,aE ?_⟩;refine ae (λc=>?_) (λa=>?_)
 .rw[ag _];exact⟨by rw[d,l0 c],n2⟩
 .exact⟨by rw[d,m6 a],n2⟩
theorem lM{p q:au}(a b:Sl)(c g:Row)(h:hY)(s:Seq h p a 1 ar c)(r:Seq h q b 1 ar g)(y:n1 c<=2^40):
  an xZ 29 #[a,b] h λv h'=>v=xT (decide (c=g))/\h'=h:=by
 refine ts Tryz.func29 ?_ (G7 (G7 (Hf [(13,aH)] [(4,6),(13,26)])));have o:=s.len;have m:=r.len;refine bt (λd=>⟨?_,n2⟩) (λl=>?_)
 .rw[nb λe=>d (by rw[o,m,e])]
 .refine ak (λk:Nat=>(k:Int)) (λk h'=>h'=h/\k<=n1 c/\c.take k=g.take k) (λk=>n1 c-k) 0 n2 ⟨n2,n3,n9⟩ ?_;rintro k h' ⟨rfl,x,j⟩;refine ae (λu=>?_) (λt=>?_)
  .have i:k<n1 c:=n3
   have f:k<n1 g:=n3
   refine s.aX k n2 i _ n2 ?_;refine r.aX k n2 f _ n2 ?_;refine bt (λd=>⟨?_,n2⟩) (λl=>?_)
   .rw[nb];intro e;subst e;exact d n2
   .rw[ag _];have w:c[k]=g[k]:=yC.1 n3;exact⟨k+1,n9,⟨n2,n3,by rw[aC _ _ i,aC _ _ f,j,w]⟩,n3⟩
  .have:k=n1 c:=n3
   subst this;rw[qh n3,qh n3]at j;exact⟨by rw[m9 j],n2⟩
structure fd (d:bu):Prop where
 wait:d.wait<=n1 d.l
 len:n1 d.l<=d.room
 room:d.room<=512
 cell:∀c∈d.l,n1 c=64
 laid:n1 d.laid<=d.room
 cellL:∀c∈d.laid,n1 c=64
variable {d:bu} {b:aS}
theorem fd.new{n:Nat}(h:n<=512):fd (bu.new n):=⟨qk _,qT _,h,by simp[bu.new],qT _,by simp[bu.new]⟩
theorem fd.rewrite{l:dS}(h:fd d):fd (d.rewrite w l).2.2:=by
 obtain⟨e,a,h3,b,g,f⟩:=h;unfold bu.rewrite;split
 .exact⟨e,a,h3,b,g,f⟩
 .rename_i i;have i:∀c∈l,n1 c=64:=by simpa using i
  split
  .exact⟨e,a,h3,b,g,f⟩
  .split
   .exact⟨e,a,h3,b,g,f⟩
   .split
    .exact⟨e,a,h3,b,g,f⟩
    .split
     .exact⟨qT _,n5,h3,i,qT _,n9⟩
     .exact⟨e,a,h3,b,n5,i⟩
abbrev cg(s:Sl)(l:Cells):HP:=kV 41 s 5 1 ar l
def ke(t:Nat)(f:bu->Sl->Sl->aR)(a:fY)(d:bu):HP:=
 (HP.ex λb:Sl×Sl=>(aj a t (f d b.1 b.2)).sep ((cg b.1 d.l).sep (cg b.2 d.laid))).and (fd d)
variable {f:bu->Sl->Sl->aR}
theorem aa.jX(H:aa B h0 h (ke t f a d::As)):fd d/\∃s b:Sl,aa B h0 h (aj a t (f d s b)::cg s d.l::cg b d.laid::As):=by obtain⟨H,ok⟩:=H.Fx;obtain⟨c,H⟩:=H.AZ;exact⟨ok,c.1,c.2,H.CE.CE.aF 3 [2,1,0]⟩
theorem aa.iF{s b:Sl}(ok:fd d)(H:aa B h0 h (aj a t (f d s b)::cg s d.l::cg b d.laid::As)):aa B h0 h (ke t f a d::As):=
 ((((H.aF 3 [2,1,0]).jW).jW).CD (F:=λc:Sl×Sl=>(aj a t (f d c.1 c.2)).sep ((cg c.1 d.l).sep (cg c.2 d.laid))) (s,b)).toFx ok
abbrev fo(pw:fY)(d:bu)(s b:Sl):aR:=[xR (cO pw),xP xV d.room,s,xP xV d.wait,b,xT d.has,xT d.lost]
abbrev jq(pw a:fY)(d:bu):HP:=ke 159 (fo pw) a d
section
variable {pw:fY}
theorem Si(n:Int)(pw:fY)(h:hY):an xZ 75 #[xP xV n,xR (cO pw)] h λv h'=>
  (1<=n/\n<=512->∃a,v=xR (cO a)/\Sp h h' [jq pw a (bu.new n.toNat)])/\(¬(1<=n/\n<=512)->v=xR dB/\Sp h h' []):=by
 refine ts Tryz.func75 ?_ (G7 (HF [] [(4,15)] E9));refine aE (ae (λe=>⟨λc=>absurd c n3,λ_=>⟨n2,Sp.refl h⟩⟩) λg=>ae (λe=>⟨λc=>absurd c n3,λ_=>⟨n2,Sp.refl h⟩⟩) λe2=>aU (λe=>oj) λ_=>?_);refine(Sp.refl h).boxed λa i f=>⟨λ_=>⟨a,n2,?_⟩,λc=>absurd n3 c⟩
 refine aa.iF (s:=⟨dB,0,0⟩) (b:=⟨dB,0,0⟩) (fd.new n3) ?_;have e:((n.toNat:Nat):Int)=n:=n3
 have d:=((f.kc 41 5 1 ar).kc 41 5 1 ar).aF 3 [2,1,0];have e2:fo pw (bu.new n.toNat) ⟨dB,0,0⟩ ⟨dB,0,0⟩=[xR (cO pw),xP xV n,xQ dB 0 0,xP xV 0,xQ dB 0 0,xT eL,xT eL]:=by simp only[fo,bu.new,e];rfl
 rw[e2];exact d
theorem Df(s b:Sl)(c:bu)(H:aa B h0 h (aj a 159 (fo pw d s b)::cg s d.l::cg b d.laid::eJ 96 pw w::As))(ok:fd d)(f:c={d with laid:=[],has:=eL}):
  an xZ 203 #[xR (cO a)] h λv h'=>v=xP xV 0/\aa B h0 h' (jq pw a c::eJ 96 pw w::As):=by
 refine ts Tryz.func203 ?_;refine⟨a,n2,H.store af 0 n2 n2 4 [xQ dB 0 0] n2 n2 n2 t8 λi e=>?_⟩;refine⟨a,n2,e.store af 0 n2 n2 5 [xT eL] n2 n2 n2 t8 λh3 g=>⟨n2,?_⟩⟩;subst f;refine aa.iF (s:=s) (b:=⟨dB,0,0⟩) ⟨ok.wait,ok.len,ok.room,ok.cell,qT _,n9⟩ ?_;exact((g.kc 41 5 1 ar).aF 5 [1,2,0,4])
theorem Ou(x:Sl)(row:aS)(H:aa B h0 h (jq pw a d::eJ 96 pw w::As))(P:Rd h x 1 ar row)(hr:n1 row<=2^20):
  an xZ 140 #[xR (cO a),x] h λv h'=>v=xP xV (d.append w row).1/\aa B h0 h' (jq pw a (d.append w row).2.2::eJ 96 pw (d.append w row).2.1::As):=by
 refine ts Tryz.func140 ?_ (G7 (E8 (G6 [] [(4,36)] (F8 (G7 (G7 (HF [(9,mH)] [(9,18)] E9))))) (HF [] [(36,47)] E9)));have Y:=P.len;obtain⟨ok,s,b,F⟩:=H.jX;have u:=F.box 0 n2;obtain⟨W,_⟩:=aa.lI (F.aF 4 [1]);have K:=ok.room;have O:=ok.len;have M:=ok.wait;have g:∀(e:Int),d.append w row=(e,w,d)->(Value.int .i64 e=xP xV (d.append w row).1/\aa B h0 h (jq pw a (d.append w row).2.2::eJ 96 pw (d.append w row).2.1::As)):=λe T=>by
  rw[T];exact⟨n2,H⟩
 refine aE (bt (λe=>g 1 (by unfold bu.append;rw[l0 n3])) λV=>?_);have z:n1 row=64:=n3
 refine aE (aU (λe=>oj) λ_=>⟨a,n2,d.lost,u.cell n2,aU (λe=>g 5 ?_) λf=>?_⟩)
 .unfold bu.append;rw[m6 n3,l0 e]
 refine⟨a,n2,s,u.cell n2,a,n2,(d.room:Int),u.cell n2,ae (λe=>g 7 ?_) λN=>?_⟩
 .unfold bu.append;rw[m6 n3,m6 (by simp[f]),l0 n3]
 obtain⟨l,hl,L⟩:=(F.aF 4 [3,0,1,2]).jF;refine⟨a,n2,cO pw,u.cell0 n2,(sW l (L.box 0 n2)).mono ?_⟩;rintro _ X ⟨rfl,rfl⟩;refine⟨_,n2,aI (λe=>g 14 ?_) λo=>?_⟩
 .unfold bu.append;rw[m6 n3,m6 (by simp[f]),m6 n3,l0 pt]
 have k:w.off=eL:=by simpa using o
 refine aE ⟨a,n2,s,u.cell n2,(fT x row X P).I2 λr h4 Z=>?_⟩;have A:=(F.bV Z).aF 5 [2,0,1,3,4];have p:=A.box 2 n2;refine⟨r,n2,⟨p.cell n2,I4⟩,?_⟩;have U:=A;refine A.ir af bv cM n2 [r] n2 (show 1*1<=2^20 by decide) n2 ⟨p.cell n2,I4⟩ ?_;refine A.nG af cM n3 λE h6 J=>⟨I4,?_⟩
 have J:=J.aF 4 [1,0,2,3];refine⟨a,n2,J.store af 0 n2 n2 2 [E] n2 n2 n2 t8 λh7 Q=>⟨I4,?_⟩⟩;have G:=Q.box 0 n2;refine⟨a,n2,(d.wait:Int),G.cell n2,a,n2,?_⟩;rw[ag ((d.wait:Int)+1)];refine Q.store af 0 n2 n2 3 [xP xV ((d.wait:Int)+1)] n2 n2 n2 t8 λh8 S=>?_;obtain⟨i,j⟩:∃i:bu,i={d with l:=d.l++[row],wait:=d.wait+1}:=⟨_,rfl⟩
 have q:fd i:=by
  subst j;refine⟨n7,n7,ok.room,λc t=>?_,ok.laid,ok.cellL⟩;rcases qu.1 t with t|t
  .exact ok.cell c t
  .rw[qA.1 t];exact z
 have m:aa B h0 h8 (aj a 159 (fo pw i E b)::cg E i.l::cg b i.laid::eJ 96 pw w::As):=by rw[j];exact S
 refine⟨a,n2,cO pw,(m.box 0 n2).cell0 n2,(De (m.aF 4 [3,0,1,2])).I1 λh9 D=>?_⟩;have D:=D.aF 4 [1,2,3,0];have y:d.append w row=if w.step.1 then(0,w.step.2,{i with laid:=[],has:=eL})else(14,w.step.2,i):=by rw[j];unfold bu.append;rw[m6 n3,m6 (by simp[f]),m6 n3,m6 (by simp[k])]
 rw[y];refine⟨_,n2,aI (λe=>?_) λe=>?_⟩
 .rw[e];exact⟨n2,D.iF q⟩
 .rw[e];refine(Df E b _ D q n2).I1 λR I=>⟨0,n2,n2,I⟩
theorem IJ(x:Sl)(row:aS)(h:hY)(b:Rd h x 1 ar row):an xZ 140 #[xR dB,x] h λv h'=>v=xP xV (if row.length≠64 then 1 else 5)/\h'=h:=by refine ts Tryz.func140 ?_ (G7 (E8 (G6 [] [(4,36)] (F8 (G7 (G7 (HF [(9,mH)] [(9,18)] E9))))) (HF [] [(36,47)] E9)));have a:=b.len;refine aE (bt (λe=>⟨by rw[l0 n3],n2⟩) λe=>?_);exact aE (aU (λ_=>⟨by rw[m6 n3],n2⟩) λe=>oj)
theorem UI(H:aa B h0 h (jq pw a d::eJ 96 pw w::As)):
  an xZ 206 #[xR (cO a)] h λv h'=>v=xP xV (d.sync w).1/\aa B h0 h' (jq pw a (d.sync w).2.2::eJ 96 pw (d.sync w).2.1::As):=by
 refine ts Tryz.func206 ?_ (G7 (HF [] [(2,11)] E9));obtain⟨ok,s,b,j⟩:=H.jX;have i:=j.box 0 n2;refine aE (aU (λe=>oj) λ_=>⟨a,n2,d.lost,i.cell n2,aU (λe=>?_) λc=>?_⟩)
 .have:d.sync w=(5,w,d):=by unfold bu.sync;rw[l0 e]
  rw[this];exact⟨n2,H⟩
 refine⟨a,n2,cO pw,i.cell0 n2,(De (j.aF 4 [3,0,1,2])).I1 λo g=>?_⟩;have g:=g.aF 4 [1,2,3,0];have f:d.sync w=if w.step.1 then(0,w.step.2,{{d with wait:=0}with laid:=[],has:=eL})else(14,w.step.2,d):=by unfold bu.sync;rw[m6 C0]
 rw[f];refine⟨_,n2,aI (λe=>?_) λe=>?_⟩
 .rw[e];exact⟨n2,g.iF ok⟩
 .rw[e];refine⟨a,n2,g.store af 0 n2 n2 3 [xP xV 0] n2 n2 n2 t8 λh3 l=>?_⟩;refine(Df (d:={d with wait:=0}) s b _ l ⟨qT _,ok.len,ok.room,ok.cell,ok.laid,ok.cellL⟩ rfl).I1 λm k=>⟨0,n2,n2,k⟩
theorem Mx(h:hY):an xZ 206 #[xR dB] h λv h'=>v=xP xV 5/\h'=h:=by refine ts Tryz.func206 ?_ (G7 (HF [] [(2,11)] E9));exact aE (aU (λ_=>⟨n2,n2⟩) λe=>oj)
theorem jq.box(H:aa B h0 h (jq pw a d::As)):∃s b:Sl,bR h a 159 (fo pw d s b)/\eu h s 1 ar d.l/\s.len=n1 d.l:=by obtain⟨ok,s,b,c⟩:=H.jX;exact⟨s,b,c.box 0 n2,(c.aF 3 [1]).BN λ_=>rfl,(aa.lI (c.aF 3 [1])).1⟩
theorem JK(s b:Sl)(c:bR h a 159 (fo pw d s b)):an xZ 137 #[xR (cO a)] h λv h'=>v=xP xV d.room/\h'=h:=by refine ts Tryz.func137 ?_;exact aU (λe=>oj) λ_=>⟨a,n2,_,c.cell n2,n2,n2⟩
theorem Dg(s b:Sl)(f:bR h a 159 (fo pw d s b))(c:s.len=n1 d.l):an xZ 135 #[xR (cO a)] h λv h'=>v=xP xV (n1 d.l:Int)/\h'=h:=by refine ts Tryz.func135 ?_;exact aU (λe=>oj) λ_=>⟨a,n2,_,f.cell n2,by rw[c],n2⟩
theorem UJ(s b:Sl)(c:bR h a 159 (fo pw d s b)):an xZ 138 #[xR (cO a)] h λv h'=>v=xP xV d.wait/\h'=h:=by refine ts Tryz.func138 ?_;exact aU (λe=>oj) λ_=>⟨a,n2,_,c.cell n2,n2,n2⟩
theorem uM(s b:Sl)(c:bR h a 159 (fo pw d s b)):an xZ 122 #[xR (cO a)] h λv h'=>v=xT d.lost/\h'=h:=by refine ts Tryz.func122 ?_;exact aU (λ_=>⟨a,n2,_,c.cell n2,n2,n2⟩) λe=>oj
theorem UK(s b:Sl)(i:Int)(k:bR h a 159 (fo pw d s b))(j:eu h s 1 ar d.l)(p:∀c∈d.l,n1 c=64):an xZ 134 #[xR (cO a),xP xV i] h λv h'=>∃r:Sl,v=r/\Sp h h' [ai 5 r 1 ar (if 0<=i then d.l.getD i.toNat []else[])]:=by
 refine ts Tryz.func134 ?_ (G7 (HF [] [(4,20)] E9));have o:=j.len;have f:(if 0<=i then d.l.getD i.toNat []else[])=[]->∃r:Sl,Value.slice dB 0 0=xQ r.ptr r.len r.cap/\Sp h h [ai 5 r 1 ar (if 0<=i then d.l.getD i.toNat []else[])]:=λe=>by
  rw[e];exact⟨⟨dB,0,0⟩,n2,(Sp.refl h).nil 5 1 ar⟩
 refine aE (aU (λe=>oj) λ_=>ae (λe=>f (by rw[m6 n3])) λw=>⟨a,n2,s,k.cell n2,ae (λe=>f ?_) λe2=>?_⟩)
 .rw[l0 n3,qg,zj n3];rfl
 .refine⟨a,n2,s,k.cell n2,j.get i.toNat n3 n3 λr t=>?_⟩;have g:i.toNat<n1 d.l:=n3
  have:=p _ (qf g);refine(fT r _ h t).I2 λm u q=>?_;rw[l0 n3,getD_lt g];exact⟨m,n2,m,n2,q⟩
theorem FN(l:Sl)(ll:Cells)(h:hY)(d:eu h l 1 ar ll)(u:n1 ll<=2^20)(k:∀c∈ll,n1 c<=2^20):an xZ 201 #[l] h λv h'=>∃r:Sl,v=r/\Sp h h' [cg r ll]:=by
 refine ts Tryz.func201 ?_ (G7 (G7 (Hf [(3,bN),(8,aH)] [(3,4),(5,6),(8,18)])));have p:=d.len;refine ak (λt:Sl×Nat=>(t.1,(t.2:Int))) (λt h'=>t.2<=n1 ll/\Sp h h' [cg t.1 (ll.take t.2)]) (λt=>n1 ll-t.2) (⟨dB,0,0⟩,0) n2 ⟨n9,by simpa using(Sp.refl h).kc 41 5 1 ar⟩ ?_;rintro⟨s,i⟩ f ⟨x,b⟩;dsimp only at*;refine ae (λe=>?_) (λe=>?_)
 .have a:i<n1 ll:=n3
  refine(d.up b.ac).get i n2 a λr m=>?_;have:=k _ (qf a);refine(fT r _ f m).I2 λq w j=>⟨q,n2,?_⟩;refine aa.nG af (b.comp j) cM n7 λo h3 g=>?_;refine⟨(o,i+1),n8,⟨n5,?_⟩,n5⟩
  try dsimp only
  rw[aC _ _ a];exact g
 .rw[qh n3]at b;exact⟨s,n2,b⟩
theorem FO(s b:Sl)(i:bR h a 159 (fo pw d s b))(j:eu h s 1 ar d.l)(ok:fd d):an xZ 139 #[xR (cO a)] h λv h'=>∃r:Sl,v=r/\Sp h h' [cg r d.l]:=by
 refine ts Tryz.func139 ?_;have:=ok.len;have:=ok.room;refine aU (λe=>oj) λ_=>⟨a,n2,s,i.cell n2,(FN s d.l h j n3 λc f=>by rw[ok.cell c f];decide).I2 λr k g=>?_⟩;exact⟨r,n2,r,n2,g⟩
end
theorem XI(b:Sl)(l:aS)(h:hY)(q:Rd h b 1 ar l)(B:n1 l<=2^40):an xZ 264 #[b] h λv h'=>v=xP xX (Cu l).toNat/\h'=h:=by
 refine ts Tryz.func264 ?_ (G7 (G7 (E8 (G7 (F8 (G0 [(3,(.sc (.int .u32))),(9,aH)] [(3,4),(5,7),(9,29)] (G7 (G7 (E8 (F8 (G7 (G7 (G7 (F8 (G0 [(3,(.sc (.int .u32))),(17,aH)] [(3,4),(6,7),(17,28)] E9)))))) E9)))))) E9)));have A:=q.len;refine ak (λt:Nat=>(((mj (l.take t)).toNat:Int),(t:Int))) (λt h'=>t<=n1 l/\h'=h) (λt=>n1 l-t) 0 n2 ⟨n3,n2⟩ ?_;rintro i s ⟨D,rfl⟩;refine ae (λe=>?_) (λe=>?_)
 .have d:i<n1 l:=by have e':(i:Int)<(b.len:Int):=e;omega
  refine q.aX i n2 d (l[i].toNat:Int) n2 ?_;have x:qe xX (l[i].toNat:Int)=((yP 32 l[i].toNat).toNat:Int):=by rw[Cv,wM]
  rw[x,DZ];refine ak (λk:Nat=>(((nZ k (mj (l.take i)^^^yP 32 l[i].toNat)).toNat:Int),(k:Int))) (λk h'=>k<=8/\h'=s) (λk=>8-k) 0 n2 ⟨n3,n2⟩ ?_;rintro k p ⟨z,rfl⟩;obtain⟨c,m⟩:=I3 (nZ k (mj (l.take i)^^^yP 32 l[i].toNat))
  try dsimp only
  rw[<-m];refine ae (λe2=>⟨n4,?_⟩) (λe2=>?_)
  .have a:∀n:rz,n=tm c->∃f:Nat,(((n.toNat:Nat):Int),qe xV ((k:Int)+1))=(((nZ f (mj (l.take i)^^^yP 32 l[i].toNat)).toNat:Int),(f:Int))/\(f<=8/\p=p)/\8-f<8-k:=λn r=>
    ⟨k+1,by rw[ag _,r,m];rfl,⟨n3,n2⟩,n3⟩
   have u:qe xX ((qH (qx xX) (c.toNat:Int)&&&qH (qx xX) (1:Int)).toNat:Nat)=((c&&&1#32).toNat:Int):=Zd c 1#32;have y:qe xX ((qH (qx xX) ((c>>>1).toNat:Int)^^^qH (qx xX) (3988292384:Int)).toNat:Nat)=(((c>>>1)^^^3988292384#32).toNat:Int):=DZ (c>>>1) 3988292384#32;rw[u,PR,y];refine aV (λo=>a _ ?_) (λo=>a _ ?_)
   .unfold tm;rw[l0 ((Ea c).1 o)]
   .unfold tm;rw[m6 λw=>o ((Ea c).2 w)]
  .have g:k=8:=n3
   subst g;refine⟨i+1,?_,⟨n3,n2⟩,n3⟩;rw[ag _,aC _ _ d,Gw,m];rfl
 .have j:i=n1 l:=by have e':¬(i:Int)<(b.len:Int):=e;omega
  subst j;refine⟨?_,n2⟩;rw[qy];exact congrArg (Value.int .u32) (DZ 4294967295#32 (mj l))
theorem Dh(a:Int)(f:Sl)(l:aS)(h:hY)(B:Rd h f 1 ar l)(P:n1 l<=2^40:=by omega):an xZ 191 #[xP xV a,f] h λv h'=>∃r:Sl,v=r/\Sp h h' [ai 5 r 1 ar (eV a l)]:=by
 refine ts Tryz.func191 ?_ (G7 (HF [] [(4,5),(8,19)] (G7 (G7 (G7 (G7 (Hf [(32,aH)] [(7,8),(32,45)])))))));have N:=B.len;have g:¬(1<=a/\a<=255/\l.length<=55)->∃r:Sl,Value.slice dB 0 0=xQ r.ptr r.len r.cap/\Sp h h [ai 5 r 1 ar (eV a l)]:=λe=>by
  unfold eV;rw[m6 e];exact⟨⟨dB,0,0⟩,n2,(Sp.refl h).nil 5 1 ar⟩
 refine aE (ae (λe=>g n3) λQ=>ae (λe=>g n3) λe2=>ae (λe=>g n3) λM=>?_);refine(Sp.refl h).make af ar cN n4 0 n2 n2 64 64 n2 n2 (qk _) n4 λo z w s H=>?_;rw[bT];refine H.lit af ar cN n2 [87,115,1,b8 a] n2 (show 4*1<=2^20 by decide) n2 λv3 h3 y=>?_;refine y.CC af 0 n2 cN (λ_=>rfl) (y.seq 1 n2 λ_=>rfl) cD λ_ p k=>⟨⟨n4,by rw[w];decide⟩,?_⟩
 have k:Sp h p [ai 5 o 1 ar ([87,115,1,b8 a]++qi 60 0)]:=by have:=k.bs [0];simpa using this
 refine k.LX af 0 n2 cN (λ_=>rfl) (Seq.up B k.ac) cD 4 n9 n2 n2 λ_ x u=>⟨⟨n4,by rw[s];decide⟩,?_⟩
 have E:([87,115,1,b8 a]++qi 60 0).take 4++(l.take (([87,115,1,b8 a]++qi 60 (0:UInt8)).length-4)++([87,115,1,b8 a]++qi 60 0).drop (4+n1 l))=fh a l++qi 5 0:=by
  have F:([87,115,1,b8 a]++qi 60 (0:UInt8)).length=64:=n9
  rw[F,qh (l:=l) n3,<-wx];have z:([87,115,1,b8 a]++qi 60 (0:UInt8)).drop 4=qi 60 0:=rfl;have h3:([87,115,1,b8 a]++qi 60 (0:UInt8)).take 4=[87,115,1,b8 a]:=rfl;rw[z,h3,List.drop_replicate];unfold fh;have p:qi (60-n1 l) (0:UInt8)=qi (55-n1 l) 0++qi 5 0:=by rw[List.replicate_append_replicate];congr 1;omega
  rw[p];simp[qo]
 rw[E]at u;have b:(fh a l).length=59:=tp;have L:Rd x ⟨o.ptr,59,o.cap⟩ 1 ar (fh a l):=by have:=(u.seq 0 n2 λ_=>rfl).take 59 (by simp[b]);rw[List.take_append_of_le_length n3,qh n3]at this;exact this
 refine(XI ⟨o.ptr,59,o.cap⟩ (fh a l) x L n3).I0 ?_;obtain⟨c,A⟩:=I3 (Cu (fh a l))
 rw[<-A];refine⟨_,n2,?_⟩;refine ak (λi:Nat=>(i:Int)) (λi h'=>i<=4/\Sp h h' [ai 5 o 1 ar (fh a l++((rV c).take i++qi (5-i) 0))]) (λi=>4-i) 0 n2 ⟨n3,by simpa using u⟩ ?_;rintro i R ⟨S,D⟩;have d:=LK c;refine ae (λe=>?_) (λe=>?_)
 .have G:i<4:=by have e':(i:Int)<4:=e;omega
  rw[ag ((8:Int)*i),ag ((59:Int)+i)];refine⟨n3,?_⟩;have K:((8:Int)*(i:Int)).toNat=8*i:=n3
  have J:min (8*i) (qx xX)=8*i:=by have:qx xX=32:=rfl;omega
  rw[K,J,bT];have I:b8 (zr (c.toNat:Int) (2^(8*i)))=(rV c)[i]'n3:=by simp[rV]
  rw[I];refine D.set af 0 n2 (λ_=>rfl) n2 (59+i) n3 (by simp[b];omega) ((rV c)[i]'n3) n2 n2 n2 λh8 j=>?_;refine⟨i+1,oi,⟨n3,?_⟩,n3⟩;have t:(fh a l++((rV c).take i++qi (5-i) 0)).set (59+i) ((rV c)[i]'n3)=fh a l++((rV c).take (i+1)++qi (5-(i+1)) 0):=by
   rw[za _ _ n3,b,wK,za _ _ n7,aC _ _];have:5-i=(5-(i+1))+1:=n3
   rw[this,yk];simp[d,Nat.min_eq_left (show i<=4 by omega)];rw[aC _ _ (show i<(rV c).length by omega),qo];rfl
  rw[t]at j;exact j
 .have q:i=4:=by have e':¬(i:Int)<4:=e;omega
  subst q;refine D.set af 0 n2 (λ_=>rfl) n2 63 n2 (by simp[b,d]) 165 n2 n2 n2 λh8 j=>⟨o,n2,?_⟩
  have m:(fh a l++((rV c).take 4++qi (5-4) 0)).set 63 165=eV a l:=by unfold eV;rw[l0 ⟨n3,n3,n3⟩,<-A,qh n3,za _ _ n3,b,za _ _ Bk];simp[d]
  rw[m]at j;exact j
abbrev dg:=ByteArray×Int×Int×Sl
abbrev aY:=Int×Int×Int×Int×Int×Int×Sl×Sl
abbrev aT(x:dg):aR:=[xS x.1,xP xV x.2.1,xP xV x.2.2.1,x.2.2.2]
abbrev az(x:aY):aR:=[xP xV x.1,xP xV x.2.1,xP xV x.2.2.1,xP xV x.2.2.2.1,xP xV x.2.2.2.2.1,xP xV x.2.2.2.2.2.1,x.2.2.2.2.2.2.1,x.2.2.2.2.2.2.2]
abbrev cu(x:aY):Value:=xU #[xP xV x.1,xP xV x.2.1,xP xV x.2.2.1,xP xV x.2.2.2.1,xP xV x.2.2.2.2.1,xP xV x.2.2.2.2.2.1,x.2.2.2.2.2.2.1,x.2.2.2.2.2.2.2]
def eC:jg dg Qw.cS:=⟨λh q a b=>(a.1=b.name/\a.2.1=b.object/\a.2.2.1=b.length)/\Seq h q a.2.2.2 1 aq b.tries,λa d=>⟨a.1,a.2.ac d⟩,λa c=>⟨a.1,a.2.mono c⟩⟩
abbrev ov:jg Sl (List Qw.cS):=bW eC 4 aT
structure kX (h:hY) (q:au) (x:aY) (m:aA):Prop where
 seq:x.1=m.seq
 next:x.2.1=m.next
 p:(x.2.2.1,x.2.2.2.1,x.2.2.2.2.1)=m.p
 extra:x.2.2.2.2.2.1=m.extra
 drives:Seq h q x.2.2.2.2.2.2.1 1 aq m.drives
 objs:ov.p h q x.2.2.2.2.2.2.2 m.objs
 dcap:x.2.2.2.2.2.2.1.len<=x.2.2.2.2.2.2.1.cap
 ocap:x.2.2.2.2.2.2.2.len<=x.2.2.2.2.2.2.2.cap
abbrev cj(h:hY)(x:aY)(m:aA):Prop:=kX h (λb=>b<h.size) x m
theorem kX.ac{h h':hY}{q:au}{x:aY}{m:aA}(a:kX h q x m)(b:aP q h h'):kX h' q x m:=⟨a.seq,a.next,a.p,a.extra,a.drives.ac b,ov.loc a.objs b,a.dcap,a.ocap⟩
theorem kX.mono{h:hY}{q q':au}{x:aY}{m:aA}(a:kX h q x m)(c:∀b,q b->q' b):kX h q' x m:=⟨a.seq,a.next,a.p,a.extra,a.drives.mono c,ov.mono a.objs c,a.dcap,a.ocap⟩
theorem cj.up{h h':hY}{x:aY}{m:aA}(a:cj h x m)(c:aP (λb=>b<h.size) h h'):cj h' x m:=(kX.ac a c).mono λ_ d=>qY d c.1
def be(x:aY)(m:aA):HP:=⟨λh q=>kX h q x m,λa c=>a.ac c,λa b=>a.mono b⟩
theorem ow:∀x,∀c∈aT x,c.oneCell'=eH:=by intro x c a;simp[aT]at a;rcases a with rfl|rfl|rfl|rfl<;>rfl
theorem pI(n a b:Int)(h:hY):an xZ 117 #[xP xV n,xP xV a,xP xV b] h λv h'=>v=xT (dP n a b)/\h'=h:=by
 refine ts Tryz.func117 ?_;unfold dP;refine ae (λe=>⟨?_,n2⟩) (λe=>⟨?_,n2⟩)
 .rw[m9 (show a<=n from e)];rfl
 .rw[nb (show¬a<=n from e)];rfl
theorem JL(s:ByteArray)(h:hY)(F:s.size<=2^40):an xZ 143 #[xS s] h λv h'=>v=xT (gB s)/\Sp h h' []:=by
 refine ts Tryz.func143 ?_ (G7 (Hf [(8,aH)] [(2,3),(4,5),(8,31)]));refine aac af ⟨_,n2,n2⟩ ⟨_,n2,n2⟩ ⟨_,n2,n2⟩ s λr B p=>?_;have y:=p.rd 0 n2;have A:=y.len;have D:=tH s;refine ak (λi:Nat=>(i:Int)) (λi h'=>i<=s.size/\h'=B/\∀c∈(iK s).take i,gf c=eH) (λi=>s.size-i) 0 n2 ⟨n3,n2,n9⟩ ?_;rintro i t ⟨G,rfl,d⟩;refine ae (λe=>?_) (λe=>?_)
 .have j:i<(iK s).length:=by have e':(i:Int)<(r.len:Int):=e;omega
  refine y.aX i n2 j ((iK s)[i].toNat:Int) n2 ?_;obtain⟨c,u⟩:=I3 ((iK s)[i])
  rw[<-u];have a:gf c=eH->∃o:Nat,qe xV ((i:Int)+1)=(o:Int)/\(o<=s.size/\t=t/\∀c∈(iK s).take o,gf c=eH)/\s.size-o<s.size-i:=λq=>
   ⟨i+1,oi,⟨n3,n2,λx k=>by
    rw[aC _ _ j]at k;rcases qu.1 k with k|k
    .exact d x k
    .rw[qA.1 k,<-u];exact q⟩,n3⟩
  have g:gf c=eL->Value.bool eL=xT (gB s)/\Sp h t []:=λq=>by
   refine⟨?_,p.bs []⟩;unfold gB;have:s.data.toList.all gf=eL:=wg.2 ⟨c,by rw[u];exact qf j,by rw[q];simp⟩;rw[this];rfl
  have b:gf c=eH↔((97<=(c.toNat:Int)/\(c.toNat:Int)<=122)∨(48<=(c.toNat:Int)/\(c.toNat:Int)<=57)∨(c.toNat:Int)=45):=by unfold gf;simp[or_assoc];omega
  have f:gf c=eL↔¬((97<=(c.toNat:Int)/\(c.toNat:Int)<=122)∨(48<=(c.toNat:Int)/\(c.toNat:Int)<=57)∨(c.toNat:Int)=45):=by rw[<-b];cases gf c<;>simp
  refine ae (λw=>ae (λe2=>bt (λl=>g (f.2 n3)) λl=>a (b.2 n3)) λe2=>ae (λl=>bt (λm=>g (f.2 n3)) λm=>a (b.2 n3)) λl=>a (b.2 n3)) λw=>ae (λe2=>ae (λl=>bt (λm=>g (f.2 n3)) λm=>a (b.2 n3)) λl=>ae (λm=>bt (λE=>g (f.2 n3)) λE=>a (b.2 n3)) λm=>a (b.2 n3)) λe2=>a (b.2 n3)
 .have e':¬(i:Int)<(r.len:Int):=e;rw[qh n3]at d;have z:s.data.toList.all gf=eH:=qU.2 d;refine ae (λw=>⟨?_,p.bs []⟩) (λw=>⟨?_,p.bs []⟩)
  .unfold gB;rw[z,m9 (show 1<=s.size by omega)];congr 1;simp;omega
  .unfold gB;rw[z,nb (show¬1<=s.size by omega)];rfl
theorem UL(s:Sl)(l:aD)(a:Int)(h:hY)(q:Rd h s 1 aq l)(y:n1 l<=2^40):an xZ 118 #[s,xP xV a] h λv h'=>v=xT (oH l a)/\h'=h:=by
 refine ts Tryz.func118 ?_ (G7 (Hf [(9,aH)] [(4,7),(9,32)]));have w:=q.len;refine ak (λi:Nat=>(i:Int)) (λi h'=>i<=n1 l/\h'=h/\∀j,j<i->fQ l a j=eH) (λi=>n1 l-i) 0 n2 ⟨n3,n2,n3⟩ ?_;rintro i f ⟨z,rfl,c⟩;refine ae (λe=>?_) (λe=>?_)
 .have d:i<n1 l:=by have e':(i:Int)<(s.len:Int):=e;omega
  refine q.aX i n2 d l[i] n2 ?_;have p:l.getD i 0=l[i]:=getD_lt d;have k:fQ l a i=eL->Value.bool eL=xT (oH l a)/\f=f:=λr=>⟨by unfold oH;rw[Cz d r],n2⟩
  have b:fQ l a i=eH->∃o:Nat,qe xV ((i:Int)+1)=(o:Int)/\(o<=n1 l/\f=f/\∀j,j<o->fQ l a j=eH)/\l.length-o<n1 l-i:=λr=>
   ⟨i+1,oi,⟨n3,n2,λj x=>by
    by_cases t:j=i
    .rw[t];exact r
    .exact c j n3⟩,n3⟩
  refine(pI l[i] 0 a f).I0 ⟨_,n2,aI (λm=>k (by unfold fQ;rw[p,m];rfl)) λm=>ae (λe2=>?_) λe2=>b (by unfold fQ;rw[p,m,m9 (show i=0 by omega)];rfl)⟩;rw[ag ((i:Int)-1)];refine q.aX (i-1) n3 n3 (l[i-1]'n3) n2 ?_;have g:l.getD (i-1) 0=l[i-1]'n3:=getD_lt;refine ae (λu=>k ?_) (λu=>b ?_)
  .unfold fQ;rw[p,g,m,nb (show¬i=0 by omega),nb n3];rfl
  .unfold fQ;rw[p,g,m,m9 (show l[i-1]'n3<l[i]by omega)];simp
 .have e':¬(i:Int)<(s.len:Int):=e;exact⟨by unfold oH;rw[rY λj x=>c j n3],n2⟩
theorem sF(p:Pm)(n:Int)(h:hY)(m:n<=2^40:=by omega):an xZ 85 #[gr p,xP xV n] h λv h'=>v=xP xV (countP p n)/\Sp h h' []:=by
 refine ts Tryz.func85 ?_ (G7 (HF [] [(4,12)] E9)) (args:=[p,(n:Int)]);refine(Sp.refl h).boxed λr d f=>?_;refine aE ⟨p,(f.box 0 n2).aw _ n2,(fc p d).I1 λi j=>?_⟩;have b:=f.up j.ac;refine⟨_,n2,aI (λe=>⟨?_,b.bs []⟩) λg=>ae (λe=>⟨?_,b.bs []⟩) λe=>?_⟩
 .unfold countP;rw[e];rfl
 .unfold countP;rw[nb (show¬0<n by omega),Bool.and_false];rfl
 .have l:=(bL p).1 g;refine⟨p,(b.box 0 n2).aw _ n2,?_⟩;refine(Av p (R:=λv h'=>v=xP xV (p.1*p.2.2)/\Sp h h' []) ?_).mono ?_
  .skip
   refine b.boxed λq h3 c=>⟨p.1,(c.box 1 n2).cell0 n2,p.2.2,(c.box 1 n2).cell n2,?_,c.bs []⟩
   have o:p.1*p.2.2<=16*24:=wi n3 n3 n3 n3;have a:0<=p.1*p.2.2:=vy n3 n3;rw[ag _]
  .rintro _ h3 ⟨rfl,k⟩;have a:0<p.1*p.2.2:=Int.mul_pos n3 n3;refine⟨_,n2,Int.ne_of_gt a,?_,k⟩;have d:(n-1)/(p.1*p.2.2)<=n-1:=vD _ n3;have i:0<=(n-1)/(p.1*p.2.2):=xB n3 n3;rw[ag (n-1),yH n3,ag ((n-1)/(p.1*p.2.2)),ag _];unfold countP;rw[g,m9 (show 0<n by omega)];rfl
theorem Ov(s:Sl)(l:aD)(h:hY)(d:Rd h s 1 aq l)(j:n1 l<=2^40):an xZ 125 #[s,.func (.func 189) #[] #[]] h λv h'=>v=xT (!l.all (dP · 0 15))/\h'=h:=by
 refine ts Tryz.func125 ?_ (args:=[s,(.func (.func 189) #[] #[])]);have g:=d.len;refine(iL s (189,#[],#[]) (R:=λv h'=>(∃i:Int,v=xP xV i/\(decide (i>=0)=!l.all (dP · 0 15)))/\h'=h) ?_).mono ?_
 .skip
  refine ak (λi:Nat=>(i:Int)) (λi h'=>i<=n1 l/\(l.take i).all (dP · 0 15)=eH/\h'=h) (λi=>n1 l-i) 0 n2 ⟨n3,n9,n2⟩ ?_;rintro i c ⟨f,a,rfl⟩;refine ae (λe=>?_) (λe=>?_)
  .have b:i<n1 l:=by have e':(i:Int)<(s.len:Int):=e;omega
   refine d.aX i n2 b l[i] n2 (fB qa ?_);refine(FL l[i] (R:=λv h'=>v=xT (!dP l[i] 0 15)/\h'=c) ?_).mono ?_
   .skip
    refine(pI l[i] 0 15 c).I0 ⟨_,n2,n2,n2⟩
   .rintro _ _ ⟨rfl,rfl⟩;refine⟨_,n2,aI (λe2=>?_) λe2=>?_⟩
    .refine⟨⟨i,n2,?_⟩,n2⟩;rw[m9 (show(i:Int)>=0 by omega)];have:l.all (dP · 0 15)=eL:=wg.2 ⟨_,qf b,E4⟩;rw[this];rfl
    .refine⟨i+1,oi,⟨n3,?_,n2⟩,n3⟩;rw[aC _ _ b,wz,a];simp[e2]
  .have e':¬(i:Int)<(s.len:Int):=e;refine⟨⟨-1,n2,?_⟩,n2⟩;rw[qh n3]at a;rw[a];rfl
 .rintro _ c ⟨⟨i,rfl,f⟩,rfl⟩;exact⟨i,n2,by rw[f],n2⟩
structure bG (m:aA):Prop where
 dr:m.drives.length<=2^30
 ob:m.objs.length<=2^30
 nm:∀e∈m.objs,e.name.size<=2^30/\e.tries.length<=2^30
theorem addr_add(a:fY)(i j:Nat):(a.add i).add j=a.add (i+j):=by unfold Addr.add;by_cases c:i=0<;>by_cases b:j=0<;>simp[c,b,wA]
theorem bR.lF{h:hY}{a:fY}{e:TypeId}{b:aR}{v:Value}(d:bR h a e b)(i j:Nat)(c:b[i+j]?=cO v):hU h ((a.add i).add j)=cO v:=by rw[addr_add];exact d.cell c
theorem bR.lN{h:hY}{a:fY}{e:TypeId}{b:aR}{u v w:Value}(c:bR h a e b)(i:Nat)(f:b[i]?=cO u)(g:b[i+1]?=cO v)(d:b[i+2]?=cO w):bA h (a.add i) 0 [u,v,w]:=
 ⟨c.lF i 0 f,c.lF i 1 g,c.lF i 2 d,I4⟩
abbrev kQ:bS C.toAk 25 59 4 [xS ⟨#[]⟩,xP xV 0,xP xV 0,xQ dB 0 0] 56:=⟨_,_,n2,n2,n2,n2,n2,n2⟩
theorem Sj(x:aY)(m:aA)(e:dg)(E:Qw.cS)(h:hY)(i:cj h x m)(A:fk eC h e E)(B:kt m=eH)(O:E.name.size<=2^30)(N:E.tries.length<=2^30):
  an xZ 119 #[cu x,xU #[xS e.1,xP xV e.2.1,xP xV e.2.2.1,e.2.2.2]] h λv h'=>v=xT (gy m E)/\Sp h h' []:=by
 refine ts Tryz.func119 ?_ (G7 (HF [] [(4,5),(6,33)] E9)) (args:=[x,e]);obtain⟨_,z,f,_⟩:=Fu B;have K:=(bL m.p).1 f;obtain⟨⟨F,e2,u⟩,y⟩:=A;have c:x.2.2.1=m.p.1:=congrArg (·.1) i.p;have q:x.2.2.2.1=m.p.2.1:=congrArg (·.2.1) i.p;have d:x.2.2.2.2.1=m.p.2.2:=congrArg (·.2.2) i.p;have Q:m.p.1*m.p.2.2<=16*24:=wi n3 n3 n3 n3;have L:0<=m.p.1*m.p.2.2:=vy n3 n3;refine(Sp.refl h).boxed λS P J=>?_;refine J.boxed λR D w=>?_;have k:∀{h':hY} {As:List HP},Sp h h' As->gy m E=eL->Value.bool eL=xT (gy m E)/\Sp h h' []:=λ{h' As} H' g=>⟨by rw[g],.zip H'.ac⟩
 refine aE ⟨E.name,by rw[<-F];exact(w.box 1 n2).cell0 n2,(JL E.name D n3).I1 λh3 G=>?_⟩;have a:=w.up G.ac;refine⟨_,n2,aI (λb=>k a (by unfold gy;rw[b];rfl)) λl=>?_⟩;refine⟨E.object,by rw[<-e2];exact(a.box 1 n2).cell n2,m.next,by rw[<-i.next];exact(a.box 0 n2).cell n2,?_⟩
 try dsimp only
 rw[ag (m.next-1)];refine(pI E.object 0 (m.next-1) h3).I0 ⟨_,n2,aI (λb=>k a (by unfold gy;rw[l,b];rfl)) λo=>?_⟩;have g:=a.box 0 n2;refine⟨E.length,by rw[<-u];exact(a.box 1 n2).cell n2,m.p.1,by rw[<-c];exact g.cell n2,m.p.2.2,by rw[<-d];exact g.lF 2 2 n2,?_⟩
 try dsimp only
 rw[ag (m.p.1*m.p.2.2),ag (m.p.1*m.p.2.2*8)];refine(pI E.length 0 (m.p.1*m.p.2.2*8) _).I0 ⟨_,n2,aI (λb=>k a (by unfold gy;rw[l,o,b];rfl)) λj=>?_⟩;have s:0<=E.length/\E.length<=m.p.1*m.p.2.2*8:=by unfold dP at j;simpa using j
 refine⟨e.2.2.2,(a.box 1 n2).cell n2,?_⟩;refine(Ov e.2.2.2 E.tries _ (Seq.up y a.ac) n3).I0 ⟨_,n2,aI (λb=>?_) λb=>⟨I4,k a ?_⟩⟩
 .have r:E.tries.all (dP · 0 15)=eH:=v8
  refine⟨e.2.2.2,(a.box 1 n2).cell n2,m.p,?_,E.length,by rw[<-u];exact(a.box 1 n2).cell n2,?_⟩
  .rw[<-c,<-q,<-d];exact g.lN 2 n2 n2 n2
  .refine(sF m.p E.length _).I1 λM H=>?_;have t:=a.up H.ac;refine⟨_,n2,⟨(t.box 1 n2).cell n2,I4⟩,?_,.zip t.ac⟩;unfold gy;have I:=y.len;rw[l,o,j,r,I];simp;rfl
 .have r:E.tries.all (dP · 0 15)=eL:=v8
  unfold gy;rw[l,o,j,r];rfl
theorem Ow(a:fY)(e:dg)(l:Sl)(b:List Qw.cS)(h:hY)(q:bR h a 59 (aT e))(p:fk ov h l b)(E:b.length<=2^30):
  an xZ 120 #[l,.func (.func 121) #[] #[xR (cO a)]] h λv h'=>v=xT (b.any λy=>decide (y.object=e.2.1))/\Sp h h' []:=by
 refine ts Tryz.func120 ?_ (args:=[l,(.func (.func 121) #[] #[xR (cO a)])]);refine(ia l (121,#[],#[xR (cO a)]) (R:=λv h'=>(∃i:Int,v=xP xV i/\(decide (i>=0)=b.any λy=>decide (y.object=e.2.1)))/\Sp h h' []) ?_).mono ?_
 .skip
  obtain⟨o,s,D,z⟩:=bW.ku p;have A:=bW.len p;refine ak (λi:Nat=>(i:Int)) (λi h'=>i<=b.length/\(b.take i).any (λy=>decide (y.object=e.2.1))=eL/\Sp h h' []) (λi=>b.length-i) 0 n2 ⟨n3,n9,Sp.refl h⟩ ?_;rintro i k ⟨r,c,j⟩;refine ae (λn=>?_) (λn=>?_)
  .have d:i<b.length:=by have e':(i:Int)<(l.len:Int):=n;omega
   obtain⟨⟨_,t,_⟩,_⟩:=z i n3 d;refine(Seq.up s j.ac).cH (g:=aT) i n2 n3 (o[i]'n3) n2 (fB qa ?_);refine(II (o[i]'n3) a (R:=λv h'=>v=xT (b[i].object==e.2.1)/\Sp k h' []) ?_).mono ?_
   .skip
    refine(Sp.refl k).boxed λB u f=>?_;have m:=q.ac (up j.ac f.ac) q.lt;exact⟨b[i].object,by rw[<-t];exact(f.box 0 n2).cell n2,e.2.1,m.cell n2,n2,.zip f.ac⟩
   .rintro _ u ⟨rfl,w⟩;have f:=j.up w.ac;refine⟨_,n2,aV (λe2=>?_) λe2=>?_⟩
    .refine⟨⟨i,n2,?_⟩,f⟩;rw[m9 (show(i:Int)>=0 by omega)];exact(zW.2 ⟨_,qf d,v7⟩).symm
    .refine⟨i+1,oi,⟨n3,?_,f⟩,n3⟩;rw[aC _ _ d,yl,c];simpa using e2
  .have e':¬(i:Int)<(l.len:Int):=n;refine⟨⟨-1,n2,?_⟩,j⟩;rw[qh n3]at c;rw[c];rfl
 .rintro _ k ⟨⟨i,rfl,r⟩,x⟩;exact⟨i,n2,by rw[r],x⟩
theorem FP(x:aY)(m:aA)(h:hY)(d:cj h x m)(O:bG m):an xZ 51 #[cu x] h λv h'=>v=xT (bH m)/\Sp h h' []:=by
 refine ts Tryz.func51 ?_ (G7 (HF [] [(2,3),(5,27)] (HF [] [(2,3),(27,37)] (E8 (G7 (F8 (G0 [(40,aH)] [(2,5),(40,72)] (G7 (G7 (E8 (F8 (G7 (HF [] [(2,3),(45,65)] E9))) E9)))))) E9)))) (args:=[x]);refine(Sp.refl h).boxed λY h1 H=>?_;have w:=H.box 0 n2;have N:x.2.2.1=m.p.1:=congrArg (·.1) d.p;have Q:x.2.2.2.1=m.p.2.1:=congrArg (·.2.1) d.p;have P:x.2.2.2.2.1=m.p.2.2:=congrArg (·.2.2) d.p;have z:∀{h':hY} {As:List HP},Sp h h' As->bH m=eL->Value.bool eL=xT (bH m)/\Sp h h' []:=λ{h' As} H' w=>⟨by rw[w],.zip H'.ac⟩
 refine aE ⟨m.seq,by rw[<-d.seq];exact w.cell0 n2,(pI m.seq 1 2147483647 h1).I0 ?_⟩;refine⟨_,n2,aI (λb=>z H (by unfold bH kt;rw[b];rfl)) λF=>?_⟩;refine⟨m.next,by rw[<-d.next];exact w.cell n2,(pI m.next 0 16777216 _).I0 ?_⟩;refine⟨_,n2,aI (λb=>z H (by unfold bH kt;rw[F,b];rfl)) λJ=>?_⟩;refine⟨m.p,by rw[<-N,<-Q,<-P];exact w.lN 2 n2 n2 n2,(fc m.p _).I1 λh2 R2=>?_⟩;have o:=H.up R2.ac;refine⟨_,n2,aI (λb=>z o (by unfold bH kt;rw[F,J,b];rfl)) λb3=>?_⟩;refine⟨m.extra,by rw[<-d.extra];exact(o.box 0 n2).cell n2,(pI m.extra 0 16 _).I0 ?_⟩;refine⟨_,n2,aI (λb=>z o (by unfold bH kt;rw[F,J,b3,b];rfl)) λb4=>?_⟩;have G:kt m=eH:=by unfold kt;rw[F,J,b3,b4];rfl
 have L:=d.up o.ac;have s:=o.box 0 n2;have ad:=O.dr;have ah:=O.ob;refine aE ⟨_,s.cell n2,(UL _ m.drives 63 _ L.drives n3).I0 ?_⟩;refine⟨_,n2,aI (λb=>z o (by unfold bH;rw[G,b];rfl)) λW=>?_⟩;have X:=bW.len d.objs;refine⟨x.2.2.2.2.2.2.2,s.cell n2,ae (λe=>z o ?_) λab=>?_⟩
 .unfold bH;rw[G,W,nb n3];rfl
 have U:n1 m.objs<=12:=n3
 refine⟨x.2.2.2.2.2.2.2,s.cell n2,?_⟩;obtain⟨l,D⟩:=bW.fix d.objs;have al:=D.2.1;refine ak (λi:Nat=>(i:Int)) (λi h'=>i<=n1 m.objs/\(∀j,j<i->kr m j=eH)/\Sp h h' [aj Y 27 (az x)]) (λi=>n1 m.objs-i) 0 n2 ⟨n3,n3,o⟩ ?_;rintro i h3 ⟨hi,r,T⟩;refine ae (λe=>?_) (λe=>?_)
 .have c:i<n1 m.objs:=by have e':(i:Int)<(x.2.2.2.2.2.2.2.len:Int):=e;omega
  have B:=O.nm _ (qf c);have k:jo m.objs i=m.objs[i]:=lH c;have u:∀{h':hY} {As:List HP},Sp h h' As->kr m i=eL->Value.bool eL=xT (bH m)/\Sp h h' []:=λ{h' As} H' w=>z H' (by unfold bH;rw[Cz c w];simp);have F3:=gA.up D T.ac;refine F3.1.cH (g:=aT) i n2 n3 (l[i]'n3) n2 ?_;refine T.alloc af n2 λA h4 H4=>?_;refine H4.storeAll af 1 n2 n2 (aT (l[i]'n3)) n2 n2 n2 n2 λh5 E=>?_;have V:=gA.up D E.ac;obtain⟨⟨y1,y2,y3⟩,y4⟩:=Fix.row V c;obtain⟨b6,f⟩:∃b,b=(decide (i=0)||cU (jo m.objs (i-1)).name (jo m.objs i).name):=⟨_,rfl⟩
  refine bj (λ_ h'=>gy m m.objs[i]=eH/\b6=eH/\Sp h h' [aj Y 27 (az x),aj A 59 (aT (l[i]'n3))]) ?_ ?_
  .refine⟨x,(E.box 0 n2).aw _ n2,l[i]'n3,(E.box 1 n2).aw _ n2,?_⟩;refine(Sj x m (l[i]'n3) m.objs[i] h5 (d.up E.ac) (Fix.row V c) G B.1 B.2).I1 λZ R6=>?_;have a:=E.up R6.ac;have I:=gA.up D a.ac;refine⟨_,n2,I4,aI (λb=>u a (by unfold kr;rw[k,b];rfl)) λb=>ae (λe2=>?_) λe2=>⟨b,by rw[f,m9 (show i=0 by omega)];rfl,a⟩⟩;rw[ag ((i:Int)-1)];obtain⟨S,ha,zz,hc,rfl⟩:=I.1.cH (g:=aT) (i:=(i:Int)-1) (i-1) n3 n3 (l[i-1]'n3) rfl (K:=λt=>t=l[i-1]'n3) rfl;refine⟨x.2.2.2.2.2.2.2,(a.box 0 n2).cell n2,S,ha,m.objs[i-1].name,?_,m.objs[i].name,?_,?_⟩
   .rw[<-(Fix.row I (show i-1<n1 m.objs by omega)).1.1];exact hc.1
   .rw[<-y1];exact(a.box 1 n2).cell0 n2
   .have q:jo m.objs (i-1)=m.objs[i-1]:=lH;rw[k,q]at f;refine aI (λy=>u a ?_) (λy=>⟨b,?_,a⟩)
    .unfold kr;rw[k,q,b,nb (show¬i=0 by omega)];unfold cU;rw[y];rfl
    .rw[f];unfold cU;rw[y];simp
  .rintro _ Z ⟨b,M,a⟩;have I:=gA.up D a.ac;refine⟨x.2.2.2.2.2.2.2,(a.box 0 n2).cell n2,⟨n3,by have:=d.ocap;omega⟩,?_⟩;rw[qj];refine(Ow A (l[i]'n3) ⟨x.2.2.2.2.2.2.2.ptr,i,x.2.2.2.2.2.2.2.cap⟩ (m.objs.take i) Z (a.box 1 n2) (bW.take I.elt i n3) n7).I1 λh7 R7=>?_;have H7:=a.up R7.ac;rw[y2];refine⟨_,n2,aU (λy=>u H7 ?_) λy=>?_⟩
   .unfold kr;rw[k,y];simp
   .refine⟨i+1,oi,⟨n3,λj hj=>?_,H7.bs [0]⟩,n3⟩;by_cases R:j=i
    .subst R;rw[M]at f;unfold kr;rw[<-f,k,b,y];rfl
    .exact r j n3
 .have e':¬(i:Int)<(x.2.2.2.2.2.2.2.len:Int):=e;refine⟨?_,.zip T.ac⟩;unfold bH;rw[G,W,m9 U,rY λj hj=>r j n3];rfl
theorem ri(s:Sl)(l:aS)(n:Int)(k:Nat)(r:k<=4)(u:n1 l<=2^20)(H:aa B h0 h (ai 5 s 1 ar l::As)):
  an xZ 190 #[s,xP xV n,xP xV k] h λv h'=>∃b:Sl,v=b/\aa B h0 h' (ai 5 b 1 ar (l++cz n k)::As):=by
 refine ts Tryz.func190 ?_ (G7 (Hf [(0,bN),(7,aH)] [(0,1),(7,8),(10,22)]));have p:=bM n k;refine ak (λt:Sl×Nat=>(t.1,(k:Int)-1-t.2)) (λt h'=>t.2<=k/\aa B h0 h' (ai 5 t.1 1 ar (l++(cz n k).take t.2)::As)) (λt=>k-t.2) (s,0) (by rw[ag _];simp) ⟨n9,u7⟩ ?_;rintro⟨o,j⟩ q ⟨x,a⟩;dsimp only at*;refine ae (λe=>?_) (λe=>?_)
 .have c:j<k:=n3
  rw[ag ((8:Int)*((k:Int)-1-j))];refine⟨n3,?_⟩;have m:((8:Int)*((k:Int)-1-j)).toNat=8*(k-1-j):=n3
  have g:min (8*(k-1-j)) (qx xV)=8*(k-1-j):=by have:qx xV=64:=rfl;omega
  rw[m,g,bT];have d:b8 (zr n (2^(8*(k-1-j))))=(cz n k)[j]'n3:=by simp[cz]
  rw[d];refine a.push af 0 n2 cN n2 n4 (λ_=>rfl) cD ((cz n k)[j]'n3) n2 n4 n7 λi w f=>?_;refine⟨(i,j+1),by dsimp only;rw[ag _];congr 1;omega,⟨n5,?_⟩,n5⟩
  try dsimp only
  rw[aC _ _ (show j<(cz n k).length by omega),<-qo];exact f
 .rw[qh n3]at a;exact⟨o,n2,a⟩
theorem sG(b:Sl)(l:aD)(o:Sl)(c:aS)(H:aa B h0 h (ai 5 o 1 ar c::As))(r:St B h0 As λh=>Rd h b 1 aq l)(G:n1 c<=2^30)(D:n1 l<=2^30){K:Sl×Int->hY->Prop}
  (w:∀q h',aa B h0 h' (ai 5 q 1 ar (c++l.map b8)::As)->K (q,(n1 l:Int)) h'):
  gU (σ:=Sl×Int) (λa z h8=>
 Br (decide (a.2<((b.len:Nat):Int)))
 (∃k:fY,(b.ptr=cO k/\0<=a.2/\a.2<((b.len:Nat):Int))/\
 ∃g:Int,hU h8 (k.add (a.2.toNat*1))=cO (xP xV g)/\
 bC xZ (Instr.buildSlice 41 1 #[(0,(xP xW (qe xW g)))]) (.one (.sc .slc)) h8 λd s=>
 bC xZ (Builtin.append_ #[41,41] 41 #[(xQ a.1.ptr a.1.len a.1.cap),(xQ d.ptr d.len d.cap)]) (.one (.sc .slc)) s λf p=>
 z ((⟨f.ptr,f.len,f.cap⟩:Sl),qe xV (a.2+(1:Int))) p)
 (K a h8)) (o,(0:Int)) h:=by
 have A:b.len=n1 l:=(r.at [_] H).len;refine ak (λt:Sl×Nat=>(t.1,(t.2:Int))) (λt h'=>t.2<=n1 l/\aa B h0 h' (ai 5 t.1 1 ar (c++(l.take t.2).map b8)::As)) (λt=>n1 l-t.2) (o,0) n2 ⟨n9,u7⟩ ?_;rintro⟨u,i⟩ v ⟨F,m⟩;dsimp only at*;refine ae (λe=>?_) (λe=>?_)
 .have j:i<n1 l:=n3
  refine(r.at [_] m).aX i n2 j l[i] n2 ?_;rw[bT];refine m.push af 0 n2 cN n2 n4 (λ_=>rfl) cD (b8 l[i]) n2 n4 n7 λx E y=>?_;refine⟨(x,i+1),n8,⟨n5,?_⟩,n5⟩
  try dsimp only
  rw[aC _ _ j,qG,<-qo];exact y
 .have n:i=n1 l:=n3
  subst n;rw[qy]at m;exact w u v m
theorem aap{m:aA}(a:bH m=eH){i:Nat}(b:i<n1 m.objs):gy m m.objs[i]=eH:=by
 unfold bH at a;simp only[qC]at a;have:=qU.1 a.2.2.2 i (q8.2 b);unfold kr at this;simp only[qC]at this;have c:=this.1
 rwa [lH b]at c
theorem My{m:aA}(d:bH m=eH){i:Nat}(h:i<m.objs.length):m.objs[i].name.size<=12/\m.objs[i].tries.length<=3073:=by
 have b:=aap d h;unfold gy gB at b;simp only[qC,decide_eq_true_eq]at b;obtain⟨⟨_,_,e⟩,_,h3,_,c⟩:=b;refine⟨e,?_⟩;obtain⟨_,_,a,_⟩:=Fu (Ua d);have g:=(bL m.p).1 a;unfold dP at h3;simp only[qC,decide_eq_true_eq]at h3;have j:m.p.1*m.p.2.2<=16*24:=wi n3 n3 n3 n3;unfold countP at c;split at c
 .have:(m.objs[i].length-1)/(m.p.1*m.p.2.2)<=m.objs[i].length-1:=vD _ (by rename_i f;simp at f;omega);omega
 .omega
theorem UM{m:aA}(a:bH m=eH){i:Nat}(b:i<n1 m.objs):(go m.objs[i]).length<=4000:=by have:=My a b;unfold go;simp[bM];have:m.objs[i].name.data.size=m.objs[i].name.size:=rfl;omega
theorem uN{m:aA}(a:bH m=eH):∀n,n<=n1 m.objs->((m.objs.take n).flatMap go).length<=n*4000
 |0,_=>n9
 |n+1,hn=>by
  rw[aC _ _ (show n<n1 m.objs by omega),ze,qq];have c:=uN a n n3;have b:=UM a (show n<n1 m.objs by omega);have h3:([m.objs[n]].flatMap go).length=(go m.objs[n]).length:=by rw[zA,wB,qR]
  omega
theorem tW{m:aA}(a:bH m=eH):n1 m.objs<=12:=by unfold bH at a;simp only[qC,decide_eq_true_eq]at a;exact a.2.2.1
theorem tZ(m:aA)(j:bG m):(gC m).length<=100000:=by
 unfold gC;split
 .rename_i c;have e:=c;unfold bH at e;simp only[qC,decide_eq_true_eq]at e;have k:n1 m.drives<=64:=by
   have a:=e.2.1;unfold oH at a;rw[qU]at a;by_cases g:n1 m.drives<=64
   .exact g
   .exfalso;have d:∀i,i<n1 m.drives->(i:Int)<=m.drives.getD i 0:=λi=>by
     induction i with
     |zero=>
      intro f;have:=a 0 (q8.2 f);unfold fQ dP at this;simp at this;simpa using this.1
     |succ i ih=>
      intro f;have:=a (i+1) (q8.2 f);have h3:=ih n3;unfold fQ dP at this;simp at this;have b:=this.2;simp only[qg]at h3⊢;omega
    have h3:=d 64 n3;have b:=a 64 (q8.2 n3);unfold fQ dP at b;simp at b;simp only[qg]at h3;omega
  have h:(m.objs.flatMap go).length<=12*4000:=by have a:=uN c m.objs.length (qk _);rw[qy]at a;have:=zo 4000 (tW c);omega
  simp only[qq,zc,wQ,qp,bM];omega
 .simp
theorem UN(x:aY)(m:aA)(h:hY)(d:cj h x m)(hz:bG m):an xZ 123 #[cu x] h λv h'=>∃r:Sl,v=r/\Sp h h' [ai 5 r 1 ar (gC m)]:=by
 refine ts Tryz.func123 ?_ (G7 (G7 (HF [(3,bN)] [(3,4),(13,19)] (G7 (E8 (G7 (F8 (G0 [(3,bN),(44,aH)] [(3,4),(5,6),(44,54)] E9))) (G7 (E8 (G7 (F8 (G0 [(3,bN),(64,aH)] [(3,4),(7,8),(9,10),(64,99)] (G7 (G7 (E8 (F8 (G7 (HF [(3,bN)] [(3,4),(68,78)] (HF [(3,bN)] [(3,4),(78,85)] (G7 (F8 (G0 [(3,bN),(88,aH)] [(3,4),(9,10),(88,98)] E9))))))) E9)))))) E9))))))) [(3,(.l [0,1,3,4,2,5,6])),(14,(.l [0,1,2,3,4,7,8,5,6,9,10])),(15,(.l [0,1,2,4,5,3,6,7]))] (args:=[x]);refine(Sp.refl h).boxed λa1 h1 H1=>?_;refine⟨x,(H1.box 0 n2).aw _ n2,(FP x m h1 (d.up H1.ac) hz).I1 λh2 R2=>?_⟩;have U:=H1.up R2.ac;refine⟨_,n2,aI (λe=>?_) λA=>?_⟩
 .unfold gC;rw[e];exact⟨⟨dB,0,0⟩,n2,((U.nil 5 1 ar).bs [1])⟩
 have Y:x.2.2.1=m.p.1:=congrArg (·.1) d.p;have ad:x.2.2.2.1=m.p.2.1:=congrArg (·.2.1) d.p;have ab:x.2.2.2.2.1=m.p.2.2:=congrArg (·.2.2) d.p;have D:=U.box 0 n2;have c:=tZ m hz;unfold gC at c;rw[A,l0 rfl]at c;have hM:∀{h':hY} {As:List HP},Sp h h' As->cj h' x m:=λ{h' As} L=>d.up L.ac;refine aE ⟨m.seq,by rw[<-d.seq];exact D.cell0 n2,m.next,by rw[<-d.next];exact D.cell n2,?_⟩;have H3:=(U.nil 5 1 ar).bf;refine(ri ⟨dB,0,0⟩ [] m.seq 4 n4 n9 H3).I2 λs4 h4 H4=>⟨s4,n2,⟨by rw[<-d.next];exact(H4.box 1 n2).cell n2,I4⟩,?_⟩;refine(ri s4 _ m.next 4 n4 tq H4).I2 λs5 h5 H5=>⟨s5,n2,I4,?_⟩;have k:=H5.box 1 n2;refine⟨m.p.1,by rw[<-Y];exact k.cell n2,m.p.2.1,by rw[<-ad];exact k.lF 2 1 n2,m.p.2.2,by rw[<-ab];exact k.lF 2 2 n2,m.extra,by rw[<-d.extra];exact k.cell n2,x.2.2.2.2.2.2.1,k.cell n2,?_⟩;have am:=d.drives.len;have ap:=bW.len d.objs
 try dsimp only
 rw[bT,bT,bT,bT,bT,am];refine H5.lit af ar cN n2 [b8 m.p.1,b8 m.p.2.1,b8 m.p.2.2,b8 m.extra,b8 (m.drives.length:Nat)] n2 (show 5*1<=2^20 by decide) n2 λa3 h6 H6=>?_;refine H6.append af 0 n2 cN ⟨_,_,n2,n2⟩ n2 n4 (λ_=>rfl) (H6.seq 2 n2 λ_=>rfl) cD tq λs7 h7 S=>?_;have S:=S.bs [0,1];refine⟨x.2.2.2.2.2.2.1,(S.box 1 n2).cell n2,?_⟩;have a2:(([]++cz m.seq 4)++cz m.next 4++[b8 m.p.1,b8 m.p.2.1,b8 m.p.2.2,b8 m.extra,b8 (m.drives.length:Nat)]).length=13:=tq
 have a6:=hz.dr;refine sG x.2.2.2.2.2.2.1 m.drives s7 _ S (St.mk' λh' L=>(hM L).drives) n3 n3 λs8 h8 H8=>?_
 try dsimp only
 refine⟨x.2.2.2.2.2.2.2,(H8.box 1 n2).cell n2,?_⟩
 try dsimp only
 rw[bT,ap];obtain⟨a,b⟩:=I3 (([]++cz m.seq 4)++cz m.next 4++[b8 m.p.1,b8 m.p.2.1,b8 m.p.2.2,b8 m.extra,b8 (m.drives.length:Nat)]++m.drives.map b8)
 rw[<-b]at H8;have ah:a.length=13+m.drives.length:=by rw[b];simp[bM];omega
 simp only[qq,zc,wQ,qp,bM]at c;refine H8.push af 0 n2 cN n2 n4 (λ_=>rfl) cD (b8 (m.objs.length:Nat)) n2 n4 n3 λs9 h9 R=>?_;have R:Sp h h9 [ai 5 s9 1 ar (a++[b8 (m.objs.length:Nat)]),aj a1 27 (az x)]:=R;refine⟨x.2.2.2.2.2.2.2,(R.box 1 n2).cell n2,?_⟩;obtain⟨P,Q⟩:=bW.fix d.objs;have bb:=Q.2.1;refine ak (λt:Sl×Nat=>(t.1,(t.2:Int))) (λt h'=>t.2<=m.objs.length/\Sp h h' [ai 5 t.1 1 ar (a++[b8 (m.objs.length:Nat)]++(m.objs.take t.2).flatMap go),aj a1 27 (az x)]) (λt=>m.objs.length-t.2) (s9,0) n2 ⟨n9,by simpa using R⟩ ?_;rintro⟨o,i⟩ bd ⟨hi,j⟩;dsimp only at*;refine ae (λe=>?_) (λe=>?_)
 .have q:i<m.objs.length:=n3
  have ax:=gA.up Q j.ac;have ay:=My A q;have u:((m.objs.take i).flatMap go).length<=50000:=by have h1:=uN A i hi;have:=tW A;have:i*4000<=12*4000:=zo _ n3;omega
  refine ax.1.cH (g:=aT) i n2 n3 (P[i]'n3) n2 ?_;refine j.alloc af n2 λbk a9 W=>?_;refine W.storeAll af 2 n2 n2 (aT (P[i]'n3)) n2 n2 n2 n2 λao f=>?_;have a0:=gA.up Q f.ac;obtain⟨⟨y,y2,Z⟩,y4⟩:=Fix.row a0 q;obtain⟨E,hE⟩:=I3 (m.objs[i])
  rw[<-hE]at y y2 Z y4 ay;have w:=f.box 2 n2;refine aE ⟨E.name,A5,E.name,A5,?_⟩;rw[bT];refine f.ir af ar cN n2 [b8 (E.name.size:Nat)] n2 (show 1*1<=2^20 by decide) n2 ⟨A5,A5,I4⟩ ?_;have N:(a++[b8 (m.objs.length:Nat)]++(m.objs.take i).flatMap go).length<=160000:=by rw[qq,qq,ah];simp;simp at u;omega
  obtain⟨s,H⟩:=I3 (a++[b8 (m.objs.length:Nat)]++(m.objs.take i).flatMap go)
  rw[<-H]at f N;refine f.push af 0 n2 cN n2 n4 (λ_=>rfl) cD (b8 (E.name.size:Nat)) n2 n4 n3 λbr a7 G=>?_;have F:=G.box 2 n2;refine⟨⟨by rw[<-y];exact F.cell0 n2,by rw[<-y];exact F.cell0 n2,I4⟩,?_⟩;refine G.Jt af 0 n2 cN ⟨_,n2,n2⟩ n2 n4 E.name n7 λal bl B=>?_;have z:=B.box 2 n2;refine⟨⟨by rw[<-y];exact z.cell0 n2,I4⟩,?_⟩;refine aE ⟨E.object,by rw[<-y2];exact z.cell n2,E.length,by rw[<-Z];exact z.cell n2,?_⟩;have a5:=tH E.name;refine(ri al _ E.object 3 n4 n7 B).I2 λO a4 M=>?_;have X:=M.box 2 n2;refine⟨O,n2,⟨by rw[<-Z];exact X.cell n2,I4⟩,?_⟩;refine(ri O _ E.length 2 n4 p9 M).I2 λK bq I=>?_;have T:=I.box 2 n2;refine⟨K,n2,I4,(P[i]'n3).2.2.2,T.cell n2,?_⟩;refine sG (P[i]'n3).2.2.2 E.tries K _ I (St.mk' λh' L=>by rw[hE];exact(Fix.row (gA.up Q L.ac) q).2) p9 n3 λV a8 J=>?_
  try dsimp only
  have ao:=tW A;refine⟨(V,i+1),n8,⟨n5,?_⟩,n5⟩
  try dsimp only
  rw[aC _ _ q,ze,<-qo,<-H,zA,wB,qR,<-hE];have e3:s++[b8 (E.name.size:Nat)]++iK E.name++cz E.object 3++cz E.length 2++E.tries.map b8=s++go E:=by unfold go iK;simp[qo]
  rw[e3]at J;exact J.bs [0,1]
 .rw[qh n3]at j;refine⟨o,n2,?_⟩;have e2:a++[b8 (m.objs.length:Nat)]++m.objs.flatMap go=gC m:=by rw[b];unfold gC;rw[A,l0 rfl];simp[qo]
  rw[e2]at j;exact j.bs [0]
def ib{α:Type}(k:Nat)(f:α->aR)(L:List (Sl×List α)):HP:=⟨λh q=>∀y∈L,Seq h q y.1 k f y.2,λa d y b=>(a y b).ac d,λa c y b=>(a y b).mono c⟩
variable {α:Type} {k:Nat} {L:List (Sl×List α)} {s:Sl} {l:List α}
section
variable {f:α->aR}
theorem aa.Ax(H:aa B h0 h As)(k:Nat)(f:α->aR):aa B h0 h (ib k f []::As):=
 (H.comp (.one (A:=ib k f []) (aP.refl _ _) λy a=>E3)).bf
theorem aa.IK(H:aa B h0 h (ib k f L::vz s k f l::As)):aa B h0 h (ib k f ((s,l)::L)::As):=by
 have g:=H.jW;refine g.dG 0 n2 λq ⟨i,j,_,b,c,d,e⟩ y a=>?_;rcases qQ.1 a with rfl|a
 .exact d.mono b
 .exact(e y a).mono c
end
theorem acn(n:Int):cz n 4=[b8 (zr n (2^24)),b8 (zr n (2^16)),b8 (zr n (2^8)),b8 n]:=by
 have e:zr n (2^0)=n:=n9
 show[b8 (zr n (2^24)),b8 (zr n (2^16)),b8 (zr n (2^8)),b8 (zr n (2^0))]=_;rw[e]
theorem UO(seq a c:Int)(b:Sl)(l:aS)(h:hY)(n:Rd h b 1 ar l)(w:n1 l<=2^20):an xZ 124 #[xP xV seq,xP xV a,xP xV c,b] h λv h'=>∃r:Sl,v=r/\Sp h h' [ai 5 r 1 ar (od seq a c l)]:=by
 refine ts Tryz.func124 ?_;refine⟨n4,n4,n4,?_⟩;have g:min (24:Int).toNat (qx xV)=24:=rfl;have i:min (16:Int).toNat (qx xV)=16:=rfl;have s:min (8:Int).toNat (qx xV)=8:=rfl;rw[g,i,s,bT,bT,bT,bT,bT,bT,bT];have d:=acn seq;generalize b8 (zr seq (2^24))=c1 at d⊢;generalize b8 (zr seq (2^16))=c2 at d⊢;generalize b8 (zr seq (2^8))=c3 at d⊢;generalize b8 seq=c4 at d⊢;have e:od seq a c l=eV 2 ([c1,c2,c3,c4]++([b8 a,b8 c,b8 (b.len:Nat)]++l)):=by unfold od;rw[d,n.len]
 generalize b8 a=c5 at e⊢;generalize b8 c=c6 at e⊢;generalize b8 (b.len:Nat)=c7 at e⊢;refine(Sp.refl h).lit af ar cN n2 [c1,c2,c3,c4,c5,c6,c7] n2 (show 7*1<=2^20 by decide) o0 λx u p=>?_;refine p.append af 0 n2 cN ⟨_,_,n2,n2⟩ n2 n4 (λ_=>rfl) (Seq.up n p.ac) cD n7 λq m k=>?_;have o:Rd m q 1 ar ([c1,c2,c3,c4,c5,c6,c7]++l):=k.seq 0 n2 λ_=>rfl;have f:([c1,c2,c3,c4,c5,c6,c7]++l).length<=2^40:=n7
 rw[e];have j:[c1,c2,c3,c4,c5,c6,c7]++l=[c1,c2,c3,c4]++([c5,c6,c7]++l):=rfl;rw[<-j];generalize [c1,c2,c3,c4,c5,c6,c7]++l=ll at o f⊢;refine(Dh 2 q ll m o f).I2 λr h3 t=>⟨r,n2,r,n2,(aa.comp (Sp.zip k.ac) t)⟩
theorem mY(x:aY)(m:aA)(h:hY)(w:cj h x m)(y:bG m):an xZ 53 #[cu x] h λv h'=>∃r:Sl,v=r/\Sp h h' [cg r (bI m)]:=by
 refine ts Tryz.func53 ?_ (G7 (G7 (G7 (G7 (Hf [(5,bN),(16,aH)] [(5,8),(16,39)]))))) (args:=[x]);refine(Sp.refl h).boxed λO E u=>?_;refine⟨x,(u.box 0 n2).aw _ n2,(UN x m E (w.up u.ac) y).I2 λb S J=>?_⟩;have g:=u.comp J;have j:=tZ m y;obtain⟨l,p⟩:=I3 (gC m)
 rw[<-p]at g j;have K:=(g.own 1 n2).len;have s:=(g.own 1 n2).cap;refine⟨b,n2,n4,?_⟩;have d:qe xV (yD (qe xV ((qe xV (((b.len:Nat):Int)+(48:Int)))-(1:Int))) (48:Int))=(fj l:Int):=by rw[ag ((b.len:Int)+48),ag ((b.len:Int)+48-1),yH n3];unfold fj;rw[ag (((b.len:Int)+48-1)/48)];omega
 have G:fj l<=3000:=by unfold fj;omega
 rw[d];obtain⟨f,c⟩:∃f:dS,f=bI m:=⟨_,rfl⟩
 have D:n1 f=fj l:=by rw[c,p];simp[bI]
 have a:=g.kc 41 5 1 ar;refine ak (λt:Sl×Nat=>(t.1,(t.2:Int))) (λt h'=>t.2<=fj l/\Sp h h' [cg t.1 (f.take t.2),aj O 27 (az x),ai 5 b 1 ar l]) (λt=>fj l-t.2) (⟨dB,0,0⟩,0) n2 ⟨n9,a⟩ ?_;rintro⟨o,i⟩ h3 ⟨T,a⟩;dsimp only at*;refine ae (λe=>?_) (λe=>?_)
 .have k:i<fj l:=n3
  have B:48*i<n1 l:=by unfold fj at k;omega
  rw[ag ((i:Int)*48),ag ((i:Int)+1),ag (((i:Int)+1)*48)];obtain⟨en,F⟩:∃en:Nat,en=min (48*i+48) l.length:=⟨_,rfl⟩
  have q:(if((i:Int)+1)*48<((b.len:Nat):Int)then((i:Int)+1)*48 else((b.len:Nat):Int))=(en:Int):=by split<;>omega
  rw[q];refine⟨m.seq,by rw[<-w.seq];exact(a.box 1 n2).cell0 n2,⟨n3,n3,n3⟩,?_⟩;have L:((i:Int)*48).toNat=48*i:=n3
  rw[L,qj];have z:=((a.seq 2 n2 λ_=>rfl).drop (48*i) s).take (en-48*i) pb;have e2:(l.drop (48*i)).take (en-48*i)=(l.drop (48*i)).take 48:=by
   by_cases R:48*i+48<=n1 l
   .rw[show en-48*i=48 by omega]
   .rw[qh pb,qh pb]
  rw[e2,zM]at z;refine(UO m.seq i (fj l) ⟨_,en-48*i,b.cap-48*i⟩ _ h3 (by rw[zM];exact z) n7).I2 λr P M=>?_;have A:=(a.bV M).aF 4 [1,0,2,3];refine⟨r,n2,I4,?_⟩;refine A.ir af bv cM n2 [r] n2 (show 1*1<=2^20 by decide) n2 I4 ?_;refine A.nG af cM n7 λI Q N=>⟨I4,?_⟩
  refine⟨(I,i+1),n2,⟨n5,?_⟩,n5⟩
  try dsimp only
  rw[aC _ _ (show i<n1 f by omega)];have H:f[i]'n3=od m.seq i (fj l) ((l.drop (48*i)).take 48):=by subst c;subst p;simp[bI]
  rw[H];exact N
 .rw[qh n3,c]at a;exact⟨o,n2,a.bs [0]⟩
theorem Ox(s:Sl)(a:List dg)(h:hY)(b:Rd h s 4 aT a)(d:n1 a<=2^30):an xZ 182 #[s] h λv h'=>∃r:Sl,v=r/\Sp h h' [ai 59 r 4 aT a]:=by
 refine ts Tryz.func182 ?_;refine aU (λe=>?_) (λe=>?_)
 .have:=b.isNil e;subst this;exact⟨⟨dB,0,0⟩,n2,(Sp.refl h).nil 59 4 aT⟩
 .refine(Sp.refl h).lit af aT kQ n2 ([]:List dg) n2 n4 n2 λi k c=>?_;refine c.append af 0 n2 kQ ⟨_,_,n2,n2⟩ n2 n4 (λ_=>rfl) (Seq.up b c.ac) ow n7 λg j f=>?_;exact⟨g,n2,f⟩
def Bo(pool:List (Sl×aD))(p:dg×Qw.cS):Prop:=(p.1.1=p.2.name/\p.1.2.1=p.2.object/\p.1.2.2.1=p.2.length)/\(p.1.2.2.2,p.2.tries)∈pool
theorem aa.ua{B:au}{n h:hY}{As:List HP}{y:aY}{m:aA}{L:List (dg×Qw.cS)}{pool:List (Sl×aD)}(d:y.1=m.seq/\y.2.1=m.next/\(y.2.2.1,y.2.2.2.1,y.2.2.2.2.1)=m.p/\y.2.2.2.2.2.1=m.extra)(l:L.map zk=m.objs)(s:∀p∈L,Bo pool p)
  (H:aa B n h (ib 1 aq pool::ai 3 y.2.2.2.2.2.2.1 1 aq m.drives::ai 59 y.2.2.2.2.2.2.2 4 aT (L.map qF)::As)):aa B n h (be y m::As):=by
 have k:=(H.own 2 n2)
 have i:=(H.own 1 n2)
 have v:=((H.freeze 1 n2 λ_=>rfl).freeze 2 n2 λ_=>rfl).jW.jW;refine v.dG 0 n2 λq ⟨E,F,_,b,c,A,o⟩=>?_;obtain⟨G,I,_,t,D,z3,z4⟩:=o;refine⟨d.1,d.2.1,d.2.2.1,d.2.2.2,z3.mono λx g=>c x (t x g),⟨L.map qF,A.mono b,by rw[<-l];simp,λj r e a f=>?_⟩,i.cap,k.cap⟩;rw[<-l]at f;rw[qP]at a f;cases hj:L[j]? with
 |none=>rw[hj]at a;cases a
 |some p=>
  rw[hj]at a f;have z:=wm.inj (show cO p.1=cO r from a);have e2:=wm.inj (show cO p.2=cO e from f);subst z;subst e2;obtain⟨u,w⟩:=s p (zN hj);exact⟨u,(z4 _ w).mono λx g=>c x (D x g)⟩
theorem pJ(x:aY)(m:aA)(h:hY)(A:cj h x m)(I:bG m):an xZ 111 #[cu x] h λv h'=>∃(y:aY) (L:List (dg×Qw.cS)) (pool:List (Sl×aD)),v=cu y/\(y.1=m.seq/\y.2.1=m.next/\(y.2.2.1,y.2.2.2.1,y.2.2.2.2.1)=m.p/\y.2.2.2.2.2.1=m.extra)/\L.map zk=m.objs/\(∀p∈L,Bo pool p)/\
  Sp h h' [ib 1 aq pool,ai 3 y.2.2.2.2.2.2.1 1 aq m.drives,ai 59 y.2.2.2.2.2.2.2 4 aT (L.map qF)]:=by
 refine ts Tryz.func111 ?_ (G7 (HF [] [(4,12)] (Hf [(15,aH)] [(3,4),(15,31)]))) [(1,(.l [0,1,3,4,2,6,5,7,8,9]))] (args:=[x]);refine(Sp.refl h).boxed λU k H1=>?_;refine H1.alloc af n2 λT w H=>?_;have D:=H.box 0 n2;have hM:∀{h':hY} {As:List HP},Sp h h' As->cj h' x m:=λ{h' As} H'=>A.up H'.ac;obtain⟨b,P⟩:=bW.fix A.objs;have al:=P.2.1;have Z:=I.dr;have ad:=I.ob;refine aE ⟨x.2.2.2.2.2.2.1,D.cell n2,x.2.2.2.2.2.2.2,D.cell n2,?_⟩;refine(jG _ m.drives w (hM H).drives n3).I2 λd h3 R3=>?_;have N:=H.comp R3;refine⟨d,n2,⟨(N.box 0 n2).cell n2,I4⟩,?_⟩;refine(Ox _ b h3 (gA.up P N.ac).1 n3).I2 λo h4 X=>?_;have H4:=N.comp X;refine⟨o,n2,I4,?_⟩;refine H4.store af 0 n2 n2 6 [d] n2 n2 n2 o8 λh5 H5=>⟨I4,?_⟩
 refine H5.store af 0 n2 n2 7 [o] n2 n2 n2 o8 λh6 s=>⟨I4,?_⟩
 obtain⟨y,u⟩:∃y:aY,y=(x.1,x.2.1,x.2.2.1,x.2.2.2.1,x.2.2.2.2.1,x.2.2.2.2.2.1,d,o):=⟨_,rfl⟩
 have s:Sp h h6 [aj U 27 (az y),aj T 27 [xP xV 0,xP xV 0,xP xV 0,xP xV 0,xP xV 0,xP xV 0,xQ dB 0 0,xQ dB 0 0],ai 3 d 1 aq m.drives,ai 59 o 4 aT b]:=by rw[u];exact s
 have c:y.2.2.2.2.2.2.2=o:=by rw[u]
 have M:y.2.2.2.2.2.2.1=d:=by rw[u]
 refine⟨o,by rw[<-c];exact(s.box 0 n2).cell n2,?_⟩;have ah:=(s.own 3 n2).len;have s:=s.Ax 1 aq;refine ak (λt:List dg×List (Sl×aD)=>(t.1.length:Int)) (λt h'=>t.1.length<=m.objs.length/\(∀(j:Nat) r e,t.1[j]?=cO r->m.objs[j]?=cO e->(r.1=e.name/\r.2.1=e.object/\r.2.2.1=e.length)/\(r.2.2.2,e.tries)∈t.2)/\Sp h h' [ib 1 aq t.2,aj U 27 (az y),aj T 27 [xP xV 0,xP xV 0,xP xV 0,xP xV 0,xP xV 0,xP xV 0,xQ dB 0 0,xQ dB 0 0],ai 3 d 1 aq m.drives,ai 59 o 4 aT (t.1++b.drop t.1.length)]) (λt=>m.objs.length-t.1.length) ([],[]) n2 ⟨n9,λj r e k=>by simp at k,s⟩ ?_;rintro⟨a,pool⟩ h7 ⟨hi,E,q⟩;dsimp only at*;refine ae (λe=>?_) (λe=>?_)
 .have z:a.length<m.objs.length:=n3
  have F7:=gA.up P q.ac;obtain⟨⟨y1,y2,y3⟩,y4⟩:=Fix.row F7 z;have f:(a++b.drop a.length)[a.length]'(by simp;omega)=b[a.length]'n3:=n9
  obtain⟨Q,Y,zz,hc,rfl⟩:=(q.seq 4 rfl λ_=>rfl).cH (g:=aT) (i:=(a.length:Int)) a.length rfl n7 (b[a.length]'n3) (by rw[f]) (K:=λt=>t=b[a.length]'n3) n2;refine⟨o,by rw[<-c];exact(q.box 1 n2).cell n2,o,by rw[<-c];exact(q.box 1 n2).cell n2,Q,Y,_,hc.2.2.2.1,?_⟩;have V:=(I.nm _ (qf z)).2;refine(jG _ m.objs[a.length].tries h7 y4 n3).I2 λt h8 W=>?_;have B:=q.bV W;refine⟨t,n2,⟨by rw[<-c];exact(B.box 2 n2).cell n2,by rw[<-c];exact(B.box 2 n2).cell n2,I4⟩,?_⟩;refine B.CG af 5 n2 (λ_=>rfl) n2 a.length n2 n7 3 [t] n9 ((b[a.length]'n3).1,(b[a.length]'n3).2.1,(b[a.length]'n3).2.2.1,t) n2 n2 n2 (by rw[f];simp[aT]) λh9 G=>⟨I4,?_⟩
  have G:=(G.freeze 0 n2 λ_=>rfl).aF 6 [1,0,2,3,4,5];have G:=G.IK;refine⟨(a++[((b[a.length]'n3).1,(b[a.length]'n3).2.1,(b[a.length]'n3).2.2.1,t)],(t,m.objs[a.length].tries)::pool),by simp only[qq,List.length_singleton];rw[ag _];rfl,⟨n7,λj r e k w=>?_,?_⟩,n7⟩
  .dsimp only at k⊢;by_cases S:j<a.length
   .rw[qw S]at k;obtain⟨g1,g2⟩:=E j r e k w;exact⟨g1,List.mem_cons_of_mem _ g2⟩
   .have R:j=a.length:=by have:=(qm.1 k).1;simp at this;omega
    subst R;rw[ql (qk _),zh]at k;simp at k;rw[qd z]at w;injection w with w
    subst k;subst w;exact⟨⟨y1,y2,y3⟩,List.mem_cons_self⟩
  .try dsimp only
   have e4:(a++b.drop a.length).set a.length ((b[a.length]'n3).1,(b[a.length]'n3).2.1,(b[a.length]'n3).2.2.1,t)=a++[((b[a.length]'n3).1,(b[a.length]'n3).2.1,(b[a.length]'n3).2.2.1,t)]++b.drop (a++[((b[a.length]'n3).1,(b[a.length]'n3).2.1,(b[a.length]'n3).2.2.1,t)]).length:=by rw[za _ _ (qk _),zh,qW (show a.length<b.length by omega),zx];simp
   rw[<-e4];exact G
 .have ab:a.length=m.objs.length:=n3
  rw[zl n3,qR]at q;refine⟨y,(q.box 1 n2).aw _ n2,?_⟩;refine q.storeAll af 2 n2 n2 (az y) n2 n2 n2 n2 λh8 B=>?_;have J:(a.zip m.objs).map qF=a:=List.map_fst_zip n3;have O:(a.zip m.objs).map zk=m.objs:=xp n3;refine⟨y,(B.box 2 n2).aw _ n2,y,a.zip m.objs,pool,n2,⟨by rw[u];exact A.seq,by rw[u];exact A.next,by rw[u];exact A.p,by rw[u];exact A.extra⟩,O,λp hp=>?_,?_⟩
  .obtain⟨j,S,rfl⟩:=qE hp;have F:j<a.length/\j<m.objs.length:=by simp at S;omega
   have:=E j _ _ (qd F.1) (qd F.2);rw[yt];exact this
  .rw[J,M,c];exact B.bs [0,3,4]
theorem GM(x:aY)(m:aA)(h:hY)(a:cj h x m)(c:bG m):an xZ 111 #[cu x] h λv h'=>∃y:aY,v=cu y/\Sp h h' [be y m]:=by refine(pJ x m h a c).mono ?_;rintro _ h' ⟨y,L,pool,rfl,d,e,b,H⟩;exact⟨y,n2,aa.ua d e b H⟩
abbrev bw:=Int×Int×Int×Int×Int×Int×Int×Sl
abbrev bB(x:bw):aR:=[xP xV x.1,xP xV x.2.1,xP xV x.2.2.1,xP xV x.2.2.2.1,xP xV x.2.2.2.2.1,xP xV x.2.2.2.2.2.1,xP xX x.2.2.2.2.2.2.1,x.2.2.2.2.2.2.2]
abbrev recv(x:bw):Value:=xU #[xP xV x.1,xP xV x.2.1,xP xV x.2.2.1,xP xV x.2.2.2.1,xP xV x.2.2.2.2.1,xP xV x.2.2.2.2.2.1,xP xX x.2.2.2.2.2.2.1,x.2.2.2.2.2.2.2]
theorem Qm:∀x,∀c∈bB x,c.oneCell'=eH:=by intro x c a;simp[bB]at a;rcases a with rfl|rfl|rfl|rfl|rfl|rfl|rfl|rfl<;>rfl
def kf(x y:Int):Int:=if x<y then-1 else if x>y then 1 else 0
def lO(a b:bw):Int:=if kf a.1 b.1≠0 then kf a.1 b.1 else if kf a.2.1 b.2.1≠0 then kf a.2.1 b.2.1 else kf a.2.2.1 b.2.2.1
def cF(a b:bw):Bool:=decide (lO a b<=0)
theorem jr(x y:Int):(x<y/\kf x y=-1)∨(x>y/\kf x y=1)∨(x=y/\kf x y=0):=by
 unfold kf;by_cases a:x<y
 .exact .inl ⟨a,l0 a⟩
 .by_cases b:x>y
  .exact .inr (.inl ⟨b,by rw[m6 a,l0 b]⟩)
  .exact .inr (.inr ⟨n3,by rw[m6 a,m6 b]⟩)
theorem Ay(a b:bw):lO a b<=0↔a.1<b.1∨(a.1=b.1/\(a.2.1<b.2.1∨(a.2.1=b.2.1/\a.2.2.1<=b.2.2.1))):=by
 unfold lO;rcases jr a.1 b.1 with⟨h1,e1⟩|⟨h1,e1⟩|⟨h1,e1⟩
 .rw[e1,l0 n4];omega
 .rw[e1,l0 n4];omega
 .rw[e1,m6 n4];rcases jr a.2.1 b.2.1 with⟨h2,e2⟩|⟨h2,e2⟩|⟨h2,e2⟩
  .rw[e2,l0 n4];omega
  .rw[e2,l0 n4];omega
  .rw[e2,m6 n4];rcases jr a.2.2.1 b.2.2.1 with⟨h3,e3⟩|⟨h3,e3⟩|⟨h3,e3⟩<;>rw[e3]<;>omega
theorem pK(a b:bw):lO a b<0↔¬cF b a=eH:=by
 unfold cF;rw[decide_eq_true_eq,Ay];unfold lO;rcases jr a.1 b.1 with⟨h1,e1⟩|⟨h1,e1⟩|⟨h1,e1⟩
 .rw[e1,l0 n4];omega
 .rw[e1,l0 n4];omega
 .rw[e1,m6 n4];rcases jr a.2.1 b.2.1 with⟨h2,e2⟩|⟨h2,e2⟩|⟨h2,e2⟩
  .rw[e2,l0 n4];omega
  .rw[e2,l0 n4];omega
  .rw[e2,m6 n4];rcases jr a.2.2.1 b.2.2.1 with⟨h3,e3⟩|⟨h3,e3⟩|⟨h3,e3⟩<;>rw[e3]<;>omega
theorem UP(a b:bw):lO a b=0↔(a.1=b.1/\a.2.1=b.2.1/\a.2.2.1=b.2.2.1):=by
 unfold lO;rcases jr a.1 b.1 with⟨h1,e1⟩|⟨h1,e1⟩|⟨h1,e1⟩
 .rw[e1,l0 n4];omega
 .rw[e1,l0 n4];omega
 .rw[e1,m6 n4];rcases jr a.2.1 b.2.1 with⟨h2,e2⟩|⟨h2,e2⟩|⟨h2,e2⟩
  .rw[e2,l0 n4];omega
  .rw[e2,l0 n4];omega
  .rw[e2,m6 n4];rcases jr a.2.2.1 b.2.2.1 with⟨h3,e3⟩|⟨h3,e3⟩|⟨h3,e3⟩<;>rw[e3]<;>omega
theorem eE:Ord cF:=⟨λa b c e d=>by
 unfold cF at*;rw[decide_eq_true_eq,Ay]at*;omega,λa b=>by
 unfold cF;rw[Bool.or_eq_true,decide_eq_true_eq,decide_eq_true_eq,Ay,Ay];omega⟩
theorem MB{α:Type}(A B C:List α)(x y:α){i j:Nat}(c:i=n1 A)(b:j=n1 A+1+n1 B):
  (A++x::(B++y::C))[i]?=cO x/\(A++x::(B++y::C))[j]?=cO y/\((A++x::(B++y::C)).set i y).set j x=A++y::(B++x::C)/\((A++x::(B++y::C)).set j x).set i y=A++y::(B++x::C):=by
 subst c;subst b;have a:n1 A+1+n1 B-n1 A=n1 B+1:=n3
 refine⟨by rw[ql (qk _),zh];rfl,?_,?_,?_⟩
 .rw[ql n3,a,qX,ql (qk _),zh];rfl
 .rw[za _ _ (qk _),zh,zx,za _ _ n3,a,yb,za _ _ (qk _),zh,zx]
 .rw[za _ _ (show A.length<=n1 A+1+n1 B by omega),a,yb,za _ _ (qk _),zh,zx,za _ _ (qk _),zh,zx]
abbrev Bp:bS C.toAk 156 144 8 [xP xV 0,xP xV 0,xP xV 0,xP xV 0,xP xV 0,xP xV 0,xP xX 0,xQ dB 0 0] 80:=⟨_,_,n2,n2,n2,n2,n2,n2⟩
theorem sg(x y:Int)(h:hY):an xZ 218 #[xP xV x,xP xV y] h λv h'=>v=xP xV (kf x y)/\h'=h:=by
 refine ts Tryz.func218 ?_;have a:∀z:Int,an xZ 283 #[xP xV z] h λv h'=>v=xT eL/\h'=h:=λz=>by
  refine ts Tryz.func283 ?_;exact⟨n9,n2⟩
 refine(a x).I0 ⟨_,n2,(a y).I0 ?_⟩;refine⟨_,n2,aU (λe=>oj) λ_=>aU (λe=>oj) λ_=>?_⟩;refine ae (λe=>⟨by rw[kf,l0 e],n2⟩) λe=>ae (λe2=>⟨by rw[kf,m6 e,l0 e2],n2⟩) λe2=>⟨by rw[kf,m6 e,m6 e2],n2⟩
theorem oU(a b:bw)(h:hY):an xZ 186 #[recv a,recv b] h λv h'=>v=xP xV (lO a b)/\Sp h h' []:=by
 refine ts Tryz.func186 ?_ E9 [(1,(.l [0,1,2,3,5,6,7,8,10,11,12,13,4,9,14,15,16,17]))] (args:=[a,b]);refine(Sp.refl h).boxed λE J I=>I.boxed λz k o=>?_;have x:=o.box 0 n2;have s:=o.box 1 n2;have A:hU k (E.add 1)=cO (xP xV a.2.1):=x.cell n2;have y:hU k (z.add 1)=cO (xP xV b.2.1):=s.cell n2;have c3:hU k (E.add 2)=cO (xP xV a.2.2.1):=x.cell n2;have t:hU k (z.add 2)=cO (xP xV b.2.2.1):=s.cell n2;refine⟨a.1,x.cell0 n2,b.1,s.cell0 n2,a.2.1,A,b.2.1,y,a.2.2.1,c3,b.2.2.1,t,(sg _ _ k).I0 ?_⟩;refine⟨_,n2,⟨t,c3,y,A,I4⟩,(sg _ _ _).I0 ?_⟩;refine⟨_,n2,⟨t,c3,I4⟩,(sg _ _ _).I0 ?_⟩;refine⟨_,n2,I4,?_⟩;refine o.ir af aq ⟨_,_,n2,n2,n2,n2,n2,n2⟩ n2 [kf a.1 b.1,kf a.2.1 b.2.1,kf a.2.2.1 b.2.2.1] n2 (show 3*1<=2^20 by decide) n2 I4 ?_;refine o.lit af aq ⟨_,_,n2,n2,n2,n2,n2,n2⟩ n2 [kf a.1 b.1,kf a.2.1 b.2.1,kf a.2.2.1 b.2.2.1] n2 (show 3*1<=2^20 by decide) n2 λq B p=>?_;refine(Aw q (R:=λv h'=>v=xP xV (lO a b)/\h'=B) ?_).mono ?_
 .skip
  have D:=p.seq 2 n2 λ_=>rfl;have F:=(p.own 2 n2).len;obtain⟨L,d⟩:=I3 ([kf a.1 b.1,kf a.2.1 b.2.1,kf a.2.2.1 b.2.2.1])
  rw[<-d]at D F;have G:n1 L=3:=by rw[d];rfl
  refine ak (λi:Nat=>(i:Int)) (λi h'=>i<=3/\(∀j,j<i->L[j]?=cO 0)/\h'=B) (λi=>3-i) 0 n2 ⟨n3,n3,n2⟩ ?_;rintro i H ⟨M,m,rfl⟩;have c:=λh0=>by have:=m 0 h0;rw[d]at this;simpa using this
  have g:=λh0=>by have:=m 1 h0;rw[d]at this;simpa using this
  have u:=λh0=>by have:=m 2 h0;rw[d]at this;simpa using this
  refine ae (λe=>?_) (λe=>?_)
  .have f:i<n1 L:=by have e':=e;omega
   refine D.aX i n2 f L[i] n2 ?_;refine bt (λe2=>⟨?_,n2⟩) (λe2=>?_)
   .congr 1;unfold lO;have:i=0∨i=1∨i=2:=n3
    subst d;rcases this with rfl|rfl|rfl
    .exact(l0 (e2)).symm
    .rw[m6 (by rw[c n3];simp)];exact(l0 (e2)).symm
    .rw[m6 (by rw[c n3];simp),m6 (by rw[g n3];simp)];rfl
   .refine⟨i+1,oi,⟨n3,λj N=>?_,n2⟩,n3⟩;by_cases w:j=i
    .subst w;rw[qd f,e2]
    .exact m j n3
  .have r:i=3:=by have e':=e;omega
   subst r;refine⟨?_,n2⟩;unfold lO;rw[c n3,g n3,u n3];rfl
 .rintro _ H ⟨rfl,rfl⟩;exact⟨_,n2,I4,n2,.zip p.ac⟩
abbrev bU(s:Sl)(d:List bw):HP:=ai 144 s 8 bB d
section
variable {d:List bw}
theorem pL(X U M V Y:List bw)(n:Nat)(a b:Int)(Q:n1 U=n)(O:n1 V=n)(J:a=(n1 X:Int))(G:b=(n1 X+n+n1 M:Nat))(I:n1 X+n+n1 M+n+n1 Y<=2^40)(H:aa B h0 h (bU s (X++(U++(M++(V++Y))))::As)):
  an xZ 383 #[s,xP xV a,xP xV b,xP xV n,.func (.func 186) #[] #[]] h λv h'=>v=.tuple #[]/\aa B h0 h' (bU s (X++(V++(M++(U++Y))))::As):=by
 refine ts Tryz.func383 ?_ (G7 (F8 (G0 [(10,aH)] [(10,38)] E9))) (args:=[s,(a:Int),(b:Int),(n:Int),(.func (.func 186) #[] #[])]);subst J;subst G;refine ak (λk:Nat=>(k:Int)) (λk h'=>k<=n/\aa B h0 h' (bU s (X++(V.take k++U.drop k++(M++(U.take k++V.drop k++Y))))::As)) (λk=>n-k) 0 n2 ⟨n3,u7⟩ ?_;rintro k N ⟨P,f⟩;refine ae (λe=>?_) (λe=>?_)
 .have K:k<n:=n3
  have m:k<n1 U:=n3
  have l:k<n1 V:=n3
  have d:X++(V.take k++U.drop k++(M++(U.take k++V.drop k++Y)))=(X++V.take k)++U[k]::((U.drop (k+1)++(M++U.take k))++V[k]::(V.drop (k+1)++Y)):=by rw[qW m,qW l];simp only[qo,zI,w8]
  have c:X++(V.take (k+1)++U.drop (k+1)++(M++(U.take (k+1)++V.drop (k+1)++Y)))=(X++V.take k)++V[k]::((U.drop (k+1)++(M++U.take k))++U[k]::(V.drop (k+1)++Y)):=by rw[aC V k l,aC U k m];simp only[qo,zI,w8]
  rw[d]at f;obtain⟨u,w,x,L⟩:=MB (X++V.take k) (U.drop (k+1)++(M++U.take k)) (V.drop (k+1)++Y) U[k] V[k] (i:=n1 X+k) (j:=n1 X+n+n1 M+k) n7 n7;obtain⟨D,y⟩:=I3 ((X++V.take k)++U[k]::((U.drop (k+1)++(M++U.take k))++V[k]::(V.drop (k+1)++Y)))
  rw[<-y]at f u w x L;have r:=(qm.1 u)
  have p:=(qm.1 w)
  obtain⟨o,t⟩:=r;obtain⟨g,q⟩:=p;have z:qe xV ((n1 X:Int)+k)=((n1 X+k:Nat):Int):=o6
  have F:qe xV (((n1 X+n+n1 M:Nat):Int)+k)=((n1 X+n+n1 M+k:Nat):Int):=o6
  rw[z,F];refine(f.seq 0 n2 λ_=>rfl).cH _ n2 g V[k] (by rw[q]) ?_;refine(f.seq 0 n2 λ_=>rfl).cH _ n2 o U[k] (by rw[t]) ?_;refine f.set af 0 n2 (λ_=>rfl) n2 (n1 X+k) n2 o V[k] n2 n2 n2 λR A=>⟨I4,?_⟩
  refine A.set af 0 n2 (λ_=>rfl) n2 (n1 X+n+n1 M+k) n2 D9 U[k] n2 n2 n2 λh3 E=>⟨I4,?_⟩
  refine⟨k+1,oi,⟨n3,?_⟩,n3⟩;rw[c,<-x];exact E
 .have:k=n:=n3
  subst this;rw[qh n3,zl n3,qh n3,zl n3]at f;refine⟨n2,?_⟩;simpa using f
theorem Oy(X U V Y:List bw)(a m b:Int)(F:0<n1 U)(D:0<n1 V)(L:a=(n1 X:Int))(y:m=(n1 X+n1 U:Nat))(G:b=(n1 X+n1 U+n1 V:Nat))(K:n1 X+n1 U+n1 V+n1 Y<=2^40)(H:aa B h0 h (bU s (X++(U++(V++Y)))::As)):
  an xZ 370 #[s,xP xV a,xP xV m,xP xV b,.func (.func 186) #[] #[]] h λv h'=>v=.tuple #[]/\aa B h0 h' (bU s (X++(V++(U++Y)))::As):=by
 refine ts Tryz.func370 ?_ (G7 (G7 (E8 (F8 (G0 [(10,aH),(11,aH)] [(10,12),(18,50)] E9)) E9))) (args:=[s,(a:Int),(m:Int),(b:Int),(.func (.func 186) #[] #[])]);subst L;subst y;subst G;have I:qe xV (((n1 X+n1 U:Nat):Int)-n1 X)=(n1 U:Int):=o6
 have e2:qe xV (((n1 X+n1 U+n1 V:Nat):Int)-(n1 X+n1 U:Nat))=(n1 V:Int):=o6
 rw[I,e2];refine ak (λt:List bw×List bw×List bw×List bw=>((n1 t.2.1:Int),(n1 t.2.2.1:Int))) (λt h'=>0<n1 t.2.1/\0<n1 t.2.2.1/\X.length+n1 t.1+n1 t.2.1=n1 X+n1 U/\V++U=t.1++((t.2.2.1++t.2.1)++t.2.2.2)/\aa B h0 h' (bU s (X++(t.1++(t.2.1++(t.2.2.1++(t.2.2.2++Y)))))::As)) (λt=>n1 t.2.1+n1 t.2.2.1) ([],U,V,[]) n2 ⟨F,D,n9,n9,u7⟩ ?_;rintro⟨P,A,c,Q⟩ q ⟨N,O,y,p,u⟩;dsimp only at*;have f:=congrArg xz p;simp only[qq]at f;refine bt (λe=>ae (λE=>?_) λE=>?_) (λe=>?_)
 .--the left one is longer
  have r:n1 c<n1 A:=n3
  have z:A=A.take c.length++A.drop c.length:=(qD _ _).symm;have o:(A.take c.length).length=n1 c:=n7
  have g:qe xV (((n1 X+n1 U:Nat):Int)-n1 A)=((X++P).length:Int):=by rw[ag _];simp;omega
  rw[g];have d:aa B h0 q (bU s ((X++P)++(A.take c.length++(A.drop c.length++(c++(Q++Y)))))::As):=by
   have:(X++P)++(A.take c.length++(A.drop c.length++(c++(Q++Y))))=X++(P++(A++(c++(Q++Y)))):=by
    conv=>rhs;rw[z]
    simp only[qo,zI,w8]
   rw[this];exact u
  refine(pL (X++P) (A.take c.length) (A.drop c.length) c (Q++Y) c.length _ _ o n2 n2 n7 n7 d).I1 λx k=>⟨(),n2,(P++c,A.drop c.length,A.take c.length,Q),?_,⟨p7,n5,p7,?_,?_⟩,p7⟩
  .try dsimp only
   rw[o,ag _];simp;omega
  .try dsimp only
   rw[p,qD];simp
  .try dsimp only
   have:X++((P++c)++(A.drop c.length++(A.take c.length++(Q++Y))))=(X++P)++(c++(A.drop c.length++(A.take c.length++(Q++Y)))):=n9
   rw[this];exact k
 .have r:n1 A<n1 c:=n3
  obtain⟨j,R⟩:=I3 (n1 c-n1 A)
  have M:c=c.take j++c.drop j:=(qD _ _).symm;have i:(c.drop j).length=n1 A:=n7
  have l:(c.take j).length=j:=n7
  have g:qe xV (((n1 X+n1 U:Nat):Int)-n1 A)=((X++P).length:Int):=by rw[ag _];simp;omega
  have J:qe xV ((qe xV (((n1 X+n1 U:Nat):Int)+n1 c))-n1 A)=(((X++P).length+n1 A+(c.take j).length:Nat):Int):=by rw[ag (((n1 X+n1 U:Nat):Int)+n1 c),ag _,l];simp;omega
  rw[g,J];have d:aa B h0 q (bU s ((X++P)++(A++(c.take j++(c.drop j++(Q++Y)))))::As):=by
   have:(X++P)++(A++(c.take j++(c.drop j++(Q++Y))))=X++(P++(A++(c++(Q++Y)))):=by
    conv=>rhs;rw[M]
    simp only[qo,zI,w8]
   rw[this];exact u
  refine(pL (X++P) A (c.take j) (c.drop j) (Q++Y) A.length _ _ n2 i n2 n2 n7 d).I1 λx k=>⟨(),n2,(P,c.drop j,c.take j,A++Q),?_,⟨n5,n5,n5,?_,?_⟩,n5⟩
  .try dsimp only
   rw[l,i,ag _];congr 1;omega
  .try dsimp only
   rw[p,qD];simp
  .try dsimp only
   have:X++(P++(c.drop j++(c.take j++((A++Q)++Y))))=(X++P)++(c.drop j++(c.take j++(A++(Q++Y)))):=n9
   rw[this];exact k
 .have w:n1 A=n1 c:=n3
  have g:qe xV (((n1 X+n1 U:Nat):Int)-n1 A)=((X++P).length:Int):=by rw[ag _];simp;omega
  rw[g];have d:aa B h0 q (bU s ((X++P)++(A++([]++(c++(Q++Y)))))::As):=by
   have:(X++P)++(A++([]++(c++(Q++Y))))=X++(P++(A++(c++(Q++Y)))):=n9
   rw[this];exact u
  refine(pL (X++P) A [] c (Q++Y) A.length _ _ n2 w.symm n2 n7 n7 d).I1 λx k=>⟨(),n2,n2,?_⟩;have:X++(V++(U++Y))=(X++P)++(c++([]++(A++(Q++Y)))):=by
   have:V++(U++Y)=(V++U)++Y:=n9
   rw[this,p];simp
  rw[this];exact k
end
theorem GN(l:aS)(x:UInt8):dq (l++[x])=dq l*256+x.toNat:=by unfold dq;rw[wF];rfl
theorem Bq:∀l:aS,n1 l<=4->0<=dq l/\dq l<4294967296/\(n1 l<=3->dq l<16777216)
 |[],_=>by simp[dq]
 |[a],_=>by have:=a.toNat_lt;simp only[dq,zS,xd];omega
 |[a,b],_=>by have:=a.toNat_lt;have:=b.toNat_lt;simp only[dq,zS,xd];omega
 |[a,b,c],_=>by have:=a.toNat_lt;have:=b.toNat_lt;have:=c.toNat_lt;simp only[dq,zS,xd];omega
 |[a,b,c,d],_=>by have:=a.toNat_lt;have:=b.toNat_lt;have:=c.toNat_lt;have:=d.toNat_lt;simp only[dq,zS,xd,zc,wQ];omega
 |_::_::_::_::_::_,h=>C4
theorem UQ(n x:Nat)(f:n<2^32:=by omega)(e:x<256:=by omega):qe xV (((qH (qx xV) (qe xV ((n:Int)*2^min (8:Int).toNat (qx xV)))|||qH (qx xV) (qe xV (x:Int))).toNat:Nat):Int)=(n:Int)*256+x:=by
 have d:min (8:Int).toNat (qx xV)=8:=rfl;rw[d];have c:qe xV ((n:Int)*2^8)=((n*256:Nat):Int):=by rw[Qw.ag _];omega
 have e2:qe xV (x:Int)=((x:Nat):Int):=Qw.ag _;rw[c,e2];have a:(qH (qx xV) ((n*256:Nat):Int)|||qH (qx xV) ((x:Nat):Int)).toNat=n*256+x:=by show((qH 64 ((n*256:Nat):Int)|||qH 64 ((x:Nat):Int):BitVec 64)).toNat=n*256+x;rw[BitVec.toNat_or,wM,wM,BitVec.toNat_ofNat,BitVec.toNat_ofNat,yZ n3,yZ n3];have:=Nat.shiftLeft_add_eq_or_of_lt (b:=x) (i:=8) n3 n;rw[Nat.shiftLeft_eq,show(2:Nat)^8=256 from rfl]at this;omega
 rw[a,Qw.ag _];omega
def cG:jg bw ct:=⟨λh q a b=>(a.1=b.object/\a.2.1=b.block/\a.2.2.1=b.id/\(a.2.2.2.1,a.2.2.2.2.1,a.2.2.2.2.2.1)=b.p/\a.2.2.2.2.2.2.1=b.seed/\0<=b.seed/\b.seed<4294967296)/\Seq h q a.2.2.2.2.2.2.2 1 ar b.data,λa d=>⟨a.1,a.2.ac d⟩,λa c=>⟨a.1,a.2.mono c⟩⟩
theorem ub{p q:au}(a b:Sl)(c d:aS)(h:hY)(f:Seq h p a 1 ar c)(e:Seq h q b 1 ar d):
  an xZ 241 #[a,b] h λv h'=>v=xT (decide (c=d))/\h'=h:=by
 refine ts Tryz.func241 ?_;refine Ef af ⟨_,n2,n2⟩ ⟨_,n2,n2⟩ ⟨_,n2,n2⟩ f (Ef af ⟨_,n2,n2⟩ ⟨_,n2,n2⟩ ⟨_,n2,n2⟩ e ⟨?_,n2⟩);rw[ByteArray.toList_mk,ByteArray.toList_mk];have:(c==d)=decide (c=d):=by rw[Bool.eq_iff_iff];simp
 rw[this]
theorem Sk(b:Sl)(c:aS)(h:hY)(i:Rd h b 1 ar c)(z:n1 c<=2^30)(f:b.len<=b.cap):
  an xZ 260 #[b] h λv h'=>(gD c=dB->v=.tuple #[xP xV 0,xQ dB 0 0,xT eL]/\Sp h h' [])/\
   ∀k x,gD c=cO (k,x)->∃r:Sl,v=.tuple #[xP xV k,r,xT eH]/\Sp h h' [ai 5 r 1 ar x]:=by
 refine ts Tryz.func260 ?_;have y:=i.len;refine bt (λe=>?_) (λe=>?_)
 .have:gD c=dB:=by unfold gD;rw[m6 λa=>e n3]
  rw[this];exact⟨λ_=>⟨n2,Sp.refl h⟩,λk x h=>t7⟩
 have l:n1 c=64:=n3
 have h3:3<n1 c:=n3
 refine i.nD 3 n2 h3 ((c.getD 3 0).toNat:Int) (by rw[getD_lt h3];rfl) λA n=>⟨⟨n4,n4,n3⟩,?_⟩
 have d:=(i.drop 4 f).take 55 n7;have p:((c.drop 4).take 55).length=55:=n7
 refine(fT ⟨_,55,b.cap-4⟩ ((c.drop 4).take 55) h d).I2 λr s o=>⟨r,n2,gI o.ac ⟨n,I4⟩,?_⟩;have w:=(c.getD 3 0).toNat_lt;rw[ag ((c.getD 3 0).toNat:Int)];refine(Dh ((c.getD 3 0).toNat:Int) r ((c.drop 4).take 55) s (o.seq 0 n2 λ_=>rfl)).I2 λq t u=>?_;have g:=o.comp u;refine⟨q,n2,(ub b q c _ t (i.up g.ac) (g.seq 1 n2 λ_=>rfl)).I0 ?_⟩;refine⟨_,n2,aI (λe2=>?_) λe2=>?_⟩
 .have m:c≠eV ((c.getD 3 0).toNat:Int) ((c.drop 4).take 55):=of_decide_eq_false e2;have:gD c=dB:=by unfold gD;rw[m6 λa=>m a.2.symm]
  rw[this];exact⟨λ_=>⟨n2,.zip g.ac⟩,λk x h=>t7⟩
 .have j:c=eV ((c.getD 3 0).toNat:Int) ((c.drop 4).take 55):=nq e2;have:gD c=cO (((c.getD 3 0).toNat:Int),(c.drop 4).take 55):=by unfold gD;rw[l0 ⟨l,j.symm⟩]
  rw[this];refine⟨λh=>t7,λk x a=>?_⟩;injection a with a
  injection a with hh1 hh2
  subst hh1;subst hh2;exact⟨r,n2,g.bs [0]⟩
theorem JM(b:Sl)(l:aS)(h:hY)(d:Rd h b 1 ar l)(o:n1 l<=4):an xZ 261 #[b] h λv h'=>v=xP xV (dq l)/\h'=h:=by
 refine ts Tryz.func261 ?_ (G7 (G7 (Hf [(3,aH),(8,aH)] [(3,4),(5,6),(8,18)])));have j:=d.len;refine ak (λi:Nat=>(dq (l.take i),(i:Int))) (λi h'=>i<=n1 l/\h'=h) (λi=>n1 l-i) 0 n2 ⟨n3,n2⟩ ?_;rintro i m ⟨p,rfl⟩
 try dsimp only
 refine ae (λe=>?_) (λe=>?_)
 .have a:i<n1 l:=n3
  refine d.aX i n2 a (l[i].toNat:Int) n2 ⟨n4,?_⟩;have c:=(Bq (l.take i) n7)
  have g:=c.2.2 n7;have k:=l[i].toNat_lt;obtain⟨n,f⟩:∃n:Nat,dq (l.take i)=(n:Int):=⟨(dq (l.take i)).toNat,n3⟩
  refine⟨i+1,?_,⟨n3,n2⟩,n3⟩;rw[aC _ _ a,GN,f,UQ n _,ag ((i:Int)+1)];rfl
 .rw[qh n3];exact⟨n2,n2⟩
theorem EN(x:bw)(r:ct)(h:hY)(A:fk cG h x r):an xZ 219 #[recv x] h λv h'=>v=xT (jL r)/\Sp h h' []:=by
 refine ts Tryz.func219 ?_ (G7 (HF [(3,mH)] [(3,32)] E9)) (args:=[x]);obtain⟨⟨G,e2,D,t,K,_⟩,I⟩:=A;have l:x.2.2.2.1=r.p.1:=congrArg (·.1) t;have q:x.2.2.2.2.1=r.p.2.1:=congrArg (·.2.1) t;have e:x.2.2.2.2.2.1=r.p.2.2:=congrArg (·.2.2) t;have a:=Seq.len I;refine(Sp.refl h).boxed λk i s=>?_;have j:=s.box 0 n2;have y:hU i k=cO (xP xV r.object):=by rw[<-G];exact j.cell0 n2
 have w:hU i (k.add 1)=cO (xP xV r.block):=by rw[<-e2];exact j.cell n2
 have u:hU i (k.add 2)=cO (xP xV r.id):=by rw[<-D];exact j.cell n2
 have z:∀{h':hY},Sp h h' [aj k 144 (bB x)]->(jL r=eH->False)->Value.bool eL=xT (jL r)/\Sp h h' []:=λ{h'} H' hn=>⟨by cases hq:jL r with|false=>rfl|true=>exact absurd hq hn,.zip H'.ac⟩
 refine bj (λb h'=>b=decide ((0<=r.object/\r.object<=16777215)/\(0<=r.block/\r.block<=7)/\(0<=r.id/\r.id<=65535))/\h'=i) ?_ ?_
 .refine⟨_,y,ae (λB=>⟨_,y,ae (λd=>⟨_,w,ae (λE=>⟨_,w,ae (λJ=>⟨_,u,ae (λF=>⟨_,u,?_,n2⟩) λF=>⟨?_,n2⟩⟩) λJ=>⟨?_,n2⟩⟩) λE=>⟨?_,n2⟩⟩) λd=>⟨?_,n2⟩⟩) λB=>⟨?_,n2⟩⟩
  .rw[decide_eq_decide];omega
  all_goals (symm;rw[decide_eq_false_iff_not];omega)
 .rintro _ _ ⟨rfl,rfl⟩;refine ae (λg=>?_) λg=>z s λo=>g (by have:=(jM r).1 o;omega);refine⟨r.p,by rw[<-l,<-q,<-e];exact j.lN 3 n2 n2 n2,(fc r.p _).I1 λh3 H=>?_⟩;have m:=s.up H.ac;have c:=m.box 0 n2;refine⟨_,n2,aU (λd=>?_) λd=>z m λo=>by have:=((jM r).1 o).2.2.2.1;rw[d]at this;cases this⟩;refine⟨x.2.2.2.2.2.2.2,c.cell n2,r.p.2.2,by rw[<-e];exact c.lF 3 2 n2,?_,.zip m.ac⟩;congr 1;by_cases f:(r.data.length:Int)=r.p.2.2
  .have:jL r=eH:=(jM r).2 ⟨n3,n3,n3,d,f⟩;rw[this,a];simpa using f
  .have:jL r=eL:=by
    cases hq:jL r with
    |false=>rfl
    |true=>exact absurd ((jM r).1 hq).2.2.2.2 f
   rw[this,a];simpa using f
theorem mZ(s:Sl)(l:aS)(n:Int)(k:Nat)(o:k<=4)(p:n1 l<=2^30)(H:aa B h0 h (ai 5 s 1 ar l::As)):
  an xZ 220 #[s,xP xV n,xP xV k] h λv h'=>∃r:Sl,v=r/\aa B h0 h' (ai 5 r 1 ar (l++cz n k)::As):=by
 refine ts Tryz.func220 ?_ (G7 (Hf [(0,bN),(7,aH)] [(0,1),(7,8),(10,22)]));rw[ag ((k:Int)-1)];refine ak (λt:Sl×Nat=>(t.1,(k:Int)-1-t.2)) (λt h'=>t.2<=k/\aa B h0 h' (ai 5 t.1 1 ar (l++(cz n k).take t.2)::As)) (λt=>k-t.2) (s,0) n9 ⟨n9,u7⟩ ?_;rintro⟨r,t⟩ m ⟨j,a⟩;dsimp only at*;refine ae (λe=>?_) (λe=>?_)
 .have b:t<k:=n3
  have f:qe xV ((8:Int)*((k:Int)-1-t))=((8*(k-1-t):Nat):Int):=by rw[ag _];omega
  rw[f,qj];have e2:min (8*(k-1-t)) (qx xV)=8*(k-1-t):=by have:qx xV=64:=rfl;omega
  rw[e2,bT];refine⟨n3,?_⟩;refine a.push af 0 n2 cN n2 n4 (λ_=>rfl) cD (b8 (zr n (2^(8*(k-1-t))))) n2 n4 p9 λg q d=>?_;refine⟨(g,t+1),?_,⟨n5,?_⟩,n5⟩
  .try dsimp only
   have c:qe xV ((k:Int)-1-t-1)=(k:Int)-1-((t+1:Nat):Int):=by rw[ag _];omega
   rw[c]
  .try dsimp only
   have i:(cz n k).take t++[b8 (zr n (2^(8*(k-1-t))))]=(cz n k).take (t+1):=by rw[aC _ _ (by rw[bM];exact b)];congr 2;simp[cz]
   rw[<-i,<-qo];exact d
 .have:t=k:=n3
  subst this;rw[qh (by rw[bM];omega)]at a;exact⟨r,n2,a⟩
theorem wd(x:bw)(r:ct)(h:hY)(E:fk cG h x r):an xZ 151 #[recv x] h λv h'=>∃s:Sl,v=s/\Sp h h' [ai 5 s 1 ar (gg r)]:=by
 refine ts Tryz.func151 ?_ (args:=[x]);obtain⟨⟨T,e2,Q,w,P,e7,e8⟩,U⟩:=id E;have f:x.2.2.2.1=r.p.1:=congrArg (·.1) w;have t:x.2.2.2.2.1=r.p.2.1:=congrArg (·.2.1) w;have q:x.2.2.2.2.2.1=r.p.2.2:=congrArg (·.2.2) w;refine(Sp.refl h).boxed λV N d=>?_;refine⟨x,(d.box 0 n2).aw _ n2,(EN x r N (cG.mono (cG.loc E d.ac) λ_ S=>qY S d.ac.1)).I1 λh2 R=>?_⟩;have m:=d.up R.ac;refine⟨_,n2,aI (λg=>?_) λg=>?_⟩
 .unfold gg;rw[g];exact⟨⟨dB,0,0⟩,n2,(m.nil 5 1 ar).bs [1]⟩
 have M:=rC g;have n:=m.box 0 n2;refine⟨r.object,by rw[<-T];exact n.cell0 n2,(mZ ⟨dB,0,0⟩ [] r.object 3 n4 n9 (m.nil 5 1 ar).bf).I2 λF h3 D=>?_⟩;have j:=D.box 1 n2;refine⟨F,n2,r.block,by rw[<-e2];exact j.cell n2,(mZ F _ r.block 1 n4 tq D).I2 λB X z=>?_⟩;have o:=z.box 1 n2;refine⟨B,n2,r.id,by rw[<-Q];exact o.cell n2,(mZ B _ r.id 2 n4 tq z).I2 λW Y H=>?_⟩;have a:=H.box 1 n2;refine⟨W,n2,r.p.1,by rw[<-f];exact a.cell n2,r.p.2.1,by rw[<-t];exact a.lF 3 1 n2,r.p.2.2,by rw[<-q];exact a.lF 3 2 n2,?_⟩
 try dsimp only
 rw[bT,bT,bT];refine H.lit af ar cN n2 [b8 r.p.1,b8 r.p.2.1,b8 r.p.2.2] n2 (show 3*1<=2^20 by decide) n2 λJ Z A=>?_;refine A.append af 0 n2 cN ⟨_,_,n2,n2⟩ n2 n4 (λ_=>rfl) (A.seq 2 n2 λ_=>rfl) cD tq λK h7 e=>?_;have e:=e.bs [0,1];have i:=e.box 1 n2;refine⟨r.seed,by rw[<-P];exact i.cell n2,?_⟩
 try dsimp only
 rw[ag r.seed];refine(mZ K _ r.seed 4 n4 tq e).I2 λL h8 l=>?_;have k:=l.box 1 n2;refine⟨L,n2,x.2.2.2.2.2.2.2,k.cell n2,?_⟩;refine l.append af 0 n2 cN ⟨_,_,n2,n2⟩ n2 n4 (λ_=>rfl) (Seq.up U l.ac) cD p9 λG y c=>?_;have I:[]++cz r.object 3++cz r.block 1++cz r.id 2++[b8 r.p.1,b8 r.p.2.1,b8 r.p.2.2]++cz r.seed 4++r.data=oI r:=by unfold oI;simp[qo]
 have c:Sp h y [ai 5 G 1 ar (oI r),aj V 144 (bB x)]:=by rw[<-I];exact c
 refine(Dh 1 G (oI r) y (c.seq 0 n2 λ_=>rfl)).I2 λb O u=>⟨b,n2,b,n2,?_⟩;unfold gg;rw[g,l0 rfl];exact(c.comp u).bs [2]
theorem MC(b:Sl)(c:aS)(h:hY)(hb:Rd h b 1 ar c)(hc:c.length<=2^30)(V:b.len<=b.cap):
  an xZ 183 #[b] h λv h'=>∃x:bw,v=.tuple #[recv x,xT (dt c).isSome]/\(dt c=dB->Sp h h' [])/\∀r,dt c=cO r->Sp h h' [EA cG x r]:=by
 refine ts Tryz.func183 ?_ (G7 (G7 (HF [] [(3,4),(14,21)] (HF [(7,(.sc .adr))] [(7,8),(21,31)] (HF [] [(31,42)] E9))))) [(4,(.y [0,1,3,4,6,7] (.y [2] (.y [5] (.l [8,9,10,11]) (.l [10,8,9,11])) (.l [10,5,8,9,11])) (.l [10,2,5,8,9,11]))),(5,(.l [0,1,3,4,6,7,2,5,8,9,10,11]))];refine(Sp.refl h).alloc af n2 λt h1 H1=>?_;have z:∀{h':hY} {Bs:List HP},Sp h h' (aj t 144 (bB (0,0,0,0,0,0,0,⟨dB,0,0⟩))::Bs)->dt c=dB->
   av xZ (qL 144 (xR (cO t)) (recv (0,0,0,0,0,0,0,⟨dB,0,0⟩))) h' λ_ F=>∃U:bw,bA F t 0 (bB U)/\∃x:bw,Value.tuple #[recv U,xT eL]=.tuple #[recv x,xT (dt c).isSome]/\(dt c=dB->Sp h F [])/\∀r,dt c=cO r->Sp h F [EA cG x r]:=λ{h' Bs} H' G=>by
  refine H'.storeAll af 0 n2 n2 (bB (0,0,0,0,0,0,0,⟨dB,0,0⟩)) n2 n2 n2 n2 λF H4=>?_;exact⟨(0,0,0,0,0,0,0,⟨dB,0,0⟩),(H4.box 0 n2).aw _ n2,(0,0,0,0,0,0,0,⟨dB,0,0⟩),by rw[G];rfl,λ_=>.zip H4.ac,λr O=>by rw[G]at O;cases O⟩
 refine(Sk b c h1 (hb.up H1.ac) hc V).mono ?_;rintro _ h2 ⟨Q0,Q1⟩;cases htc:gD c with
 |none=>
  obtain⟨rfl,R2⟩:=Q0 htc;have G:dt c=dB:=by unfold dt;rw[htc]
  exact⟨(0,⟨dB,0,0⟩,eL),n2,aE (aI (λ_=>z (H1.up R2.ac) G) λe=>oj)⟩
 |some kx=>
  obtain⟨k,x⟩:=kx;obtain⟨r,rfl,R2⟩:=Q1 k x htc;have s:=H1.comp R2;have a0:x.length=55:=by
   unfold gD at htc;split at htc
   .rename_i m;injection htc with htc
    injection htc with _ htc
    rw[<-htc];simp;omega
   .cases htc
  have bb:=(s.own 1 n2).len;have Y:=(s.own 1 n2).cap;refine⟨(k,r,eH),n2,aE (aI (λe=>oj) λ_=>bt (λe=>z s ?_) λM=>?_)⟩
  .unfold dt;rw[htc];exact m6 λm=>e m.1
  try dsimp only
  have M:k=1:=M;obtain⟨R,w⟩:=I3 (uA x)
  have J:dt c=if bJ R.p=eH/\gg R=c then cO R else dB:=by
   unfold dt;rw[htc]
   try dsimp only
   rw[<-w];by_cases m:bJ R.p=eH/\gg R=c
   .rw[l0 m];exact l0 ⟨M,m⟩
   .rw[m6 m];exact m6 λh=>m h.2
  have tA:∀{h':hY},Rd h' r 1 ar x->an xZ 261 #[xQ r.ptr 3 r.cap] h' λv I=>v=xP xV R.object/\I=h':=λ{h'} O=>by
   rw[w];exact JM ⟨r.ptr,3,r.cap⟩ (x.take 3) h' (O.take 3 n3) n7
  have N:∀{h':hY} (j n:Nat),j+n<=55->n<=4->Rd h' r 1 ar x->an xZ 261 #[.slice (if r.cap=j then r.ptr else r.ptr.map (·.add (j*1))) n (r.cap-j)] h' λv I=>v=xP xV (dq ((x.drop j).take n))/\I=h':=λ{h'} j n hjn G O=>
   JM ⟨if r.cap=j then r.ptr else r.ptr.map (·.add (j*1)),n,r.cap-j⟩ ((x.drop j).take n) h' ((O.drop j Y).take n pb) n7
  have rd:∀{h':hY} {A:HP} {Bs:List HP},Sp h h' (A::ai 5 r 1 ar x::Bs)->Rd h' r 1 ar x:=λ{h' A Bs} H'=>H'.seq 1 n2 λ_=>rfl;have oG:∀{h':hY} {A A2:HP} {Bs:List HP},Sp h h' (A::A2::ai 5 r 1 ar x::Bs)->Rd h' r 1 ar x:=λ{h' A A2 Bs} H'=>H'.seq 2 n2 λ_=>rfl;refine bj (λ(a:fY) h'=>Sp h h' [aj a 144 (bB (R.object,R.block,R.id,0,0,0,0,⟨dB,0,0⟩)),aj t 144 (bB (0,0,0,0,0,0,0,⟨dB,0,0⟩)),ai 5 r 1 ar x]) ?_ ?_
  .have eb:dq ((x.drop 3).take 1)=R.block:=C5
   have ei:dq ((x.drop 4).take 2)=R.id:=C5
   have fin:∀{h':hY} {a:fY},Sp h h' [aj t 144 (bB (0,0,0,0,0,0,0,⟨dB,0,0⟩)),ai 5 r 1 ar x,aj a 144 (bB (0,0,0,0,0,0,0,⟨dB,0,0⟩))]->
     av xZ (qL 144 (xR (cO a)) (recv (R.object,R.block,R.id,0,0,0,0,⟨dB,0,0⟩))) h' λ_ F=>bF.ok [] F/\Sp h F [aj a 144 (bB (R.object,R.block,R.id,0,0,0,0,⟨dB,0,0⟩)),aj t 144 (bB (0,0,0,0,0,0,0,⟨dB,0,0⟩)),ai 5 r 1 ar x]:=λ{h' a} H'=>
    H'.storeAll af 2 n2 n2 (bB (R.object,R.block,R.id,0,0,0,0,⟨dB,0,0⟩)) n2 n2 n2 n2 λF H4=>⟨I4,H4.bs [2,0,1]⟩
   have A_:∀{h':hY} {Bs:List HP} {K:Int->hY->Prop},Sp h h' (aj t 144 (bB (0,0,0,0,0,0,0,⟨dB,0,0⟩))::ai 5 r 1 ar x::Bs)->K R.object h'->jV xZ 261 #[xQ r.ptr 3 r.cap] (.one (.sc (.int .i64))) h' K:=λ{h' Bs K} H' hK=>by
    refine(tA (rd H')).I0 ⟨_,n2,hK⟩
   have B_:∀{h':hY} {Bs:List HP} {K:Int->hY->Prop},Sp h h' (aj t 144 (bB (0,0,0,0,0,0,0,⟨dB,0,0⟩))::ai 5 r 1 ar x::Bs)->K R.block h'->jV xZ 261 #[.slice (if r.cap=3 then r.ptr else r.ptr.map (·.add (3*1))) 1 (r.cap-3)] (.one (.sc (.int .i64))) h' K:=λ{h' Bs K} H' hK=>by
    refine(N 3 1 n4 n4 (rd H')).I0 ⟨_,n2,by rw[eb];exact hK⟩
   have C_:∀{h':hY} {Bs:List HP} {K:Int->hY->Prop},Sp h h' (aj t 144 (bB (0,0,0,0,0,0,0,⟨dB,0,0⟩))::ai 5 r 1 ar x::Bs)->K R.id h'->jV xZ 261 #[.slice (if r.cap=4 then r.ptr else r.ptr.map (·.add (4*1))) 2 (r.cap-4)] (.one (.sc (.int .i64))) h' K:=λ{h' Bs K} H' hK=>by
    refine(N 4 2 n4 n4 (rd H')).I0 ⟨_,n2,by rw[ei];exact hK⟩
   refine⟨⟨n4,n3⟩,⟨n4,n4,n3⟩,⟨n4,n4,n3⟩,A_ s ⟨I4,B_ s ⟨I4,C_ s ⟨I4,?_⟩,?_⟩,?_⟩,?_⟩
   .refine s.alloc af n2 λa9 h9 i=>⟨I4,?_⟩
    exact fin i
   .refine s.alloc af n2 λa9 h9 i=>⟨I4,?_⟩
    exact C_ i ⟨I4,fin i⟩
   .refine s.alloc af n2 λa9 h9 i=>⟨I4,?_⟩
    exact B_ i ⟨I4,C_ i ⟨I4,fin i⟩⟩
   .refine s.alloc af n2 λa9 h9 i=>⟨I4,?_⟩
    exact A_ i ⟨I4,B_ i ⟨I4,C_ i ⟨I4,fin i⟩⟩⟩
  .rintro a9 h5 H5;have L:0<=R.seed/\R.seed<4294967296:=by have:=Bq ((x.drop 9).take 4) n7;rw[w];exact⟨this.1,this.2.1⟩
   have e6:dq ((x.drop 6).take 1)=R.p.1:=C5
   have e7:dq ((x.drop 7).take 1)=R.p.2.1:=C5
   have e8:dq ((x.drop 8).take 1)=R.p.2.2:=C5
   have e9:dq ((x.drop 9).take 4)=R.seed:=C5
   refine aE ⟨⟨n4,n4,n3⟩,⟨n4,n4,n3⟩,⟨n4,n4,n3⟩,(N 6 1 n4 n4 (oG H5)).I0 ?_⟩;refine⟨_,n2,I4,(N 7 1 n4 n4 (oG H5)).I0 ?_⟩;refine⟨_,n2,I4,(N 8 1 n4 n4 (oG H5)).I0 ?_⟩;refine⟨_,n2,I4,?_⟩
   try dsimp only
   rw[e6,e7,e8];refine H5.store af 0 n2 n2 3 [xP xV R.p.1,xP xV R.p.2.1,xP xV R.p.2.2] n2 n2 n2 n9 λa4 S=>⟨I4,?_⟩
   refine⟨⟨n4,n4,n3⟩,(N 9 4 n4 n4 (oG S)).I0 ?_⟩;refine⟨_,n2,?_⟩
   try dsimp only
   have ew:qe xX (dq ((x.drop 9).take 4))=R.seed:=by rw[e9];unfold qe;simp[qx,yG];omega
   rw[ew];refine S.store af 0 n2 n2 6 [xP xX R.seed] n2 n2 n2 n9 λab Q=>?_;refine⟨R.p,(Q.box 0 n2).lN 3 n2 n2 n2,(fc R.p ab).I1 λap ad=>?_⟩;have D:=Q.up ad.ac;refine⟨_,n2,aI (λg=>z (D.aF 2 [1,0]) (by rw[J,m6 λm=>by rw[g]at m;cases m.1])) λg=>?_⟩;have a2:=(bL R.p).1 g;refine⟨R.p.2.2,(D.box 0 n2).lF 3 2 n2,?_⟩
   try dsimp only
   rw[ag ((13:Int)+R.p.2.2)];refine⟨⟨n4,n3,n3⟩,?_⟩;have ah:((13:Int)+R.p.2.2).toNat-(13:Int).toNat=R.p.2.2.toNat:=n3
   rw[ah];have E:(x.drop 13).take R.p.2.2.toNat=R.data:=C5
   have H:=((oG D).drop 13 Y).take R.p.2.2.toNat pb;rw[E]at H;have a7:R.data.length=R.p.2.2.toNat:=by rw[<-E];simp;omega
   refine(fT ⟨if r.cap=13 then r.ptr else r.ptr.map (·.add (13*1)),R.p.2.2.toNat,r.cap-13⟩ R.data ap H).I2 λu a6 ao=>?_;have al:=D.comp ao;refine⟨u,n2,?_⟩;refine al.store af 0 n2 n2 7 [u] n2 n2 n2 n9 λZ f=>?_;have f:Sp h Z [aj a9 144 (bB (R.object,R.block,R.id,R.p.1,R.p.2.1,R.p.2.2,R.seed,u)),aj t 144 (bB (0,0,0,0,0,0,0,⟨dB,0,0⟩)),ai 5 r 1 ar x,ai 5 u 1 ar R.data]:=f;obtain⟨X,hX⟩:∃X:bw,X=(R.object,R.block,R.id,R.p.1,R.p.2.1,R.p.2.2,R.seed,u):=⟨_,rfl⟩
   rw[<-hX]at f;have P:∀{h':hY} {q:au},Seq h' q u 1 ar R.data->cG.p h' q X R:=λ{h' q} hs=>by rw[hX];exact⟨⟨n2,n2,n2,n2,n2,L⟩,hs⟩
   refine⟨X,(f.box 0 n2).aw _ n2,(wd X R Z (P (f.seq 3 n2 λ_=>rfl))).I2 λs5 ax am=>?_⟩;have o:=f.comp am;refine⟨s5,n2,(ub b s5 c (gg R) ax (hb.up o.ac) (o.seq 4 n2 λ_=>rfl)).I0 ?_⟩;refine⟨_,n2,aI (λW=>z (o.aF 2 [1,0]) (by rw[J,m6 λm=>(of_decide_eq_false W) m.2.symm])) λW=>?_⟩;have W:c=gg R:=nq W;refine⟨X,(o.box 0 n2).aw _ n2,?_⟩;refine o.storeAll af 1 n2 n2 (bB X) n2 n2 n2 n2 λa8 T=>?_;have d:dt c=cO R:=by rw[J,l0 ⟨g,W.symm⟩]
   refine⟨X,(T.box 1 n2).aw _ n2,X,by rw[d];rfl,λG=>(by rw[d]at G;cases G),λr' B=>?_⟩;rw[d]at B;injection B with B
   subst B;have ay:=T.bs [3];exact ay.dG 0 n2 λq hq=>P (hq.1.seq (λ_=>rfl) hq.2)
variable {X Y Z:HP}
section
variable {L:List HP}
theorem aa.adt(H:aa B h0 h (X::Y::(L++As))):aa B h0 h (L++(X::Y::As)):=
 H.pick (λi=>if i<n1 L then i+2 else if i=n1 L then 0 else if i=n1 L+1 then 1 else i) (λa b c=>oo) λi A d=>oo
theorem aa.aaq(n:Nat)(b:L[n]?=cO X)(H:aa B h0 h (Y::Z::(L++As))):aa B h0 h (X::Z::Y::(L.set n emp++As)):=by
 have a:=H.cons (n+2) (A:=X) oo;have e:(Y::Z::(L++As)).set (n+2) emp=Y::Z::(L.set n emp++As):=oo
 rw[e]at a;exact a.aF 3 [0,2,1]
theorem aa.Qn(n:Nat)(e:n<n1 L)(H:aa B h0 h (X::Z::Y::(L.set n emp++As))):aa B h0 h (Y::Z::(L.set n X++As)):=
 H.pick (λi=>if i=0 then 2 else if i=1 then 1 else if i=n+2 then 0 else i+1) (λa b d=>oo) λi A c=>by
  match i,c with
  |0,c=>exact c
  |1,c=>exact c
  |i+2,c=>
   grind
end
structure Kit where
 tS:Nat
 tP:Nat
 tD:Nat
 f:fY->bu->Sl->Sl->aR
def aco(k:Kit)(pw:fY)(a:bK)(d:Option bu):HP:=match a,d with
 |some a,cO d=>ke k.tD (k.f pw) a d
 |_,_=>emp
abbrev dh(c:aR)(pw:fY)(a:Int)(b:List bK):aR:=c++(xR (cO pw)::xP xV a::b.map .pointer)
structure gM (mc:aR) (da:List bK) (ds:aG):Prop where
 l8:n1 mc=8
 la:n1 da=64
 ls:n1 ds=64
 same:∀i:Nat,(da.getD i dB).isSome=(ds.getD i dB).isSome
abbrev js(k:Kit)(pw:fY)(a:List bK)(b:aG):List HP:=List.zipWith (aco k pw) a b
def aJ(k:Kit)(a pw:fY)(d:aR)(b:Int)(c:List bK)(w:Pow)(e:aG):HP:=
 (HP.all (aj a k.tS (dh d pw b c)::eJ k.tP pw w::js k pw c e)).and (gM d c e)
variable {mc:aR} {offs:Int} {da:List bK} {w':Pow} {ds:aG} {d':bu} {n:Nat}
section
variable {k:Kit} {pw:fY}
theorem MD(ok:gM mc da ds):(js k pw da ds).length=64:=by simp[js,ok.la,ok.ls]
theorem aa.jQ(H:aa B h0 h (aJ k a pw mc offs da w ds::As)):gM mc da ds/\aa B h0 h (aj a k.tS (dh mc pw offs da)::eJ k.tP pw w::(js k pw da ds++As)):=by obtain⟨H,ok⟩:=H.Fx;exact⟨ok,H.Ap⟩
theorem aa.mJ(ok:gM mc da ds)(H:aa B h0 h (aj a k.tS (dh mc pw offs da)::eJ k.tP pw w::(js k pw da ds++As))):aa B h0 h (aJ k a pw mc offs da w ds::As):=
 (aa.closeAll (aj a k.tS (dh mc pw offs da)::eJ k.tP pw w::js k pw da ds) H).toFx ok
theorem gM.addr(ok:gM mc da ds)(c:ds[n]?=cO (cO d)):∃b,da[n]?=cO (cO b):=by
 have g:n<64:=by have:=(qm.1 c).1;rw[ok.ls]at this;exact this
 have a:=ok.same n;rw[qg,qg,c]at a;have e:n<n1 da:=by rw[ok.la];exact g
 rw[qd e]at a⊢;simp at a;obtain⟨b,f⟩:=yW.1 a;exact⟨b,by rw[f]⟩
theorem gM.UR(ok:gM mc da ds)(d:n<64)(c:ds[n]?=cO dB):da[n]?=cO dB:=by
 have a:=ok.same n;rw[qg,qg,c]at a;have b:n<n1 da:=by rw[ok.la];exact d
 rw[qd b]at a⊢;simp at a;rw[a]
theorem gM.set(ok:gM mc da ds){b:fY}(c:da[n]?=cO (cO b)):gM mc da (ds.set n (cO d')):=by
 refine⟨ok.l8,ok.la,by rw[qK];exact ok.ls,λi=>?_⟩;by_cases a:n=i
 .subst a;have d:n<n1 ds:=by have:=(qm.1 c).1;rw[ok.la]at this;rw[ok.ls];exact this
  rw[qg,c,qg,List.getElem?_set_self d];rfl
 .rw[qg (l:=ds.set n _),wP a,<-qg];exact ok.same i
theorem XJ{b:fY}(c:da[n]?=cO (cO b))(d:n<n1 ds):(js k pw da ds).set n (ke k.tD (k.f pw) b d')=js k pw da (ds.set n (cO d')):=by
 apply zq;intro j;have e:n<n1 da:=(qm.1 c).1;simp only[js,qZ,wU,List.length_zipWith];by_cases a:n=j
 .subst a;rw[l0 n2,l0 n3,l0 n2,l0 d,c];rfl
 .simp[a]
def Et(k:Kit)(a pw:fY)(d:aR)(b:Int)(c:List bK)(e:aG)(n:Nat):HP:=
 (HP.all (aj a k.tS (dh d pw b c)::(js k pw c e).set n emp)).and (gM d c e)
theorem aa.fy(H:aa B h0 h (aJ k a pw mc offs da w ds::As))(e:ds[n]?=cO (cO d)):∃b,da[n]?=cO (cO b)/\aa B h0 h (ke k.tD (k.f pw) b d::eJ k.tP pw w::Et k a pw mc offs da ds n::As):=by
 obtain⟨ok,i⟩:=H.jQ;obtain⟨b,c⟩:=ok.addr e;refine⟨b,c,?_⟩;have j:(js k pw da ds)[n]?=cO (ke k.tD (k.f pw) b d):=by simp only[js,wU,c,e];rfl
 have g:=i.aaq n j;have l:aa B h0 h (ke k.tD (k.f pw) b d::eJ k.tP pw w::((aj a k.tS (dh mc pw offs da)::(js k pw da ds).set n emp)++As)):=g;exact(((aa.closeAll _ l.adt).toFx ok).aF 3 [1,2,0]:aa B h0 h (ke k.tD (k.f pw) b d::eJ k.tP pw w::Et k a pw mc offs da ds n::As))
theorem aa.kR{b:fY}(j:da[n]?=cO (cO b))(H:aa B h0 h (ke k.tD (k.f pw) b d'::eJ k.tP pw w'::Et k a pw mc offs da ds n::As)):aa B h0 h (aJ k a pw mc offs da w' (ds.set n (cO d'))::As):=by
 have m:aa B h0 h (Et k a pw mc offs da ds n::eJ k.tP pw w'::ke k.tD (k.f pw) b d'::As):=H.aF 3 [2,1,0];obtain⟨m,ok⟩:=m.Fx;have r:=m.Ap;have q:n<n1 ds:=by have:=(qm.1 j).1;rw[ok.la]at this;rw[ok.ls];exact this
 have s:=MD (k:=k) (pw:=pw) ok;have g:n<(js k pw da ds).length:=by rw[s,<-ok.ls];exact q
 obtain⟨L,o⟩:=I3 (js k pw da ds)
 rw[<-o]at r g;have t:aa B h0 h (ke k.tD (k.f pw) b d'::eJ k.tP pw w'::aj a k.tS (dh mc pw offs da)::(L.set n emp++As)):=by
  refine r.pick (λi=>if i=0 then 1+n1 L+1 else if i=1 then 1+n1 L else if i=2 then 0 else if i<3+n1 L then i-2 else i) (λx y c=>by(try dsimp only at c);split at c<;>split at c<;>(try split at c)<;>(try split at c)<;>(try split at c)<;>(try split at c)<;>(try split at c)<;>(try split at c)<;>omega) λi A e=>?_
  try dsimp only
  have d:(aj a k.tS (dh mc pw offs da)::L.set n emp).length=1+n1 L:=n7
  match i,e with
  |0,e=>rw[l0 n2,ql n3,d,show 1+n1 L+1-(1+n1 L)=1 by omega];exact e
  |1,e=>rw[m6 n3,l0 n2,ql n3,d,zh];exact e
  |2,e=>rw[m6 n3,m6 n3,l0 rfl];exact e
  |i+3,e=>
   rw[m6 n3,m6 n3,m6 n3];rw[qX,qX,qX]at e;by_cases l:i<n1 L
   .rw[l0 n3,show i+3-2=i+1 by omega,qw (by rw[d];omega),qX];rw[qw (by simpa using l)]at e;exact e
   .rw[m6 n3,ql (by rw[d];omega),d,show i+3-(1+n1 L)=(i-n1 L)+2 by omega,qX,qX];rw[ql n7,qK]at e;exact e
 have p:=aa.Qn n g t;rw[o,XJ j q]at p;exact p.mJ (ok.set j)
end
def dZ:jg (Int×Sl) (Int×aS):=⟨λh q a b=>a.1=b.1/\Seq h q a.2 1 ar b.2,λa d=>⟨a.1,a.2.ac d⟩,λa c=>⟨a.1,a.2.mono c⟩⟩
def piv(x:Int×Sl):aR:=[xP xV x.1,x.2]
theorem sX:∀x,∀c∈piv x,c.oneCell'=eH:=by intro x c a;simp[piv]at a;rcases a with rfl|rfl<;>rfl
def dj(b:List bK)(a:Int):bK:=if 0<=a/\a<64 then(b[a.toNat]?).join else dB
theorem gj{j:aR}{f:List bK}{c:aG}(ok:gM j f c)(a:Int):
  (bY c a=dB/\dj f a=dB)∨∃(n:Nat) (d:bu) (b:fY),a=n/\n<64/\c[n]?=cO (cO d)/\bY c a=cO d/\f[n]?=cO (cO b)/\dj f a=cO b:=by
 unfold bY dj;by_cases h:0<=a/\a<64
 .rw[l0 h,l0 h];have i:a.toNat<n1 c:=by rw[ok.ls];omega
  cases hd:c[a.toNat]with
  |none=>
   have e:c[a.toNat]?=cO dB:=by rw[qd i,hd]
   exact .inl ⟨A1,by rw[ok.UR n3 e];rfl⟩
  |some d=>
   have e:c[a.toNat]?=cO (cO d):=by rw[qd i,hd]
   obtain⟨b,g⟩:=ok.addr e;exact .inr ⟨a.toNat,d,b,n3,n3,e,A1,g,by rw[g];rfl⟩
 .rw[m6 h,m6 h];exact .inl ⟨n2,n2⟩
theorem mK{b:aR}{pw:fY}{a:Int}{c:List bK}(h8:n1 b=8)(n:Nat):(dh b pw a c)[10+n]?=(c[n]?).map .pointer:=by unfold dh;rw[ql n3,h8,show 10+n-8=n+1+1 by omega,qX,qX,qP]
theorem uc{b:aR}{pw:fY}{a:Int}{c:List bK}(h8:n1 b=8):(dh b pw a c)[8]?=cO (xR (cO pw)):=by unfold dh;rw[ql n3,h8];rfl
theorem GO{b:aR}{pw:fY}{a:Int}{c:List bK}(h8:n1 b=8):(dh b pw a c)[9]?=cO (xP xV a):=by unfold dh;rw[ql n3,h8];rfl
abbrev bP:Qw.Kit:=⟨94,96,159,λpw=>fo pw⟩
theorem ME{e:TypeId}(s:Sl)(l:aD)(h:hY)(c:Own h e s 1 aq l)(a:n1 l<2^40):an xZ 205 #[s] h λv h'=>v=xQ s.ptr (Lib.compact l).length s.cap/\Own h' e ⟨s.ptr,(Lib.compact l).length,s.cap⟩ 1 aq (Lib.compact l)/\aP (λb=>¬s.on b) h h':=
 Gz Tryz.slices_Compact_int Tryz.slices_Compact_int_empty c a
section
variable {pw:fY}
theorem jA(b:Int)(ok:gM mc da ds)(f:bR h a 94 (dh mc pw offs da)):an xZ 40 #[xR (cO a),xP xV b] h λv h'=>v=.pointer (dj da b)/\h'=h:=by
 refine ts Tryz.func40 ?_ (G7 (HF [] [(4,15)] E9));have d:¬(0<=b/\b<64)->Value.pointer dB=.pointer (dj da b)/\h=h:=λe=>by unfold dj;rw[m6 e];exact⟨n2,n2⟩
 refine aE (aU (λe=>oj) λ_=>ae (λe=>d n3) λg=>ae (λe=>d n3) λe2=>?_);have c:b.toNat<n1 da:=B8
 refine⟨a,n2,⟨n3,n3⟩,da[b.toNat],?_,?_,n2⟩
 .rw[zM];refine f.lF 10 b.toNat ?_;rw[mK ok.l8,qd c];rfl
 .unfold dj;rw[l0 n3,qd c];rfl
theorem aa.cB(H:aa B h0 h (aJ bP a pw mc offs da w ds::As)):gM mc da ds/\bR h a 94 (dh mc pw offs da):=by obtain⟨ok,b⟩:=Qw.aa.jQ H;exact⟨ok,b.box 0 n2⟩
theorem GP(s:Sl)(l:aD)(u:Rd h s 1 aq l)(K:n1 l<=2^30)(H:aa B h0 h (aJ bP a pw mc offs da w ds::As)):
  an xZ 52 #[.func (.func 40) #[xR (cO a)] #[],s] h λv h'=>∃r:Sl,v=r/\Sp h h' [ai 3 r 1 aq (bn ds l)]:=by
 refine ts Tryz.func52 ?_ (G7 (G7 (Hf [(5,bN),(11,aH)] [(5,6),(7,9),(11,30)]))) (args:=[(.func (.func 40) #[xR (cO a)] #[]),s]);have D:=u.len;obtain⟨ok,x⟩:=aa.cB H;refine ak (λt:Sl×Nat=>(t.1,(t.2:Int))) (λt h'=>t.2<=n1 l/\Sp h h' [ai 3 t.1 1 aq (bn ds (l.take t.2))]) (λt=>n1 l-t.2) (⟨dB,0,0⟩,0) n2 ⟨n9,by simpa[bn]using(Sp.refl h).nil 3 1 aq⟩ ?_;rintro⟨o,i⟩ J ⟨M,j⟩;dsimp only at*;refine ae (λe=>?_) (λe=>?_)
 .have p:i<n1 l:=n3
  have c:bn ds (l.take (i+1))=bn ds (l.take i)++(if isLive ds l[i]then[l[i]]else[]):=by unfold bn;rw[aC _ _ p,zm,zE,w9]
  have F:(bn ds (l.take i)).length<=n1 l:=by have:=qO (isLive ds) (l.take i);unfold bn;simp at this⊢;omega
  have next:∀{h':hY} {k:Sl},Sp h h' [ai 3 k 1 aq (bn ds (l.take (i+1)))]->∃m:Sl×Nat,((⟨k.ptr,k.len,k.cap⟩:Sl),qe xV ((i:Int)+1))=(m.1,(m.2:Int))/\(m.2<=n1 l/\Sp h h' [ai 3 m.1 1 aq (bn ds (l.take m.2))])/\l.length-m.2<n1 l-i:=λ{h' k} H'=>
   ⟨(k,i+1),n8,⟨n5,H'⟩,n5⟩
  refine(Seq.up u j.ac).aX i n2 p l[i] n2 (fB qa ?_);refine(jA l[i] ok (x.ac j.ac x.lt)).I0 ⟨_,n2,?_⟩;rcases gj ok l[i]with⟨c1,c2⟩|⟨n,d,b,c0,c1,c2,c3,c4,c5⟩
  .rw[c2];have g:isLive ds l[i]=eL:=by unfold isLive;rw[c1]
   rw[g]at c;refine aI (λe=>oj) λ_=>next (by rw[c];simpa using j)
  .rw[c5];have g:isLive ds l[i]=!d.lost:=by unfold isLive;rw[c3]
   refine aI (λ_=>?_) λe=>oj
   obtain⟨I,f,z⟩:=Qw.aa.fy (aa.up H j.ac) c2;rw[c4]at f;injection f with f
   injection f with f
   subst f;obtain⟨A,E,q,_,_⟩:=jq.box z;refine(uM A E q).I0 ⟨_,n2,aI (λe=>?_) λe=>?_⟩
   .rw[g,e]at c;refine j.push af 0 n2 eK n2 n4 (λ_=>rfl) cP l[i] n2 n4 n3 λk G y=>next ?_
    rw[c];exact y
   .rw[g,e]at c;exact next (by rw[c];simpa using j)
 .rw[qh n3]at j;exact⟨o,n2,j⟩
theorem Sm(s:Sl)(l:aD)(U:St B h0 As λh=>Rd h s 1 aq l)(hl:n1 l<=2^30)(A:∀x∈l,0<=x/\x<64)(H:aa B h0 h (aJ bP a pw mc offs da w ds::As)):
  an xZ 141 #[.func (.func 40) #[xR (cO a)] #[],s] h λv h'=>v=xP xV (iR (gv l) w ds).1/\aa B h0 h' (aJ bP a pw mc offs da (iR (gv l) w ds).2.1 (iR (gv l) w ds).2.2::As):=by
 refine ts Tryz.func141 ?_ (G7 (G7 (G7 (Hf [(15,aH)] [(4,5),(6,8),(15,27)])))) (args:=[(.func (.func 40) #[xR (cO a)] #[]),s]);refine(jG s l h (U.at [_] H) n3).I2 λr M V=>?_;have K:=H.bV V;refine⟨r,n2,(JJ r l M (K.own 0 n2) n3).I1 λT ⟨G,X⟩=>?_⟩;have O:=K.oa 0 n2 X G;refine⟨(),n2,(ME r (mq l) T G (by rw[Jn];omega)).I1 λh3 ⟨P,I⟩=>?_⟩;have E:=O.step (D:=ai 3 ⟨r.ptr,(Lib.compact (mq l)).length,r.cap⟩ 1 aq (Lib.compact (mq l))) 0 n2 λq F z=>⟨I.mono λb _ m y=>m (F.2 b y),P,λb m=>⟨qY (z b (F.2 b m)) I.1,.inl (F.2 b m)⟩⟩
 rw[RI l A]at E⊢;obtain⟨u,J⟩:=I3 (gv l)
 rw[<-J]at E⊢;have Q:n1 u<=64:=by have:=qO (λi=>decide (i∈l)) ((qz 64).map λi:Nat=>(i:Int));rw[J];unfold gv;simpa using this
 refine⟨⟨r.ptr,n1 u,r.cap⟩,n2,?_⟩;refine ak (λt:Nat×Pow×aG=>(t.1:Int)) (λt h'=>t.1<=n1 u/\iR u w ds=iR (u.drop t.1) t.2.1 t.2.2/\aa B h0 h' (ai 3 ⟨r.ptr,n1 u,r.cap⟩ 1 aq u::aJ bP a pw mc offs da t.2.1 t.2.2::As)) (λt=>n1 u-t.1) (0,w,ds) n2 ⟨n9,n2,E⟩ ?_;rintro⟨i,j,f⟩ Y ⟨hi,c,o⟩;dsimp only at*;refine ae (λe=>?_) (λe=>?_)
 .have p:i<n1 u:=n3
  obtain⟨ok,m⟩:=aa.cB o.rest;rw[qW p,mT]at c;refine(o.seq 0 n2 λ_=>rfl).aX i n2 p u[i] n2 (fB qa ?_);refine(jA u[i] ok m).mono ?_;rintro _ R ⟨rfl,rfl⟩;refine⟨_,n2,?_⟩;rcases gj ok u[i]with⟨c1,c2⟩|⟨n,d,b,c0,c1,c2,c3,c4,c5⟩
  .rw[c2];refine(Mx R).mono ?_;rintro _ S ⟨rfl,rfl⟩;have es:fC j f u[i]=(5,j,f):=by unfold fC;rw[c1]
   rw[es]at c;refine⟨5,n2,bt (λ_=>?_) λe=>absurd e n4⟩;have:iR u w ds=(5,j,f):=c;rw[this];exact⟨n2,o.rest⟩
  .rw[c5];obtain⟨Z,g,W⟩:=Qw.aa.fy (o.aF 2 [1,0]) c2;rw[c4]at g;injection g with g
   injection g with g
   subst g;refine(UI W).I1 λS N=>?_;have L:=Qw.aa.kR (k:=bP) (n:=n) c4 N;have es:fC j f u[i]=((d.sync j).1,(d.sync j).2.1,f.set n (cO (d.sync j).2.2)):=by unfold fC;rw[c3];simp only[iG,c0,qj]
   rw[es]at c;refine⟨_,n2,bt (λe2=>?_) λe2=>?_⟩
   .have:iR u w ds=((d.sync j).1,(d.sync j).2.1,f.set n (cO (d.sync j).2.2)):=by rw[c];exact m6 e2
    rw[this];exact⟨n2,L.nF⟩
   .refine⟨(i+1,(d.sync j).2.1,f.set n (cO (d.sync j).2.2)),n8,⟨n5,?_,L.aF 2 [1,0]⟩,n5⟩;rw[c];exact l0 e2
 .rw[zl n3]at c;rw[c];exact⟨n2,o.rest⟩
end
theorem HP.Az{h:hY}:∀{L:List HP} {q:au} {i:Nat} {A:HP},(HP.all L).p h q->L[i]?=cO A->A.p h q
 |A::L,q,0,A',⟨q1,q2,_,b,_,d,_⟩,hi=>by simp at hi;subst hi;exact A.mono d b
 |A::L,q,i+1,A',⟨q1,q2,_,_,c,_,e⟩,hi=>A'.mono (HP.Az e (by simpa using hi)) c
 |[],_,i,_,_,hi=>by simp at hi
variable {β:Type} {e e2:Nat} {ll:List (List α)}
section
variable {f:α->aR}
theorem aa.MF(H:aa B h0 h (kV e s e2 k f ll::As))(n:∀x,(f x).length=k):∃rs,aa B h0 h (cy (iJ k f) 1 bv s rs ll::As):=by
 obtain⟨rs,H⟩:=H.AZ;obtain⟨H,c⟩:=H.Fx;refine⟨rs,H.dG 0 n2 λq g=>⟨?_,c,λi r l b a=>?_⟩⟩
 .have:=HP.Az (i:=0) g n2;exact this.1.seq (λ_=>rfl) this.2
 .have d:i<n1 ll:=(qm.1 a).1;have j:=dU (e:=e2) (k:=k) (f:=f) c i d;have:=HP.Az (i:=i+1) g (by simpa using j);have m:rs[i]'n3=r:=by rw[qd n3]at b;simpa using b
  have e2:ll[i]=l:=by rw[qd d]at a;simpa using a
  rw[m,e2]at this;exact this.1.seq n this.2
end
def bo(m:aA)(a:aD):List (Int×aS):=a.flatMap λn=>(bI m).map λc=>(n,c)
theorem me{m:aA}{a:aD}{x:Int×aS}(h:x∈bo m a):x.1∈a/\x.2.length=64:=by unfold bo at h;obtain⟨n,e,b⟩:=yd.1 h;obtain⟨c,d,rfl⟩:=qI.1 b;exact⟨e,sw d⟩
theorem jB(m:aA)(a:bG m):(bI m).length<=3000:=by have:=tZ m a;unfold bI fj;simp;omega
abbrev MG:bS C.toAk 118 131 2 [xP xV 0,xQ dB 0 0] 32:=⟨_,_,n2,n2,n2,n2,n2,n2⟩
section
variable {pw:fY}
theorem Di(s:Sl)(u:List (Int×Sl))(P:List (Int×aS))(G:St B h0 As λh=>gA dZ 2 piv h s u P)(hl:n1 P<=2^30)(D:∀x∈P,(0<=x.1/\x.1<64)/\x.2.length<=2^20)(H:aa B h0 h (aJ bP a pw mc offs da w ds::As)):
  an xZ 76 #[.func (.func 40) #[xR (cO a)] #[],s] h λv h'=>v=xP xV (layAll P w ds).1/\aa B h0 h' (aJ bP a pw mc offs da (layAll P w ds).2.1 (layAll P w ds).2.2::As):=by
 refine ts Tryz.func76 ?_ (G7 (G7 (E8 (G7 (F8 (G0 [(5,bN),(11,aH)] [(4,6),(7,9),(11,31)] (G7 (G7 (E8 (F8 (G7 (E8 (G6 [] [(4,5),(8,9),(15,25)] (HF [(8,aH)] [(8,9),(15,22)] E9)) E9))) E9)))))) E9))) [(5,(.l [0,1,2,4,5,3,6,7]))] (args:=[(.func (.func 40) #[xR (cO a)] #[]),s]);have X:=(G.at [_] H).1.len;have R:=(G.at [_] H).2.1;have S:=(H.nil 3 1 aq).bf;refine ak (λt:Sl×Nat×Pow×aG=>(t.1,(t.2.1:Int))) (λt h'=>t.2.1<=n1 P/\fU P w ds=fU (P.drop t.2.1) t.2.2.1 t.2.2.2/\aa B h0 h' (ai 3 t.1 1 aq ((P.take t.2.1).map qF)::aJ bP a pw mc offs da t.2.2.1 t.2.2.2::As)) (λt=>n1 P-t.2.1) (⟨dB,0,0⟩,0,w,ds) n2 ⟨n9,n2,C6⟩ ?_;rintro⟨o,i,z,r⟩ h1 ⟨hi,f,I⟩;dsimp only at*;refine ae (λe=>?_) (λe=>?_)
 .have q:i<n1 P:=n3
  rw[qW q,lh]at f;have F1:=G.at [_,_] I;have K:=D _ (qf q);refine F1.1.cH (g:=piv) i n2 n3 (u[i]'n3) n2 ?_;refine I.alloc af n2 λa4 Y E=>?_;have E:=E.bf;refine E.storeAll af 0 n2 n2 (piv (u[i]'n3)) n2 n2 n2 n2 λh3 m=>?_;obtain⟨O,N⟩:=Fix.row (G.at [_,_,_] m) q;have m:=m.aF 3 [2,0,1];obtain⟨ok,Z⟩:=aa.cB m;obtain⟨c,p⟩:=I3 (dX z r P[i].1 P[i].2)
  rw[<-p]at f;refine bj (λ_ h'=>c.1=0/\aa B h0 h' (aJ bP a pw mc offs da c.2.1 c.2.2::aj a4 131 (piv (u[i]'n3))::ai 3 o 1 aq ((P.take i).map qF)::As)) ?_ ?_
  .refine bj (λe h'=>e=c.1/\aa B h0 h' (aJ bP a pw mc offs da c.2.1 c.2.2::aj a4 131 (piv (u[i]'n3))::ai 3 o 1 aq ((P.take i).map qF)::As)) ?_ ?_
   .refine⟨P[i].1,by rw[<-O];exact(m.box 1 n2).cell0 n2,(u[i]'n3).2,(m.box 1 n2).cell n2,fB qa ?_⟩;refine(jA P[i].1 ok Z).mono ?_;rintro _ J ⟨rfl,rfl⟩;refine⟨_,n2,⟨(m.box 1 n2).cell n2,I4⟩,?_⟩;rcases gj ok P[i].1 with⟨c1,c2⟩|⟨n,d,b,c0,c1,c2,c3,c4,c5⟩
    .rw[c2];refine(IJ (u[i]'n3).2 P[i].2 J N).mono ?_;rintro _ V ⟨rfl,rfl⟩;have es:c=(if P[i].2.length≠64 then 1 else 5,z,r):=by rw[p];unfold dX;rw[c1]
     refine⟨_,n2,I4,by rw[es],?_⟩;rw[es];exact m
    .rw[c5];obtain⟨b',j,M⟩:=Qw.aa.fy m c2;rw[c4]at j;injection j with j
     injection j with j
     subst j;refine(Ou (u[i]'n3).2 P[i].2 M N K.2).I1 λh6 T=>?_;have H7:=Qw.aa.kR (k:=bP) (n:=n) c4 T;have es:c=((d.append z P[i].2).1,(d.append z P[i].2).2.1,r.set n (cO (d.append z P[i].2).2.2)):=by rw[p];unfold dX;rw[c3];simp only[iG,c0,qj]
     refine⟨_,n2,I4,by rw[es],?_⟩;rw[es];exact H7
   .rintro e4 J ⟨rfl,A⟩;refine bt (λe2=>?_) λe2=>⟨e2,A⟩
    rw[m6 e2]at f;have:layAll P w ds=c:=by unfold layAll;rw[f];exact m6 e2
    rw[this];exact⟨n2,A.nF.nF⟩
  .rintro _ J ⟨e2,A⟩;rw[l0 e2]at f;refine⟨P[i].1,by rw[<-O];exact(A.box 1 n2).cell0 n2,?_⟩;refine A.push af 2 n2 eK n2 n4 (λ_=>rfl) cP P[i].1 n2 n4 n7 λU V M=>?_;refine⟨(U,i+1,c.2.1,c.2.2),n8,⟨n5,f,?_⟩,n5⟩
   try dsimp only
   rw[aC _ _ q,qG];exact M.aF 3 [2,0]
 .have L:i=n1 P:=n3
  subst L;rw[List.drop_length]at f;rw[qy]at I;have E:=(I.freeze 0 n2 λ_=>rfl).aF 2 [1,0];have F:layAll P w ds=iR (gv (P.map qF)) z r:=by unfold layAll;rw[f];rfl
  refine(Sm o (P.map qF) (St.dN 0 n2 λh' W=>W) n7 (λx Q=>?_) E).mono ?_
  .obtain⟨y,hy,rfl⟩:=qI.1 Q;exact(D y hy).1
  .rintro _ Y ⟨rfl,m⟩;refine⟨_,n2,by rw[F],?_⟩;rw[F];exact m.nF
theorem EO(x:aY)(m:aA)(s:Sl)(a:aD)(h:hY)(hx:cj h x m)(H:bG m)(V:Rd h s 1 aq a)(Y:n1 a<=2^10):
  an xZ 77 #[cu x,s] h λv h'=>∃(r:Sl) (X:List (Int×Sl)),v=r/\Sp h h' [cy dZ 2 piv r X (bo m a)]:=by
 refine ts Tryz.func77 ?_ (G7 (G7 (G7 (E8 (G7 (F8 (G0 [(6,bN),(15,aH)] [(6,7),(8,9),(10,11),(15,33)] (G7 (G7 (E8 (F8 (G7 (G7 (F8 (G0 [(6,bN),(21,aH)] [(6,7),(10,11),(21,32)] E9))))) E9)))))) E9)))) (args:=[x,s]);refine(Sp.refl h).boxed λa1 U L=>?_;refine⟨x,(L.box 0 n2).aw _ n2,(mY x m U (hx.up L.ac) H).I2 λr h2 R2=>?_⟩;have y:=L.bV R2;refine⟨r,n2,?_⟩;obtain⟨rs,y⟩:=y.MF λ_=>rfl;have J:=jB m H;obtain⟨d,F⟩:=I3 (bI m)
 rw[<-F]at y J;have R:=y.dv 0 n2;have ad:=R.1.len;have Z:=R.2.1;have ab:=V.len;obtain⟨T,G⟩:∃T:Int->List ((Int×Sl)×(Int×aS)),T=λn=>(rs.zip d).map λz=>((n,z.1),(n,z.2)):=⟨_,rfl⟩
 have f:∀n,(T n).length=n1 d:=λn=>by rw[G];simp;omega
 have N:∀n,(T n).map zk=d.map λc=>(n,c):=λn=>by
  have H:=xp (l₁:=rs) (l₂:=d) n3
  conv=>rhs;rw[<-H]
  rw[G];simp[vf,Function.comp_def]
 have K:∀n j (Q:j<n1 d),(T n)[j]'(by rw[f];exact Q)=((n,rs[j]'n3),(n,d[j])):=λn j Q=>by subst G;simp
 have w:=(y.nil 131 2 piv).bs [2,0];have A:∀i,i<=n1 a->((a.take i).flatMap T).length<=i*3000:=λi=>by
  induction i with
  |zero=>simp
  |succ i ih=>
   intro S;rw[aC _ _ (show i<n1 a by omega),ze,qq];have U:=ih n3;have h2:([a[i]].flatMap T).length=n1 d:=by rw[zA,wB,qR,f]
   omega
 refine ak (λt:Sl×Nat=>(t.1,(t.2:Int))) (λt h'=>t.2<=n1 a/\Sp h h' [ai 131 t.1 2 piv (((a.take t.2).flatMap T).map qF),cy (iJ 1 ar) 1 bv r rs d]) (λt=>n1 a-t.2) (⟨dB,0,0⟩,0) n2 ⟨n9,w⟩ ?_;rintro⟨o,i⟩ h3 ⟨S,w⟩;dsimp only at*;refine ae (λe=>?_) (λe=>?_)
 .have E:i<n1 a:=n3
  have ht:=A i S;have hb:i*3000<=2^10*3000:=zo _ n3;refine(Seq.up V w.ac).aX i n2 E a[i] n2 ?_;refine ak (λt:Sl×Nat=>(t.1,(t.2:Int))) (λt h'=>t.2<=n1 d/\Sp h h' [ai 131 t.1 2 piv (((a.take i).flatMap T).map qF++((T a[i]).take t.2).map qF),cy (iJ 1 ar) 1 bv r rs d]) (λt=>n1 d-t.2) (o,0) n2 ⟨n9,by simpa using w⟩ ?_;rintro⟨u,j⟩ h4 ⟨Q,p⟩;dsimp only at*;refine ae (λe2=>?_) (λe2=>?_)
  .have D:j<n1 d:=n3
   refine(p.dv 1 n2).1.lm j n2 n3 ?_;refine p.push af 0 n2 MG n2 n4 (λ_=>rfl) sX (a[i],rs[j]'n3) n2 n4 (by simp only[qq,qp,qB,f];omega) λu' h5 H5=>?_;refine⟨(u',j+1),n8,⟨n5,?_⟩,n5⟩
   try dsimp only
   rw[aC (T a[i]) j (by rw[f];exact D),qG,K _ _ D,<-qo];exact H5
  .have P:j=n1 d:=n3
   subst P;rw[qh (l:=T a[i]) (by rw[f];exact qk _)]at p;refine⟨(u,i+1),n8,⟨n5,?_⟩,n5⟩
   try dsimp only
   rw[aC _ _ E,ze,qG,zA,wB,qR];exact p
 .have M:i=n1 a:=n3
  subst M;rw[qy]at w;refine⟨o,(a.flatMap T).map qF,n2,?_⟩;have p:=(w.freeze 0 n2 λ_=>rfl).jW;refine p.dG 0 n2 λq ⟨q1,q2,_,b,c,z1,z2⟩=>?_;have B:(a.flatMap T).map zk=bo m a:=by unfold bo;rw[List.map_flatMap,<-F];congr 1;funext n;exact N n
  rw[<-B];refine⟨z2.mono c,n9,λj r' l' g I=>?_⟩;rw[qP]at g I;cases g3:(a.flatMap T)[j]? with
  |none=>rw[g3]at g;cases g
  |some t=>
   rw[g3]at g I;simp at g I;subst g;subst I;obtain⟨n,_,W⟩:=yd.1 (zN g3);rw[G]at W;obtain⟨z,O,rfl⟩:=qI.1 W;obtain⟨k,hk,rfl⟩:=List.mem_iff_getElem.1 O;rw[yt];exact⟨n2,(z1.2.2 k _ _ (qd _) (qd _)).mono b⟩
end
section
variable {d:List bw}
theorem Sn{d b:List bw}{y:bw}(c:Sd cF (d++b))(g:∀z∈d,cF z y=eH)(f:∀z∈b,¬cF z y=eH):Sd cF (d++y::b):=
 Sd.app eE c.left (zw.2 ⟨λz a=>eE.CB (f z a),c.right⟩) λx e z a=>by
  rcases qQ.1 a with rfl|a
  .exact g x e
  .exact c.Ec x e z a
theorem AA(X M Y:List bw)(a b:Int)(ha:a=(n1 X:Int))(hb:b=(n1 X+n1 M:Nat))(ad:n1 X+n1 M+n1 Y<=2^40)(H:aa B h0 h (bU s (X++(M++Y))::As)):
  an xZ 323 #[s,xP xV a,xP xV b,.func (.func 186) #[] #[]] h λv h'=>v=.tuple #[]/\∃U,Sd cF U/\cE cF M U/\aa B h0 h' (bU s (X++(U++Y))::As):=by
 refine ts Tryz.func323 ?_ (G7 (F8 (G0 [(8,aH)] [(8,10),(12,53)] (G7 (E8 (F8 (G7 (F8 (G0 [(9,aH)] [(9,10),(18,53)] (HF [] [(18,35)] E9))))) E9))))) (args:=[s,(a:Int),(b:Int),(.func (.func 186) #[] #[])]);subst ha;subst hb;rw[ag ((n1 X:Int)+1)];refine ak (λt:Nat×List bw=>((n1 X+1+t.1:Nat):Int)) (λt h'=>(t.1+1<=n1 M∨t.1=0)/\Sd cF t.2/\cE cF (M.take (t.1+1)) t.2/\t.2.length=(M.take (t.1+1)).length/\aa B h0 h' (bU s (X++(t.2++(M.drop (t.1+1)++Y)))::As)) (λt=>n1 M-t.1) (0,M.take 1) n2 ?_ ?_
 .refine⟨.inr n2,?_,cE.refl _,n2,?_⟩
  .cases M with
   |nil=>exact List.Pairwise.nil
   |cons x M=>exact zw.2 ⟨λ_ h=>C4,n9⟩
  .rw[<-qo (M.take (0+1)),qD];exact H
 rintro⟨t,P⟩ h1 ⟨ht,q,r,ab,S⟩;dsimp only at*;refine ae (λe=>?_) (λe=>?_)
 .have J:t+1<n1 M:=n3
  obtain⟨y,hy⟩:=I3 (M[t+1])
  have G:n1 P=t+1:=by rw[ab];simp;omega
  have eD:M.drop (t+1)=y::M.drop (t+1+1):=by rw[qW J,hy]
  rw[eD]at S;refine ak (λu:List bw×List bw=>((n1 X+n1 u.1:Nat):Int)) (λu h'=>u.1++u.2=P/\(∀z∈u.2,¬cF z y=eH)/\aa B h0 h' (bU s (X++(u.1++(y::(u.2++(M.drop (t+1+1)++Y)))))::As)) (λu=>n1 u.1) (P,[]) (by dsimp only;rw[G];congr 1;omega) ⟨n9,n9,C6⟩ ?_;rintro⟨c,d⟩ W ⟨L,f,I⟩;dsimp only at*;have ah:n1 c+n1 d=t+1:=by rw[<-G,<-L,qq]
  have done:∀{h':hY},(∀z∈c,cF z y=eH)->aa B h0 h' (bU s (X++(c++(y::(d++(M.drop (t+1+1)++Y)))))::As)->
    ∃k:Nat×List bw,qe xV (((n1 X+1+t:Nat):Int)+1)=((n1 X+1+k.1:Nat):Int)/\((k.1+1<=n1 M∨k.1=0)/\Sd cF k.2/\cE cF (M.take (k.1+1)) k.2/\k.2.length=(M.take (k.1+1)).length/\aa B h0 h' (bU s (X++(k.2++(M.drop (k.1+1)++Y)))::As))/\M.length-k.1<n1 M-t:=λ{h'} hle H'=>by
   refine⟨(t+1,c++y::d),by dsimp only;rw[ag _];omega,⟨.inl n5,?_,?_,?_,?_⟩,n5⟩
   .exact Sn C9 hle f
   .try dsimp only
    rw[aC M (t+1) J,<-hy];have h1:cE cF (M.take (t+1)++[y]) (P++[y]):=r.app (cE.refl _);refine h1.trans ?_;rw[<-L,qo];have W:cE cF (d++[y]) ([y]++d):=cE.Ub eE λx hx z R=>by rw[qA.1 R];exact f x hx
    exact(cE.refl _).app W
   ·(try dsimp only);simp;omega
   .try dsimp only
    have:X++((c++y::d)++(M.drop (t+1+1)++Y))=X++(c++(y::(d++(M.drop (t+1+1)++Y)))):=n9
    rw[this];exact H'
  obtain⟨D,O⟩:=I3 (X++(c++(y::(d++(M.drop (t+1+1)++Y)))))
  refine bj (λ_ h'=>∃(Q:List bw) (z:bw),c=Q++[z]/\¬cF z y=eH/\aa B h0 h' (bU s D::As)) ?_ ?_
  .rw[<-O]at I done;refine ae (λe2=>?_) (λe2=>⟨I4,done (λz R=>?_) I⟩)
   .have K:c≠[]:=λh=>by rw[h]at e2;simp at e2
    obtain⟨Q,z,o⟩:∃(Q:List bw) (z:bw),c=Q++[z]:=⟨c.dropLast,c.getLast K,(List.dropLast_concat_getLast K).symm⟩
    have Z:n1 c=n1 Q+1:=by rw[o];simp
    have g1:D[n1 X+n1 c]?=cO y:=by rw[O,ql n3,show X.length+n1 c-n1 X=n1 c by omega,ql n3,zh];rfl
    have g2:D[n1 X+n1 c-1]?=cO z:=by rw[O,ql n3,show X.length+n1 c-1-n1 X=n1 Q by omega,o,qo,ql (qk _),zh];rfl
    obtain⟨N,E⟩:=qm.1 g1;obtain⟨T,p⟩:=qm.1 g2;refine(I.seq 0 n2 λ_=>rfl).cH (g:=bB) _ n2 N y (by rw[E]) ?_;have V:qe xV (((n1 X+n1 c:Nat):Int)-1)=((n1 X+n1 c-1:Nat):Int):=o6
    rw[V];refine(I.seq 0 n2 λ_=>rfl).cH (g:=bB) _ n2 T z (by rw[p]) (fB qa ?_);refine(oU y z W).I1 λh3 R3=>?_;have F:=I.up R3.ac;refine⟨_,n2,I4,ae (λe3=>⟨Q,z,o,(pK y z).1 e3,F⟩) λe3=>done (λw l=>?_) F⟩;have m:cF z y=eH:=by
     by_cases hc:cF z y=eH
     .exact hc
     .exact absurd ((pK y z).2 hc) e3
    rw[o]at l;rcases qu.1 l with l|l
    .refine eE.trans _ _ _ ?_ m;have:Sd cF (Q++[z]):=by rw[<-o];exact Sd.left (v:=d) C9
     exact this.Ec w l z n9
    .rw[qA.1 l];exact m
   .have:c=[]:=by
     cases c with
     |nil=>rfl
     |cons x P=>exfalso;simp only[zc]at e2;omega
    rw[this]at R;cases R
  .rintro _ h3 ⟨Q,z,o,m,F⟩;have Z:n1 c=n1 Q+1:=by rw[o];simp
   have A:D=(X++Q)++z::([]++y::(d++(M.drop (t+1+1)++Y))):=by rw[O,o];simp
   obtain⟨q1,q2,q3,q4⟩:=MB (X++Q) [] (d++(M.drop (t+1+1)++Y)) z y (i:=n1 X+n1 c-1) (j:=n1 X+n1 c) n7 n7;rw[<-A]at q1 q2 q3 q4;obtain⟨T,p⟩:=qm.1 q1;obtain⟨N,E⟩:=qm.1 q2;have V:qe xV (((n1 X+n1 c:Nat):Int)-1)=((n1 X+n1 c-1:Nat):Int):=o6
   rw[V];refine(F.seq 0 n2 λ_=>rfl).cH (g:=bB) _ n2 T z (by rw[p]) ?_;refine(F.seq 0 n2 λ_=>rfl).cH (g:=bB) _ n2 N y (by rw[E]) ?_;refine F.set af 0 n2 (λ_=>rfl) n2 (n1 X+n1 c) n2 N z n2 n2 n2 λh4 H4=>⟨I4,?_⟩
   refine H4.set af 0 n2 (λ_=>rfl) n2 (n1 X+n1 c-1) n2 D3 y n2 n2 n2 λh5 H5=>⟨I4,?_⟩
   refine⟨(Q,z::d),by dsimp only;congr 1;omega,⟨by dsimp only;rw[<-L,o];simp,?_,?_⟩,n5⟩
   .try dsimp only
    intro w l;rcases qQ.1 l with rfl|l
    .exact m
    .exact f w l
   .try dsimp only
    have:X++(Q++(y::(z::d++(M.drop (t+1+1)++Y))))=(X++Q)++y::([]++z::(d++(M.drop (t+1+1)++Y))):=n9
    rw[this,<-q4];exact H5
 .refine⟨n2,P,q,?_,?_⟩
  .rw[qh n3]at r;exact r
  .rw[zl n3]at S;simpa using S
end
theorem Eu(x y:Nat)(h:x+y<=2^62:=by omega):qe xV (zr (qe xY (qe xV ((x:Int)+(y:Int)))) (2^min (1:Int).toNat (qx xY)))=(((x+y)/2:Nat):Int):=by
 rw[ag ((x:Int)+y)];have e:qe xY ((x:Int)+(y:Int))=(x:Int)+y:=by unfold qe;simp[qx,yG];omega
 rw[e,show min (1:Int).toNat (qx xY)=1 from n2,Int.fdiv_eq_ediv_of_nonneg _ n4,ag _];omega
section
variable {d:List bw}
theorem wn{x y:bw}(h:¬lO x y<0):cF y x=eH:=by
 by_cases a:cF y x=eH
 .exact a
 .exact absurd ((pK x y).2 a) h
theorem ki{K:bw->Prop}(H:aa B h0 h (bU s d::As)){i:Int}(n:Nat)(j:i=n){x:bw}(c:d[n]?=cO x)(f:K x):
  ∃a:fY,(s.ptr=cO a/\0<=i/\i<((s.len:Nat):Int))/\∃x:bw,bA h (a.add (i.toNat*8)) 0 (bB x)/\K x:=by
 obtain⟨e,b⟩:=qm.1 c;exact(H.seq 0 n2 λ_=>rfl).cH (g:=bB) n j e x (by rw[b]) f
theorem IL(x:bw)(X R Y:List bw)(ab:n1 X+1+n1 R+n1 Y<=2^40)(I:Sd cF R)(H:aa B h0 h (bU s (X++(x::(R++Y)))::As)){K:vq}
  (d:∀h',(∃M,Sd cF M/\cE cF (x::R) M/\aa B h0 h' (bU s (X++(M++Y))::As))->K (.tuple #[]) h') (a m b:Int) (ha:a=(n1 X:Int)) (hm:m=(n1 X+1:Nat)) (hb:b=(n1 X+1+n1 R:Nat)):
  gU (σ:=Int×Int) (λc K1 g=>
   Br (decide (c.1<c.2))
   ((0<=(1:Int))/\
   ∃a2:fY,(s.ptr=cO a2/\0<=(qe xV (zr (qe xY (qe xV (c.1+c.2))) (2^min (1:Int).toNat (qx xY))))/\(qe xV (zr (qe xY (qe xV (c.1+c.2))) (2^min (1:Int).toNat (qx xY))))<((s.len:Nat):Int))/\
   ∃x3:bw,bA g (a2.add ((qe xV (zr (qe xY (qe xV (c.1+c.2))) (2^min (1:Int).toNat (qx xY)))).toNat*8)) 0 (bB x3)/\
   ∃a4:fY,(s.ptr=cO a4/\0<=a/\a<((s.len:Nat):Int))/\
   ∃x5:bw,bA g (a4.add (a.toNat*8)) 0 (bB x5)/\
   th C 186 ((#[]:Array Value).toList++[recv x3,recv x5]++(#[]:Array Value).toList) (.one (.sc (.int .i64))) g λr6 n=>
   (bF.ok [] n)/\
   Br (decide (r6<(0:Int)))
   (K1 (qe xV ((qe xV (zr (qe xY (qe xV (c.1+c.2))) (2^min (1:Int).toNat (qx xY))))+(1:Int)),c.2) n)
   (K1 (c.1,qe xV (zr (qe xY (qe xV (c.1+c.2))) (2^min (1:Int).toNat (qx xY)))) n))
   (gU (σ:=Int) (λf K2 h3=>
   Br (decide (f<(qe xV (c.1-(1:Int)))))
   (∃a8:fY,(s.ptr=cO a8/\0<=(qe xV (f+(1:Int)))/\(qe xV (f+(1:Int)))<((s.len:Nat):Int))/\
   ∃x9:bw,bA h3 (a8.add ((qe xV (f+(1:Int))).toNat*8)) 0 (bB x9)/\
   ∃J:fY,(s.ptr=cO J/\0<=f/\f<((s.len:Nat):Int))/\
   ∃E:bw,bA h3 (J.add (f.toNat*8)) 0 (bB E)/\
   ∃G:fY,(s.ptr=cO G/\0<=f/\f<((s.len:Nat):Int))/\
   av xZ (qL 144 (xR (cO (G.add (f.toNat*8)))) (recv x9)) h3 λ_ V=>
   (bF.ok [] V)/\
   ∃D:fY,(s.ptr=cO D/\0<=(qe xV (f+(1:Int)))/\(qe xV (f+(1:Int)))<((s.len:Nat):Int))/\
   av xZ (qL 144 (xR (cO (D.add ((qe xV (f+(1:Int))).toNat*8)))) (recv E)) V λ_ P=>
   (bF.ok [] P)/\
   K2 (qe xV (f+(1:Int))) P)
   (K (.tuple #[]) h3)) a g)) (m,b) h:=by
 subst ha;subst hm;subst hb;refine ak (λt:Nat×Nat=>(((n1 X+1+t.1:Nat):Int),((n1 X+1+t.2:Nat):Int))) (λt h'=>t.1<=t.2/\t.2<=n1 R/\(∀k (d:k<n1 R),k<t.1->¬cF x R[k]=eH)/\(∀k (d:k<n1 R),t.2<=k->cF x R[k]=eH)/\aa B h0 h' (bU s (X++(x::(R++Y)))::As)) (λt=>t.2-t.1) (0,n1 R) n2 ⟨n9,n9,λ_ _ h=>C4,λ_ g n=>absurd g (by simpa using n),H⟩ ?_;rintro⟨i,j⟩ g ⟨ah,hj,q,r,N⟩;dsimp only at*;refine ae (λe=>?_) (λe=>?_)
 .have o:i<j:=n3
  rw[Eu _ _];have eh:((n1 X+1+i)+(n1 X+1+j))/2=n1 X+1+(i+j)/2:=n3
  rw[eh];have d:(i+j)/2<n1 R:=n3
  refine⟨n4,ki N _ n2 (x:=R[(i+j)/2]) ?_ (ki N X.length n2 (x:=x) ?_ (fB qa ?_))⟩
  .rw[ql n3,show X.length+1+(i+j)/2-n1 X=(i+j)/2+1 by omega,qX,qw d,qd d]
  .rw[ql (qk _),zh];rfl
  refine(oU R[(i+j)/2] x g).I1 λn R2=>?_;have H2:=N.up R2.ac;refine⟨_,n2,I4,ae (λe2=>?_) λe2=>?_⟩
  .have U:=(pK _ _).1 e2;refine⟨((i+j)/2+1,j),n8,⟨n5,hj,λk L W=>?_,r,H2⟩,n5⟩;intro hc;exact U (eE.trans _ _ _ hc (I.at_ eE (i:=k) (j:=(i+j)/2) (by dsimp only at W;omega) d))
  .refine⟨(i,(i+j)/2),n2,⟨n5,n5,q,λk L Z=>?_,H2⟩,n5⟩;exact eE.trans _ _ _ (wn e2) (I.at_ eE (by dsimp only at Z;omega) L)
 .have o:i=j:=n3
  subst o;have hM:Sd cF (R.take i++x::R.drop i):=by
   refine Sd.app eE (Sd.left (v:=R.drop i) (by rw[qD];exact I)) (zw.2 ⟨λz A=>?_,Sd.right (u:=R.take i) (by rw[qD];exact I)⟩) λz A w y=>?_
   .obtain⟨k,d,rfl⟩:=qE A;rw[zR];exact r _ _ n3
   .obtain⟨k,d,rfl⟩:=qE A;rw[zL];have T:k<i:=sR
    have g:=eE.CB (q k sR T);rcases qQ.1 y with rfl|y
    .exact g
    .obtain⟨l,hl,rfl⟩:=qE y;rw[zR];exact I.at_ eE n3 (by simp at hl;omega)
  have hE:cE cF (x::R) (R.take i++x::R.drop i):=by
   have g:cE cF ([x]++R.take i) (R.take i++[x]):=cE.Ub eE λz A w y=>by
    rw[qA.1 A];obtain⟨k,d,rfl⟩:=qE y;rw[zL];exact q k sR sR
   have n:=g.app (cE.refl (le:=cF) (R.drop i));have e1:([x]++R.take i)++R.drop i=x::R:=by rw[qo,qD];rfl
   have e2:(R.take i++[x])++R.drop i=R.take i++x::R.drop i:=n9
   rw[e1,e2]at n;exact n
  have el:qe xV (((n1 X+1+i:Nat):Int)-1)=((n1 X+i:Nat):Int):=o6
  rw[el];refine ak (λt:Nat=>((n1 X+t:Nat):Int)) (λt h'=>t<=i/\aa B h0 h' (bU s (X++(R.take t++(x::(R.drop t++Y))))::As)) (λt=>i-t) 0 n2 ⟨n3,by simpa using N⟩ ?_;rintro t h3 ⟨ht,O⟩;refine ae (λe2=>?_) (λe2=>?_)
  .have ad:t<i:=n3
   have F:t<n1 R:=n3
   have p:X++(R.take t++(x::(R.drop t++Y)))=(X++R.take t)++x::([]++R[t]::(R.drop (t+1)++Y)):=by rw[qW F];simp only[qo,zI,w8]
   obtain⟨S,Q,q3,q4⟩:=MB (X++R.take t) [] (R.drop (t+1)++Y) x R[t] (i:=n1 X+t) (j:=n1 X+t+1) n7 n7;rw[<-p]at S Q q3 q4;have ek:qe xV (((n1 X+t:Nat):Int)+1)=((n1 X+t+1:Nat):Int):=o6
   rw[ek];refine ki O _ n2 Q (ki O _ n2 S ?_);refine O.set af 0 n2 (λ_=>rfl) n2 (n1 X+t) n2 (qm.1 S).1 R[t] n2 n2 n2 λV H4=>⟨I4,?_⟩
   refine H4.set af 0 n2 (λ_=>rfl) n2 (n1 X+t+1) n2 (by rw[qK];exact(qm.1 Q).1) x n2 n2 n2 λP H5=>⟨I4,?_⟩
   refine⟨t+1,n2,⟨n3,?_⟩,n3⟩;have e3:X++(R.take (t+1)++(x::(R.drop (t+1)++Y)))=(X++R.take t)++R[t]::([]++x::(R.drop (t+1)++Y)):=by rw[aC R t F];simp only[qo,zI,w8]
   rw[e3,<-q3];exact H5
  .have:t=i:=n3
   subst this;refine d h3 ⟨R.take t++x::R.drop t,hM,hE,?_⟩;have:X++((R.take t++x::R.drop t)++Y)=X++(R.take t++(x::(R.drop t++Y))):=n9
   rw[this];exact O
theorem GQ(y:bw)(X L Y:List bw)(ao:n1 X+n1 L+1+n1 Y<=2^40)(P:Sd cF L)(H:aa B h0 h (bU s (X++(L++(y::Y)))::As)){K:vq}
  (d:∀h',(∃M,Sd cF M/\cE cF (L++[y]) M/\aa B h0 h' (bU s (X++(M++Y))::As))->K (.tuple #[]) h') (a m:Int) (ha:a=(n1 X:Int)) (hm:m=(n1 X+n1 L:Nat)):
  gU (σ:=Int×Int) (λb K3 Z=>
   Br (decide (b.1<b.2))
   ((0<=(1:Int))/\
   ∃A:fY,(s.ptr=cO A/\0<=m/\m<((s.len:Nat):Int))/\
   ∃E:bw,bA Z (A.add (m.toNat*8)) 0 (bB E)/\
   ∃N:fY,(s.ptr=cO N/\0<=(qe xV (zr (qe xY (qe xV (b.1+b.2))) (2^min (1:Int).toNat (qx xY))))/\(qe xV (zr (qe xY (qe xV (b.1+b.2))) (2^min (1:Int).toNat (qx xY))))<((s.len:Nat):Int))/\
   ∃D:bw,bA Z (N.add ((qe xV (zr (qe xY (qe xV (b.1+b.2))) (2^min (1:Int).toNat (qx xY)))).toNat*8)) 0 (bB D)/\
   th C 186 ((#[]:Array Value).toList++[recv E,recv D]++(#[]:Array Value).toList) (.one (.sc (.int .i64))) Z λah h7=>
   (bF.ok [] h7)/\
   Br (!(decide (ah<(0:Int))))
   (K3 (qe xV ((qe xV (zr (qe xY (qe xV (b.1+b.2))) (2^min (1:Int).toNat (qx xY))))+(1:Int)),b.2) h7)
   (K3 (b.1,qe xV (zr (qe xY (qe xV (b.1+b.2))) (2^min (1:Int).toNat (qx xY)))) h7))
   (gU (σ:=Int) (λc K4 h8=>
   Br (decide (c>b.1))
   (∃T:fY,(s.ptr=cO T/\0<=(qe xV (c-(1:Int)))/\(qe xV (c-(1:Int)))<((s.len:Nat):Int))/\
   ∃J:bw,bA h8 (T.add ((qe xV (c-(1:Int))).toNat*8)) 0 (bB J)/\
   ∃S:fY,(s.ptr=cO S/\0<=c/\c<((s.len:Nat):Int))/\
   ∃I:bw,bA h8 (S.add (c.toNat*8)) 0 (bB I)/\
   ∃a25:fY,(s.ptr=cO a25/\0<=c/\c<((s.len:Nat):Int))/\
   av xZ (qL 144 (xR (cO (a25.add (c.toNat*8)))) (recv J)) h8 λ_ h9=>
   (bF.ok [] h9)/\
   ∃G:fY,(s.ptr=cO G/\0<=(qe xV (c-(1:Int)))/\(qe xV (c-(1:Int)))<((s.len:Nat):Int))/\
   av xZ (qL 144 (xR (cO (G.add ((qe xV (c-(1:Int))).toNat*8)))) (recv I)) h9 λ_ Q=>
   (bF.ok [] Q)/\
   K4 (qe xV (c-(1:Int))) Q)
   (K (.tuple #[]) h8)) m Z)) (a,m) h:=by
 subst ha;subst hm;refine ak (λt:Nat×Nat=>(((n1 X+t.1:Nat):Int),((n1 X+t.2:Nat):Int))) (λt h'=>t.1<=t.2/\t.2<=n1 L/\(∀k (d:k<n1 L),k<t.1->cF L[k] y=eH)/\(∀k (d:k<n1 L),t.2<=k->¬cF L[k] y=eH)/\aa B h0 h' (bU s (X++(L++(y::Y)))::As)) (λt=>t.2-t.1) (0,n1 L) n2 ⟨n9,n9,λ_ _ h=>C4,λ_ n F=>absurd n (by simpa using F),H⟩ ?_;rintro⟨i,j⟩ n ⟨ax,hj,O,g,V⟩;dsimp only at*;refine ae (λe=>?_) (λe=>?_)
 .have f:i<j:=n3
  rw[Eu _ _];have eh:((n1 X+i)+(n1 X+j))/2=n1 X+(i+j)/2:=n3
  rw[eh];have d:(i+j)/2<n1 L:=n3
  refine⟨n4,ki V (n1 X+n1 L) n2 (x:=y) ?_ (ki V _ n2 (x:=L[(i+j)/2]) ?_ (fB qa ?_))⟩
  .rw[ql n3,show X.length+n1 L-n1 X=n1 L by omega,ql (qk _),zh];rfl
  .rw[ql n3,show X.length+(i+j)/2-n1 X=(i+j)/2 by omega,qw d,qd d]
  refine(oU y L[(i+j)/2] n).I1 λF R2=>?_;have H2:=V.up R2.ac;refine⟨_,n2,I4,?_⟩;by_cases e2:lO y L[(i+j)/2]<0
  .have ad:=(pK _ _).1 e2;refine aI (λR=>absurd R v7) λ_=>?_;refine⟨(i,(i+j)/2),n2,⟨n5,n5,O,λk U am=>?_,H2⟩,n5⟩;intro hc;exact ad (eE.trans _ _ _ (P.at_ eE (i:=(i+j)/2) (j:=k) (by dsimp only at am;omega) U) hc)
  .refine aI (λ_=>?_) λR=>absurd R v7;refine⟨((i+j)/2+1,j),n8,⟨n5,hj,λk U al=>?_,g,H2⟩,n5⟩;exact eE.trans _ _ _ (P.at_ eE (by dsimp only at al;omega) d) (wn e2)
 .have f:i=j:=n3
  subst f;have hM:Sd cF (L.take i++y::L.drop i):=by
   refine Sd.app eE (Sd.left (v:=L.drop i) (by rw[qD];exact P)) (zw.2 ⟨λz r=>?_,Sd.right (u:=L.take i) (by rw[qD];exact P)⟩) λz r w q=>?_
   .obtain⟨k,d,rfl⟩:=qE r;rw[zR];exact eE.CB (g _ sR n3)
   .obtain⟨k,d,rfl⟩:=qE r;rw[zL];have ab:k<i:=sR
    have n:=O k sR ab;rcases qQ.1 q with rfl|q
    .exact n
    .obtain⟨l,hl,rfl⟩:=qE q;rw[zR];exact P.at_ eE n3 (by simp at hl;omega)
  have hE:cE cF (L++[y]) (L.take i++y::L.drop i):=by
   have n:cE cF (L.drop i++[y]) ([y]++L.drop i):=cE.Ub eE λz r w q=>by
    rw[qA.1 q];obtain⟨k,d,rfl⟩:=qE r;rw[zR];exact g _ sR n3
   have F:=(cE.refl (le:=cF) (L.take i)).app n;have e1:L.take i++(L.drop i++[y])=L++[y]:=by rw[<-qo,qD]
   rw[e1]at F;exact F
  refine ak (λt:Nat=>((n1 X+t:Nat):Int)) (λt h'=>i<=t/\t<=n1 L/\aa B h0 h' (bU s (X++(L.take t++(y::(L.drop t++Y))))::As)) (λt=>t-i) L.length n2 ⟨n3,n3,by simpa using V⟩ ?_;rintro t h3 ⟨ht,ap,W⟩;refine ae (λe2=>?_) (λe2=>?_)
  .obtain⟨u,rfl⟩:∃u,t=u+1:=⟨t-1,n3⟩
   have p:u<n1 L:=n3
   have o:X++(L.take (u+1)++(y::(L.drop (u+1)++Y)))=(X++L.take u)++L[u]::([]++y::(L.drop (u+1)++Y)):=by rw[aC L u p];simp only[qo,zI,w8]
   obtain⟨q1,q2,q3,q4⟩:=MB (X++L.take u) [] (L.drop (u+1)++Y) L[u] y (i:=n1 X+u) (j:=n1 X+(u+1)) n7 n7;rw[<-o]at q1 q2 q3 q4;have ek:qe xV (((n1 X+(u+1):Nat):Int)-1)=((n1 X+u:Nat):Int):=o6
   rw[ek];refine ki W _ n2 q1 (ki W _ n2 q2 ?_);refine W.set af 0 n2 (λ_=>rfl) n2 (n1 X+(u+1)) n2 (qm.1 q2).1 L[u] n2 n2 n2 λh4 H4=>⟨I4,?_⟩
   refine H4.set af 0 n2 (λ_=>rfl) n2 (n1 X+u) n2 (by rw[qK];exact(qm.1 q1).1) y n2 n2 n2 λh5 H5=>⟨I4,?_⟩
   refine⟨u,n2,⟨n3,n3,?_⟩,n3⟩;have R:X++(L.take u++(y::(L.drop u++Y)))=(X++L.take u)++y::([]++L[u]::(L.drop (u+1)++Y)):=by rw[qW p];simp only[qo,zI,w8]
   rw[R,<-q4];exact H5
  .have:t=i:=n3
   subst this;refine d h3 ⟨L.take t++y::L.drop t,hM,hE,?_⟩;have:X++((L.take t++y::L.drop t)++Y)=X++(L.take t++(y::(L.drop t++Y))):=n9
   rw[this];exact W
end
theorem US{L R:List bw}(h:Sd cF L)(l:Sd cF R)(p q:Nat)(r:p<=n1 L)(s:q<=n1 R)
  (n:∀i j (c:i<n1 L) (d:j<n1 R),i+1=p->j=q->cF L[i] R[j]=eH)
  (m:∀i j (c:i<n1 L) (d:j<n1 R),i=p->j+1=q->¬cF L[i] R[j]=eH):
  (∀x∈L.take p,∀y∈R.drop q,cF x y=eH)/\(∀x∈L.drop p,∀y∈R.take q,¬cF x y=eH):=by
 constructor
 .intro x e y g;obtain⟨i,c,rfl⟩:=qE e;obtain⟨j,d,rfl⟩:=qE g;rw[zL,zR];have b:i<p:=by simp at c;omega
  have a:q+j<n1 R:=sR
  have f:=h.at_ eE (i:=i) (j:=p-1) n3 n3;have o:=n (p-1) q n3 n3 n3 n2;have h3:=l.at_ eE (i:=q) (j:=q+j) n3 a;exact eE.trans _ _ _ f (eE.trans _ _ _ o h3)
 .intro x e y g k;obtain⟨i,c,rfl⟩:=qE e;obtain⟨j,d,rfl⟩:=qE g;rw[zL,zR]at k;have a:j<q:=sR
  have b:p+i<n1 L:=by simp at c;omega
  have f:=h.at_ eE (i:=p) (j:=p+i) n3 b;have h3:=l.at_ eE (i:=j) (j:=q-1) n3 n3;exact m p (q-1) n3 n3 n2 n3 (eE.trans _ _ _ f (eE.trans _ _ _ k h3))
theorem BW:∀(N:Nat) {B:au} {h0 h:hY} {As:List HP} {s:Sl} (X L R Y:List bw) (a m b:Int),0<n1 L->0<n1 R->n1 L+n1 R<=N->a=(n1 X:Int)->m=(n1 X+n1 L:Nat)->b=(n1 X+n1 L+n1 R:Nat)->n1 X+n1 L+n1 R+n1 Y<=2^40->Sd cF L->Sd cF R->
  aa B h0 h (bU s (X++(L++(R++Y)))::As)->
  an xZ 324 #[s,xP xV a,xP xV m,xP xV b,.func (.func 186) #[] #[]] h λv h'=>v=.tuple #[]/\∃M,Sd cF M/\cE cF (L++R) M/\aa B h0 h' (bU s (X++(M++Y))::As):=by
 intro N
 induction N with
 |zero=>intro B h0 h As s X L R Y a m b hL hR hN;omega
 |succ N ih=>
  intro B h0 h As s X L R Y a m b hL hR hN ha hm hb T S Q H;refine ts Tryz.func324 ?_ (E8 (G7 (E8 (G7 (G7 (E8 (F8 (G0 [(10,aH),(11,aH)] [(10,13),(31,54)] E9)) (Hf [(13,aH)] [(13,14),(55,77)])))) E9)) (E8 (G7 (E8 (G7 (G7 (E8 (F8 (G0 [(14,aH),(15,aH)] [(14,17),(83,107)] E9)) (Hf [(17,aH)] [(17,18),(108,129)])))) E9)) (G7 (G7 (G7 (HF [(20,aH),(21,aH)] [(20,22),(138,147)] (G7 (E8 (F8 (G0 [(20,aH),(21,aH)] [(20,22),(23,24),(149,175)] E9)) (G7 (HF [] [(178,192)] (HF [] [(192,206)] E9))))))))))) (args:=[s,(a:Int),(m:Int),(b:Int),(.func (.func 186) #[] #[])]);have e1:qe xV (m-a)=(n1 L:Int):=o6
  have e2:qe xV (b-m)=(n1 R:Int):=o6
  rw[e1,e2];refine aV (λc=>?_) λc=>aV (λc2=>?_) λc2=>?_
  .obtain⟨x,hx⟩:∃x,L=[x]:=by
    match L,hL,c with
    |[x],_,_=>exact⟨x,n2⟩
    |x::y::L,_,c=>simp at c;omega
   subst hx;exact IL (K:=λv h'=>v=.tuple #[]/\∃M,Sd cF M/\cE cF ([x]++R) M/\aa B h0 h' (bU s (X++(M++Y))::As)) x X R Y (by simp at T⊢;omega) Q H (λh' ⟨M,W,P,q3⟩=>⟨n2,M,W,P,q3⟩) a m b ha (by rw[hm];simp) (by rw[hb];simp)
  .obtain⟨y,hy⟩:∃y,R=[y]:=by
    match R,hR,c2 with
    |[x],_,_=>exact⟨x,n2⟩
    |x::y::L,_,c=>simp at c;omega
   subst hy;exact GQ (K:=λv h'=>v=.tuple #[]/\∃M,Sd cF M/\cE cF (L++[y]) M/\aa B h0 h' (bU s (X++(M++Y))::As)) y X L Y (by simp at T⊢;omega) S H (λh' ⟨M,W,P,q3⟩=>⟨n2,M,W,P,q3⟩) a m ha hm
  .refine⟨n4,?_⟩;subst ha;subst hm;subst hb;have c':n1 L≠1:=λA=>c n3;have bk:n1 R≠1:=λA=>c2 n3;rw[Eu X.length (n1 X+n1 L+n1 R)];obtain⟨BP,V⟩:=I3 ((n1 X+(n1 X+n1 L+n1 R))/2)
   rw[<-V];have en:qe xV ((BP:Int)+((n1 X+n1 L:Nat):Int))=((BP+(n1 X+n1 L):Nat):Int):=o6
   rw[en];obtain⟨n,hn⟩:=I3 (BP+(n1 X+n1 L))
   rw[<-hn];have ep:qe xV ((n:Int)-1)=((n-1:Nat):Int):=o6
   rw[ep];obtain⟨D,hD⟩:=I3 (X++(L++(R++Y)))
   have gL:∀i (f:i<n1 L),D[n1 X+i]?=cO L[i]:=λi f=>by
    rw[hD,ql n3,wK,qw f,qd f]
   have gR:∀i (f:i<n1 R),D[n1 X+n1 L+i]?=cO R[i]:=λi f=>by
    rw[hD,ql n3,show X.length+n1 L+i-n1 X=n1 L+i by omega,ql n3,wK,qw f,qd f]
   rw[<-hD]at H;refine bj (λ(g:Int×Int) h'=>h'=h/\∃o f:Nat,g=((o:Int),(f:Int))/\o<=f/\X.length<=o/\f<=n1 X+n1 L/\f<=BP/\n<=o+(n1 X+n1 L+n1 R)/\(o=n1 X∨n=o+(n1 X+n1 L+n1 R))/\(f=n1 X+n1 L∨f=BP)) ?_ ?_
   .refine ae (λe=>⟨n2,n-(n1 X+n1 L+n1 R),BP,?_,n3,n3,n3,n3,n3,n3,n3⟩) λe=>⟨n2,n1 X,n1 X+n1 L,n2,n3,n3,n3,n3,n3,n3,n3⟩
    have:qe xV ((n:Int)-((n1 X+n1 L+n1 R:Nat):Int))=((n-(n1 X+n1 L+n1 R):Nat):Int):=o6
    rw[this]
   .rintro⟨bq,bl⟩ _ ⟨rfl,o,f,a5,b1,b2,b3,b4,b5,b6,b7⟩;injection a5 with est1 est2
    subst est1;subst est2
    try dsimp only
    refine ak (λt:Nat×Nat=>((t.1:Int),(t.2:Int))) (λt h'=>o<=t.1/\t.1<=t.2/\t.2<=f/\
     (∀i j (l:i<n1 L) (hj:j<n1 R),n1 X+i+1=t.1->n1 X+i+(n1 X+n1 L+j)=n-1->o<t.1->cF L[i] R[j]=eH)/\
     (∀i j (l:i<n1 L) (hj:j<n1 R),n1 X+i=t.2->n1 X+i+(n1 X+n1 L+j)=n-1->t.2<f->¬cF L[i] R[j]=eH)/\
     aa B h0 h' (bU s D::As)) (λt=>t.2-t.1) (o,f) n2 ⟨n9,by simpa using b1,n9,λ_ _ _ _ _ _ F=>absurd F n9,λ_ _ _ _ _ _ F=>absurd F n9,H⟩ ?_
    rintro⟨g,r⟩ h1 ⟨t1,t2,t3,F1,F2,H1⟩;dsimp only at*;refine ae (λe=>?_) (λe=>?_)
    .have F:g<r:=n3
     rw[Eu _ _];obtain⟨I,bb⟩:=I3 ((g+r)/2)
     rw[<-bb];have a1:qe xV (((n-1:Nat):Int)-(I:Int))=((n-1-I:Nat):Int):=o6
     rw[a1];obtain⟨i,l⟩:∃i,I=n1 X+i:=⟨I-n1 X,n3⟩
     obtain⟨j,ap⟩:∃j,n-1-I=n1 X+n1 L+j:=⟨n-1-I-(n1 X+n1 L),n3⟩
     have a0:i<n1 L:=n3
     have a9:j<n1 R:=n3
     rw[ap,l];refine⟨n4,ki H1 _ n2 (gR j a9) (ki H1 _ n2 (gL i a0) (fB qa ?_))⟩;refine(oU R[j] L[i] h1).I1 λh2 R2=>?_;have G:=H1.up R2.ac;refine⟨_,n2,I4,?_⟩;by_cases e2:lO R[j] L[i]<0
     .have ay:=(pK _ _).1 e2;refine aI (λe3=>absurd e3 v7) λ_=>?_;refine⟨(g,n1 X+i),n2,⟨t1,n5,n5,F1,λi2 j2 a3 a6 w E _=>?_,G⟩,n5⟩;dsimp only at w;have:i2=i:=n3
      subst this;have:j2=j:=n3
      subst this;exact ay
     .refine aI (λ_=>?_) λe3=>absurd e3 v7;refine⟨(n1 X+i+1,r),n8,⟨n5,n5,t3,λi2 j2 a3 a6 w E _=>?_,F2,G⟩,n5⟩;dsimp only at w;have:i2=i:=n3
      subst this;have:j2=j:=n3
      subst this;exact wn e2
    .have ax:g=r:=n3
     subst ax;have bd:qe xV ((n:Int)-(g:Int))=((n-g:Nat):Int):=o6
     rw[bd];obtain⟨p,hp⟩:∃p,g=n1 X+p:=⟨g-n1 X,n3⟩
     obtain⟨q,hq⟩:∃q,n-g=n1 X+n1 L+q:=⟨n-g-(n1 X+n1 L),n3⟩
     have ao:p<=n1 L:=n3
     have a7:q<=n1 R:=n3
     obtain⟨a2,a8⟩:=US S Q p q ao a7 (λi j l hj w E=>F1 i j l hj n3 n3 (by
      by_cases a4:o<g
      .exact a4
      .exfalso;have:g=o:=n3
       omega)) (λi j l hj w E=>F2 i j l hj n3 n3 (by
      by_cases am:g<f
      .exact am
      .exfalso;have:g=f:=n3
       omega))
     have U:L.take p++L.drop p=L:=qD _ _;have eR:R.take q++R.drop q=R:=qD _ _;have l1:(L.take p).length=p:=n7
     have l2:(L.drop p).length=n1 L-p:=n9
     have r1:(R.take q).length=q:=n7
     have r2:(R.drop q).length=n1 R-q:=n9
     have Z:Sd cF (L.take p):=Sd.left (v:=L.drop p) (by rw[U];exact S);have ab:Sd cF (L.drop p):=Sd.right (u:=L.take p) (by rw[U];exact S);have ah:Sd cF (R.take q):=Sd.left (v:=R.drop q) (by rw[eR];exact Q);have ad:Sd cF (R.drop q):=Sd.right (u:=R.take q) (by rw[eR];exact Q);rw[hq,hp];refine bj (λ_ h'=>aa B h0 h' (bU s (X++(L.take p++(R.take q++(L.drop p++(R.drop q++Y)))))::As)) ?_ ?_
     .have z:aa B h0 h1 (bU s ((X++L.take p)++(L.drop p++(R.take q++(R.drop q++Y))))::As):=by
       have:(X++L.take p)++(L.drop p++(R.take q++(R.drop q++Y)))=D:=by
        rw[hD]
        conv=>rhs;rw[<-U,<-eR]
        simp only[qo,zI,w8]
       rw[this];exact H1
      refine ae (λw=>ae (λE=>?_) λE=>?_) λw=>?_
      .refine(Oy (X++L.take p) (L.drop p) (R.take q) (R.drop q++Y) _ _ _ n3 n3 n7 n7 n7 n7 z).I1 λh2 G=>⟨(),n2,?_⟩;rw[qo]at G;exact G
      .have:R.take q=[]:=qV n3;rw[this]at z⊢;simpa using z
      .have:L.drop p=[]:=qV n3;rw[this]at z⊢;simpa using z
     .rintro _ h2 G;refine bj (λ_ h'=>∃k,Sd cF k/\cE cF (L.take p++R.take q) k/\k.length=p+q/\aa B h0 h' (bU s (X++(k++(L.drop p++(R.drop q++Y))))::As)) ?_ ?_
      .have d:(L.take p=[]∨R.take q=[])->∃k,Sd cF k/\cE cF (L.take p++R.take q) k/\k.length=p+q/\aa B h0 h2 (bU s (X++(k++(L.drop p++(R.drop q++Y))))::As):=λO=>by
        refine⟨L.take p++R.take q,?_,cE.refl _,n7,by rw[qo];exact G⟩;rcases O with A|A
        .rw[A];exact ah
        .rw[A,qR];exact Z
       refine ae (λw=>ae (λE=>?_) λE=>d (.inr (qV n3))) λw=>d (.inl (qV n3));refine(ih X (L.take p) (R.take q) (L.drop p++(R.drop q++Y)) _ _ _ n3 n3 n3 n2 (by rw[l1]) (by rw[l1,r1];omega) n7 Z ah G).I1 λh3 ⟨k,W,P,q3⟩=>⟨(),n2,k,W,P,?_,q3⟩;have J:=sS eE P;rw[<-J];simp;omega
      .rintro _ h3 ⟨k,m1,m2,m3,H3⟩;have fin:∀{h':hY} {M2:List bw},Sd cF M2->cE cF (L.drop p++R.drop q) M2->aa B h0 h' (bU s (X++(k++(M2++Y)))::As)->(Value.tuple #[]=.tuple #[]/\∃M,Sd cF M/\cE cF (L++R) M/\aa B h0 h' (bU s (X++(M++Y))::As)):=λ{h' M2} k1 k2 k3=>by
        obtain⟨f1,f2⟩:=Uc eE (by rw[U];exact S) (by rw[eR];exact Q) a2 a8 m2 m1 k2 k1;rw[U,eR]at f2;exact⟨n2,k++M2,f1,f2,by rw[qo];exact k3⟩
       have d:(L.drop p=[]∨R.drop q=[])->(Value.tuple #[]=.tuple #[]/\∃M,Sd cF M/\cE cF (L++R) M/\aa B h0 h3 (bU s (X++(M++Y))::As)):=λO=>by
        refine fin (M2:=L.drop p++R.drop q) ?_ (cE.refl _) (by rw[qo];exact H3);rcases O with A|A
        .rw[A];exact ad
        .rw[A,qR];exact ab
       refine ae (λw=>ae (λE=>?_) λE=>d (.inr (qV n3))) λw=>d (.inl (qV n3));have al:aa B h0 h3 (bU s ((X++k)++(L.drop p++(R.drop q++Y)))::As):=by rw[qo];exact H3
       refine(ih (X++k) (L.drop p) (R.drop q) Y _ _ _ n3 n3 n3 n7 n7 n7 n7 ab ad al).I1 λh4 ⟨M2,k1,k2,k3⟩=>⟨(),n2,fin k1 k2 (by rw[qo]at k3;exact k3)⟩
def Bs(k:Nat)(l:List bw):Prop:=∀q,Sd cF ((l.drop (q*k)).take k)
theorem Bs.nil(k:Nat):Bs k []:=λq=>by simp[Sd]
theorem Bs.first{k:Nat}{l:List bw}(h:Bs k l):Sd cF (l.take k):=by have:=h 0;simpa using this
theorem Bs.rest{k:Nat}{l:List bw}(h:Bs k l):Bs k (l.drop k):=λq=>by
 have:=h (q+1);rw[wx,show k+q*k=(q+1)*k by rw[z7,Nat.add_comm]];exact this
theorem Bs.snoc{k t:Nat}{l M:List bw}(h:Bs k l)(b:n1 l=t*k)(c:Sd cF M)(d:n1 M<=k):Bs k (l++M):=λq=>by
 rcases Nat.lt_trichotomy q t with hq|hq|hq
 .have a:(q+1)*k<=t*k:=zo _ hq;rw[z7]at a;rw[List.drop_append_of_le_length n3,List.take_append_of_le_length pb];exact h q
 .subst hq;rw[<-b,List.drop_left,qh d];exact c
 .have a:(t+1)*k<=q*k:=zo _ hq;rw[z7]at a;rw[zl (by rw[qq];omega)];simp[Sd]
theorem Bs.whole{k:Nat}{l:List bw}(h:Bs k l)(a:n1 l<=k):Sd cF l:=by have:=h.first;rw[qh a]at this;exact this
section
variable {d:List bw}
theorem Oz(d:List bw)(n:Int)(hn:n=n1 d)(hd:n1 d<=2^30)(H:aa B h0 h (bU s d::As)):
  an xZ 263 #[s,xP xV n,.func (.func 186) #[] #[]] h λv h'=>v=.tuple #[]/\aa B h0 h' (bU s (d.mergeSort cF)::As):=by
 subst hn;refine ts Tryz.func263 ?_ (G7 (G7 (E8 (F8 (G0 [(7,aH),(8,aH)] [(7,9),(11,23)] E9)) (G7 (F8 (G0 [(6,aH)] [(6,10),(28,63)] (G7 (F8 (G7 (E8 (F8 (G0 [(7,aH),(8,aH)] [(7,9),(33,49)] E9)) E9)))))))))) (args:=[s,(n1 d:Int),(.func (.func 186) #[] #[])]);refine ak (λP:List bw=>((n1 P:Int),((n1 P+20:Nat):Int))) (λP h'=>n1 P<=n1 d/\(∃t,n1 P=t*20)/\Bs 20 P/\cE cF (d.take P.length) P/\aa B h0 h' (bU s (P++d.drop P.length)::As)) (λP=>n1 d-n1 P) [] n2 ⟨n9,⟨0,n9⟩,Bs.nil _,by simpa using cE.refl _,u7⟩ ?_;rintro P h1 ⟨hP,⟨t,I⟩,U,X,F⟩
 try dsimp only
 refine ae (λe=>?_) (λe=>?_)
 .have ao:n1 P+20<=n1 d:=n3
  have eY:(d.drop P.length).take 20++d.drop (n1 P+20)=d.drop P.length:=by rw[<-wx];exact qD _ _
  have V:((d.drop P.length).take 20).length=20:=n7
  rw[<-eY]at F;refine(AA P ((d.drop P.length).take 20) (d.drop (n1 P+20)) _ _ n2 (by rw[V]) n7 F).I1 λh2 ⟨i,p,b,Y⟩=>?_;have x:n1 i=20:=by rw[<-sS eE b,V]
  have g:(P++i).length=n1 P+20:=by rw[qq,x]
  refine⟨(),n2,P++i,?_,⟨n3,⟨t+1,by rw[g,I,z7]⟩,U.snoc I p n3,?_,?_⟩,n3⟩
  .rw[g,ag _];congr 1
  .rw[g];have:d.take (n1 P+20)=d.take P.length++(d.drop P.length).take 20:=by rw[List.take_add]
   rw[this];exact X.app b
  .rw[g,qo];exact Y
 .have L:aa B h0 h1 (bU s (P++(d.drop P.length++[]))::As):=by rw[qR];exact F
  refine(AA P (d.drop P.length) [] _ _ n2 pb n7 L).I1 λh3 ⟨i,p,b,W⟩=>?_;have x:n1 i=n1 d-n1 P:=by rw[<-sS eE b,qJ]
  have E:=U.snoc I p n3;have c:cE cF d (P++i):=by have:=X.app b;rw[qD]at this;exact this
  refine⟨(),n2,?_⟩;refine ak (λt:Nat×List bw=>(t.1:Int)) (λt h'=>0<t.1/\t.1<=2^32/\t.2.length=n1 d/\Bs t.1 t.2/\cE cF d t.2/\aa B h0 h' (bU s t.2::As)) (λt=>2^32-t.1) (20,P++i) n2 ⟨n5,n5,by dsimp only;rw[qq];omega,E,c,by rw[qR]at W;exact W⟩ ?_;rintro⟨k,l⟩ h4 ⟨ah,hk,Z,T,z,J⟩;dsimp only at*;refine ae (λe2=>?_) (λe2=>?_)
  .have ad:k<n1 d:=n3
   have O:qe xV ((2:Int)*k)=((2*k:Nat):Int):=o6
   have N:qe xV ((k:Int)*2)=((2*k:Nat):Int):=o6
   rw[O];have next:∀{h':hY} (q:List bw),n1 q=n1 d->Bs (2*k) q->cE cF l q->aa B h0 h' (bU s q::As)->∃f:Nat×List bw,qe xV ((k:Int)*2)=(f.1:Int)/\(0<f.1/\f.1<=2^32/\f.2.length=n1 d/\Bs f.1 f.2/\cE cF d f.2/\aa B h0 h' (bU s f.2::As))/\2^32-f.1<2^32-k:=λ{h'} q q1 q2 q3 q4=>
    ⟨(2*k,q),N,⟨n5,n5,q1,q2,z.trans q3,q4⟩,n5⟩
   refine ak (λt:List bw×List bw=>((n1 t.1:Int),((n1 t.1+2*k:Nat):Int))) (λt h'=>(∃u,n1 t.1=u*(2*k))/\t.1.length+n1 t.2=n1 d/\Bs (2*k) t.1/\Bs k t.2/\cE cF l (t.1++t.2)/\aa B h0 h' (bU s (t.1++t.2)::As)) (λt=>n1 t.2) ([],l) (by dsimp only;rw[wQ,Nat.zero_add];rfl) ⟨⟨0,n9⟩,by simpa using Z,Bs.nil _,T,by simpa using cE.refl _,by simpa using J⟩ ?_;rintro⟨P,Q⟩ S ⟨⟨u,D⟩,am,j,a,c,R⟩;dsimp only at*;have K:qe xV ((n1 P:Int)+k)=((n1 P+k:Nat):Int):=o6
   rw[K];have eQ:Q.take k++Q.drop k=Q:=qD _ _;refine ae (λe3=>?_) (λe3=>ae (λe4=>?_) λe4=>?_)
   .have al:2*k<=n1 Q:=n3
    have y:Q.take k++((Q.drop k).take k++Q.drop (2*k))=Q:=by
     have:Q.drop (2*k)=(Q.drop k).drop k:=by rw[wx];congr 1;omega
     rw[this,qD,eQ]
    have l1:(Q.take k).length=k:=n7
    have l2:((Q.drop k).take k).length=k:=n7
    have o:aa B h0 S (bU s (P++(Q.take k++((Q.drop k).take k++Q.drop (2*k))))::As):=by rw[y];exact R
    refine(BW _ P (Q.take k) ((Q.drop k).take k) (Q.drop (2*k)) _ _ _ n3 n3 (qk _) n2 (by rw[l1]) (by rw[l1,l2];omega) n7 a.first a.rest.first o).I1 λh6 ⟨M,p,b,A⟩=>?_;have w:n1 M=2*k:=by rw[<-sS eE b,qq,l1,l2];omega
    have m:(P++M).length=n1 P+2*k:=by rw[qq,w]
    refine⟨(),n2,(P++M,Q.drop (2*k)),?_,⟨⟨u+1,by dsimp only;rw[m,D];exact(z7 u (2*k)).symm⟩,by dsimp only;rw[m,qJ];omega,j.snoc D p n3,?_,?_,?_⟩,by dsimp only;rw[qJ];omega⟩
    .try dsimp only
     rw[m,ag _];congr 1
    .try dsimp only
     have:Q.drop (2*k)=(Q.drop k).drop k:=by rw[wx];congr 1;omega
     rw[this];exact a.rest.rest
    .try dsimp only
     refine c.trans ?_
     conv=>arg 2;rw[<-y]
     rw[qo];have:=(cE.refl P).app (b.app (cE.refl (Q.drop (2*k))));rw[qo]at this;exact this
    .try dsimp only
     rw[qo];exact A
   .have r:k<n1 Q:=n3
    have ab:n1 Q<2*k:=n3
    have l1:(Q.take k).length=k:=n7
    have l2:(Q.drop k).length=n1 Q-k:=n9
    have G:Sd cF (Q.drop k):=by have:=a.rest.first;rw[qh n3]at this;exact this
    have o:aa B h0 S (bU s (P++(Q.take k++(Q.drop k++[])))::As):=by rw[qR,eQ];exact R
    refine(BW _ P (Q.take k) (Q.drop k) [] _ _ _ n3 n3 (qk _) n2 (by rw[l1]) (by rw[l1,l2];omega) n7 a.first G o).I1 λh6 ⟨M,p,b,A⟩=>?_;have w:n1 M=n1 Q:=by rw[<-sS eE b,eQ]
    rw[eQ]at b;rw[qR]at A;exact⟨(),n2,next (P++M) (by rw[qq];omega) (j.snoc D p n3) (c.trans ((cE.refl _).app b)) A⟩
   .have r:n1 Q<=k:=n3
    exact next (P++Q) (by rw[qq];omega) (j.snoc D (a.whole r) n3) c R
  .have hs:=T.whole n3;rw[Ze eE hs z]at J;exact⟨n2,J⟩
theorem GR(d:List bw)(b:n1 d<=2^30)(H:aa B h0 h (bU s d::As)):
  an xZ 185 #[s,.func (.func 186) #[] #[]] h λv h'=>v=.tuple #[]/\aa B h0 h' (bU s (d.mergeSort cF)::As):=by
 refine ts Tryz.func185 ?_ (args:=[s,(.func (.func 186) #[] #[])]);refine(Oz d _ (by rw[(H.own 0 n2).len]) b H).I1 λc a=>⟨(),n2,n2,a⟩
def jY:bw:=(0,0,0,0,0,0,0,⟨dB,0,0⟩)
end
def lx(l:List bw)(k:Nat):Bool:=decide (k=0)||decide (lO (l.getD k jY) (l.getD (k-1) jY)≠0)
def kB(l:List bw)(k:Nat):List bw:=((qz k).filter (lx l)).map λi=>l.getD i jY
def UT(l:List bw):List bw:=kB l l.length
theorem na(l:List bw)(k:Nat):kB l (k+1)=kB l k++if lx l k then[l.getD k jY]else[]:=by unfold kB;rw[zH,zm,qG,zE,w9];split<;>rfl
section
variable {d:List bw}
theorem GS(a b:bw)(h:hY):an xZ 188 #[recv a,recv b] h λv h'=>v=xT (decide (lO a b=0))/\Sp h h' []:=by refine ts Tryz.func188 ?_ (args:=[a,b]);refine(Sp.refl h).boxed λg i e=>e.boxed λj d c=>?_;refine⟨a,(c.box 0 n2).aw _ n2,b,(c.box 1 n2).aw _ n2,(oU a b d).I1 λh3 f=>?_⟩;refine⟨_,n2,?_,.zip (aa.up c f.ac).ac⟩;congr 1
theorem FQ(l:List bw)(hd:n1 l<=2^30)(H:aa B h0 h (bU s l::As)):
  an xZ 187 #[s,.func (.func 188) #[] #[]] h λv h'=>∃r:Sl,v=r/\aa B h0 h' (bU r (UT l)::As):=by
 refine ts Tryz.func187 ?_ (G7 (G7 (E8 (G7 (F8 (G0 [(5,aH)] [(4,8),(12,65)] (G7 (E8 (F8 (G7 (E8 (G7 (Hf [(5,aH),(7,aH)] [(5,6),(7,8),(32,59)])) E9))) E9))))) E9))) (args:=[s,(.func (.func 188) #[] #[])]);have ab:=(H.own 0 n2).len;have A:=(H.own 0 n2).cap;have f:(∀j,j<n1 l->lx l j=eH)->UT l=l:=λu=>by
  have:∀k,k<=n1 l->kB l k=l.take k:=λk=>by
   induction k with
   |zero=>simp[kB]
   |succ k ih=>
    intro T;rw[na,ih n3,l0 (u k n3),aC l k,getD_lt (show k<n1 l by omega)]
  unfold UT;rw[this _ (qk _),qy]
 refine ae (λe=>⟨s,n2,?_⟩) (λe=>?_)
 .rw[f λj g=>by unfold lx;rw[m9 (show j=0 by omega)];rfl];exact H
 refine ak (λi:Nat=>(i:Int)) (λi h'=>1<=i/\i<=n1 l/\(∀j,j<i->lx l j=eH)/\aa B h0 h' (bU s l::As)) (λi=>n1 l-i) 1 n2 ⟨n3,n3,λj g=>by unfold lx;rw[m9 (show j=0 by omega)];rfl,H⟩ ?_;rintro i h1 ⟨ad,hi,u,G⟩;refine ae (λO=>?_) (λO=>?_)
 .have y:i<n1 l:=by have e':=O;omega
  have Z:qe xV ((i:Int)-1)=((i-1:Nat):Int):=o6
  rw[Z];refine ki G i n2 (x:=l.getD i jY) (by rw[getD_lt y,qd y]) (ki G (i-1) n2 (x:=l.getD (i-1) jY) (by rw[getD_lt (show i-1<n1 l by omega),qd]) (fB qa ?_));refine(GS _ _ h1).I1 λh2 R2=>?_;have V:=G.up R2.ac;refine⟨_,n2,I4,aU (λe2=>?_) λe2=>?_⟩
  .have p:lx l i=eL:=by unfold lx;rw[nb (show¬i=0 by omega)];simpa using e2
   have o:kB l i=l.take i:=by
    have:∀k,k<=i->kB l k=l.take k:=λk=>by
     induction k with
     |zero=>simp[kB]
     |succ k ih=>
      intro T;rw[na,ih n3,l0 (u k n3),aC l k,getD_lt (show k<n1 l by omega)]
    exact this i (qk _)
   refine⟨⟨n3,n3⟩,?_⟩;rw[qj];refine ak (λt:Nat×List bw=>(((kB l (i+t.1)).length:Int),(t.1:Int))) (λt h'=>1<=t.1/\i+t.1<=n1 l/\t.2.length=n1 l/\(kB l (i+t.1)).length+1<=i+t.1/\t.2.take (kB l (i+t.1)).length=kB l (i+t.1)/\(∀j,i+t.1-1<=j->t.2[j]?=l[j]?)/\aa B h0 h' (bU s t.2::As)) (λt=>n1 l-t.1) (1,l) ?_ ⟨n9,n5,n2,?_,?_,λ_ _=>rfl,V⟩ ?_
   .try dsimp only
    rw[na,p,o];simp;omega
   .try dsimp only
    rw[na,p,o];simp;omega
   .try dsimp only
    rw[na,p,o];simp
   rintro⟨k,D⟩ h3 ⟨am,al,F,Q,d,m,I⟩;dsimp only at*;obtain⟨c,S⟩:=I3 ((kB l (i+k)).length)
   rw[<-S]at Q d⊢;have ah:=(I.own 0 n2).len;have w:=(I.seq 0 n2 λ_=>rfl).drop i A;refine ae (λe3=>?_) (λe3=>?_)
   .have K:i+k<n1 l:=n3
    have ek:qe xV ((k:Int)-1)=((k-1:Nat):Int):=o6
    rw[ek];have W:∀j,k-1<=j->(g:i+j<n1 l)->(D.drop i)[j]?=cO (l.getD (i+j) jY):=λj g z=>by
     rw[wO,m _ n3,getD_lt z,qd z]
    have gk:=W k n3 K;have N:=W (k-1) n3 n3;obtain⟨Y,X⟩:=qm.1 gk;obtain⟨q1,q2⟩:=qm.1 N;refine Seq.cH w k n2 Y (l.getD (i+k) jY) (by rw[X]) ?_;refine Seq.cH w (k-1) n2 q1 (l.getD (i+(k-1)) jY) (by rw[q2]) (fB qa ?_);refine(GS _ _ h3).I1 λh4 R4=>?_;have M:=I.up R4.ac;have q:lx l (i+k)=!decide (lO (l.getD (i+k) jY) (l.getD (i+(k-1)) jY)=0):=by unfold lx;rw[nb (show¬i+k=0 by omega),show i+k-1=i+(k-1)by omega];simp
    have b:=na l (i+k);rw[q]at b;refine⟨_,n2,I4,aI (λL=>?_) λL=>?_⟩
    .rw[L]at b;have a:(kB l (i+(k+1))).length=c+1:=by rw[<-wA,b];simp[S]
     have E:=(M.seq 0 n2 λ_=>rfl).drop i A;refine Seq.cH E k n2 Y (l.getD (i+k) jY) (by rw[X]) ?_;refine M.set af 0 n2 (λ_=>rfl) n2 c n2 n3 (l.getD (i+k) jY) n2 n2 n2 λh5 H5=>?_;refine⟨(k+1,D.set c (l.getD (i+k) jY)),?_,⟨n5,n5,by dsimp only;rw[qK];exact F,by dsimp only;rw[a];omega,?_,λj g=>?_,H5⟩,n5⟩
     .try dsimp only
      rw[a,ag _,ag _];rfl
     .try dsimp only
      rw[a,aC _ c xa,List.getElem_set_self,List.take_set_of_le (qk _),d,<-wA,b];simp
     .dsimp only at g⊢;rw[wP n3];exact m j n3
    .rw[L]at b;have a:(kB l (i+(k+1))).length=c:=by rw[<-wA,b];simp[S]
     refine⟨(k+1,D),?_,⟨n5,n5,F,by dsimp only;rw[a];omega,?_,λj g=>m j (by dsimp only at g;omega),M⟩,n5⟩
     .try dsimp only
      rw[a,ag _];rfl
     .try dsimp only
      rw[a,d,<-wA,b];simp
   .have R:i+k=n1 l:=n3
    refine⟨⟨n3,n3⟩,?_⟩;rw[qj];refine I.ol af 0 n2 Bp (λ_=>rfl) n2 n4 c n3 λh6 U=>⟨⟨n3,n3⟩,⟨s.ptr,c,s.cap⟩,n2,?_⟩
    rw[d,R]at U;exact U
  .refine⟨i+1,oi,⟨n3,n3,λj g=>?_,V⟩,n3⟩;by_cases J:j=i
   .subst J;unfold lx;rw[m9 (show lO (l.getD j jY) (l.getD (j-1) jY)≠0 by simpa using e2)];simp
   .exact u j n3
 .have P:i=n1 l:=by have e':=O;omega
  subst P;rw[f u];exact⟨s,n2,G⟩
end
def fieldsOf(d:Option TypeDesc):List (Bool×TypeId×Nat):=match d with|some (.struct fs)=>fs.toList.map (λf=>(f.name== "_",f.type,f.offset))|_=>[]
theorem UU:fieldsOf (Tryz.prog.underlying 24)=[(eL,3,0),(eL,3,1),(eL,3,2)]:=o0
theorem XK:Tryz.prog.stoodInHeld 24=eL:=o0
theorem XL:Tryz.prog.eqGuardType Tryz.prog.depth 24=eL:=o0
theorem MH{P:Program}{t:TypeId}{a b c:TypeId×Nat}(h:fieldsOf (P.underlying t)=[(eL,a.1,a.2),(eL,b.1,b.2),(eL,c.1,c.2)]):
  ∃f g e:Field,P.underlying t=cO (.struct #[f,g,e])/\(f.name≠ "_" /\f.type=a.1/\f.offset=a.2)/\(g.name≠ "_" /\g.type=b.1/\g.offset=b.2)/\(e.name≠ "_" /\e.type=c.1/\e.offset=c.2):=by
 cases hu:P.underlying t with
 |none=>rw[hu]at h;cases h
 |some d=>
  rw[hu]at h;cases d with
  |struct fs=>
   simp only[fieldsOf]at h;obtain⟨l⟩:=fs;have i:n1 l=3:=by simpa using congrArg xz h
   obtain⟨f,r,rfl⟩:=yz i;obtain⟨g,k,rfl⟩:=yz (by simpa using i:n1 r=1+1);obtain⟨e,j,rfl⟩:=yz (by simpa using i:n1 k=0+1);obtain rfl:j=[]:=by simpa using i
   simp at h;exact⟨f,g,e,n2,⟨h.1.1,h.1.2.1,h.1.2.2⟩,⟨h.2.1.1,h.2.1.2.1,h.2.1.2.2⟩,⟨h.2.2.1,h.2.2.2.1,h.2.2.2.2⟩⟩
  |_=>cases h
theorem jt{P:Program}{d:Nat}{t:TypeId}{k:IntKind}(h:∃c,P.underlying t=cO (.int c))(a b:Int):aL P (Op.equalIn (d+1) t (.int k a) (.int k b)) (a==b):=by obtain⟨c,h⟩:=h;unfold Op.equalIn;refine(aK h).bind ?_;simp only[if_true];exact .pure
theorem mf{P:Program}{t:TypeId}{k:IntKind}(h:P.underlying t=cO (.int k)){a:Array Value}{i:Nat}{v:Value}(b:a[i]?=cO v):aL P (part t a i) v:=by unfold part isAgg;refine aL.bind (v:=eL) ((aK h).bind .pure) ?_;simp only[zg,if_false,b];exact .pure
theorem adu(p q:Pm):aL xZ (Op.equal 24 (xU #[xP xV p.1,xP xV p.2.1,xP xV p.2.2]) (xU #[xP xV q.1,xP xV q.2.1,xP xV q.2.2])) (decide (p=q)):=by
 obtain⟨f,g,u,G,⟨H,B,y⟩,⟨z,F,E⟩,⟨D,A,u3⟩⟩:=MH (a:=(3,0)) (b:=(3,1)) (c:=(3,2)) UU;have I:∃k,Tryz.prog.underlying 3=cO (.int k):=⟨.i64,o0⟩
 obtain⟨k,d⟩:=I;unfold Op.equal;rw[show Op.maxDepth=9998+1+1 from n2,Op.equalIn];refine(aK G).bind ?_;refine aL.bind (v:=xZ) (λw=>rfl) ?_;simp only[XK,zg,if_false,List.forIn_toArray,List.forIn_cons,List.forIn_nil,ne_eq,H,z,D,not_false_eq_true,if_true,B,y,F,E,A,u3];obtain⟨a,b,c⟩:=p;obtain⟨h,i,j⟩:=q
 try dsimp only
 have n:aL xZ (part 3 #[Value.int xV a,Value.int xV b,Value.int xV c] 0) _:=mf d n2;have o:aL xZ (part 3 #[Value.int xV h,Value.int xV i,Value.int xV j] 0) _:=mf d n2;have r:aL xZ (part 3 #[Value.int xV a,Value.int xV b,Value.int xV c] 1) _:=mf d n2;have s:aL xZ (part 3 #[Value.int xV h,Value.int xV i,Value.int xV j] 1) _:=mf d n2;have x:aL xZ (part 3 #[Value.int xV a,Value.int xV b,Value.int xV c] 2) _:=mf d n2;have t:aL xZ (part 3 #[Value.int xV h,Value.int xV i,Value.int xV j] 2) _:=mf d n2;by_cases l:a=h
 .by_cases m:b=i
  .by_cases h3:c=j
   .have e:decide ((a,b,c)=(h,i,j))=eH:=by simp[l,m,h3]
    rw[e];refine aL.bind (v:=(dB,())) (aL.bind (v:=ForInStep.yield (dB,())) (n.bind (o.bind ((jt ⟨k,d⟩ a h).bind ?_))) (aL.bind (v:=ForInStep.yield (dB,())) (r.bind (s.bind ((jt ⟨k,d⟩ b i).bind ?_))) (aL.bind (v:=ForInStep.yield (dB,())) (x.bind (t.bind ((jt ⟨k,d⟩ c j).bind ?_))) .pure))) .pure
    .simp only[l,beq_self_eq_true,yu,zg,if_false];exact .pure
    .simp only[m,beq_self_eq_true,yu,zg,if_false];exact .pure
    .simp only[h3,beq_self_eq_true,yu,zg,if_false];exact .pure
   .have e:decide ((a,b,c)=(h,i,j))=eL:=by simp[h3]
    rw[e];refine aL.bind (v:=(cO eL,())) (aL.bind (v:=ForInStep.yield (dB,())) (n.bind (o.bind ((jt ⟨k,d⟩ a h).bind ?_))) (aL.bind (v:=ForInStep.yield (dB,())) (r.bind (s.bind ((jt ⟨k,d⟩ b i).bind ?_))) (aL.bind (v:=ForInStep.done (cO eL,())) (x.bind (t.bind ((jt ⟨k,d⟩ c j).bind ?_))) .pure))) .pure
    .simp only[l,beq_self_eq_true,yu,zg,if_false];exact .pure
    .simp only[m,beq_self_eq_true,yu,zg,if_false];exact .pure
    .rw[show(c==j)=eL by simpa using h3];simp only[wL,if_true];exact .pure
  .have e:decide ((a,b,c)=(h,i,j))=eL:=by simp[m]
   rw[e];refine aL.bind (v:=(cO eL,())) (aL.bind (v:=ForInStep.yield (dB,())) (n.bind (o.bind ((jt ⟨k,d⟩ a h).bind ?_))) (aL.bind (v:=ForInStep.done (cO eL,())) (r.bind (s.bind ((jt ⟨k,d⟩ b i).bind ?_))) .pure)) .pure
   .simp only[l,beq_self_eq_true,yu,zg,if_false];exact .pure
   .rw[show(b==i)=eL by simpa using m];simp only[wL,if_true];exact .pure
 .have e:decide ((a,b,c)=(h,i,j))=eL:=by simp[l]
  rw[e];refine aL.bind (v:=(cO eL,())) (aL.bind (v:=ForInStep.done (cO eL,())) (n.bind (o.bind ((jt ⟨k,d⟩ a h).bind ?_))) .pure) .pure;rw[show(a==h)=eL by simpa using l];simp only[wL,if_true];exact .pure
theorem MI(x y:Operand)(p q:Pm):ko xZ .neq 24 x y (xU #[xP xV p.1,xP xV p.2.1,xP xV p.2.2]) (xU #[xP xV q.1,xP xV q.2.1,xP xV q.2.2]) (xT (!decide (p=q))):=by
 unfold ko eqGuard;refine aL.bind (v:=()) ?_ ?_
 .simp only[yu,zg,if_false];refine aL.bind (v:=xZ) (λw=>rfl) ?_;refine aL.bind (v:=xZ) (λw=>rfl) ?_;simp only[XL,wL,if_true];exact .pure
 .exact(adu p q).bind .pure
def MJ(P:cS->Bool)(l:List cS)(i:Int):Prop:=(i=-1/\l.any P=eL)∨∃n:Nat,∃h:n<n1 l,i=n/\P l[n]=eH/\(l.take n).any P=eL
theorem MK{P:cS->Bool}{l:List cS}{i:Int}(h:MJ P l i):decide (i>=0)=l.any P:=by
 rcases h with⟨rfl,h⟩|⟨n,hn,rfl,h,_⟩
 .rw[h];rfl
 .rw[zW.2 ⟨_,qf hn,h⟩];exact m9 n3
theorem EP(f:FuncId)(pre post:Array Value)(P:Qw.cS->Bool)(l:Sl)(a:List Qw.cS)(h:hY)(q:C.fns[f]?=cO eH)(m:fk ov h l a)(z:n1 a<=2^30)
  (s:∀(u:dg) (E:Qw.cS) (h':hY),Sp h h' []->fk eC h' u E->E∈a->an xZ f (pre.toList++[Value.agg #[xS u.1,xP xV u.2.1,xP xV u.2.2.1,u.2.2.2]]++post.toList).toArray h' λv e=>v=xT (P E)/\Sp h' e []):
  an xZ 168 #[l,.func (.func f) pre post] h λv h'=>(∃i:Int,v=xP xV i/\MJ P a i)/\Sp h h' []:=by
 refine ia l (f,pre,post) ?_;obtain⟨j,n,y,t⟩:=bW.ku m;have x:=bW.len m;refine ak (λi:Nat=>(i:Int)) (λi h'=>i<=n1 a/\(a.take i).any P=eL/\Sp h h' []) (λi=>n1 a-i) 0 n2 ⟨n3,n9,Sp.refl h⟩ ?_;rintro i o ⟨B,b,d⟩;refine ae (λg=>?_) (λg=>?_)
 .have c:i<n1 a:=by have e':=g;omega
  have p:=eC.mono (eC.loc (t i n3 c) d.ac) λ_ w=>qY w d.ac.1;refine(Seq.up n d.ac).cH i n2 n3 (j[i]'n3) n2 (fB q ?_);refine(s (j[i]'n3) a[i] o d p (qf c)).I1 λA r=>?_;have k:=d.up r.ac;refine⟨_,n2,aU (λe2=>⟨⟨i,n2,.inr ⟨i,c,n2,e2,b⟩⟩,k⟩) λe2=>?_⟩;refine⟨i+1,oi,⟨n3,?_,k⟩,n3⟩;rw[aC _ _ c,yl,b,List.any_cons,List.any_nil,e2];rfl
 .have e':=g;rw[qh n3]at b;exact⟨⟨-1,n2,.inl ⟨n2,b⟩⟩,d⟩
theorem IM(f:FuncId)(pre post:Array Value)(P:Qw.cS->Bool)(l:Sl)(a:List Qw.cS)(h:hY)(d:C.fns[f]?=cO eH)(c:fk ov h l a)(e:n1 a<=2^30)
  (g:∀(u:dg) (E:Qw.cS) (h':hY),Sp h h' []->fk eC h' u E->E∈a->an xZ f (pre.toList++[Value.agg #[xS u.1,xP xV u.2.1,xP xV u.2.2.1,u.2.2.2]]++post.toList).toArray h' λv b=>v=xT (P E)/\Sp h' b []):
  an xZ 120 #[l,.func (.func f) pre post] h λv h'=>v=xT (a.any P)/\Sp h h' []:=by
 refine ts Tryz.func120 ?_ (args:=[l,(.func (.func f) pre post)]);refine(EP f pre post P l a h d c e g).mono ?_;rintro _ m ⟨⟨i,rfl,k⟩,j⟩;exact⟨i,n2,by rw[MK k],j⟩
theorem sH(o b t:Int)(h:hY):an xZ 105 #[xP xV o,xP xV b,xP xV t] h λv h'=>v=xP xX (ft o b t)/\h'=h:=by
 refine ts Tryz.func105 ?_;refine⟨?_,n2⟩;have:qe xX ((qe xX ((qe xX ((128:Int)*(qe xX o)))+(qe xX ((16:Int)*(qe xX b)))))+(qe xX t))=ft o b t:=by unfold ft qe;simp[qx,yG];omega
 rw[this]
theorem OA(x:aY)(m:aA)(y:bw)(r:ct)(h:hY)(o:cj h x m)(V:bG m)(N:fk cG h y r):
  an xZ 184 #[cu x,recv y] h λv h'=>v=xT (dJ m r)/\Sp h h' []:=by
 refine ts Tryz.func184 ?_ (G7 (HF [] [(4,15)] E9)) (args:=[x,y]);refine(Sp.refl h).boxed λa1 h1 H1=>H1.boxed λi Z q=>?_;obtain⟨⟨e1,e2,e3,I,e5,e7,e8⟩,e6⟩:=id N;have t:=congrArg (·.1) o.p;have F:=congrArg (·.2.1) o.p;have B:=congrArg (·.2.2) o.p;have D:=congrArg (·.1) I;have G:=congrArg (·.2.1) I;have H:=congrArg (·.2.2) I;have ab:=V.ob;refine aE ⟨y,(q.box 1 n2).aw _ n2,(EN y r Z (cG.mono (cG.loc N q.ac) λ_ hb=>qY hb q.ac.1)).I1 λh3 R3=>?_⟩;have c:=q.up R3.ac;have Q:=c.box 0 n2;have z:=c.box 1 n2;refine⟨_,n2,aI (λg=>⟨by unfold dJ;rw[g];rfl,.zip c.ac⟩) λg=>?_⟩;obtain⟨_,g2,_⟩:=(jM r).1 g;refine⟨r.p,by rw[<-D,<-G,<-H];exact z.lN 3 n2 n2 n2,m.p,by rw[<-t,<-F,<-B];exact Q.lN 2 n2 n2 n2,_,MI _ _ r.p m.p,aI (λA=>⟨?_,.zip c.ac⟩) λA=>?_⟩
 .unfold dJ;rw[g,A];rfl
 obtain⟨P,L⟩:∃P:Qw.cS->Bool,P=λx=>decide (x.object=r.object)&&(decide (r.block<(x.tries.length:Int))&&decide (r.seed=ft r.object r.block (x.tries.getD r.block.toNat 0))):=⟨_,rfl⟩
 have w:dJ m r=m.objs.any P:=by unfold dJ;rw[g,A,L];rfl
 refine⟨x.2.2.2.2.2.2.2,Q.cell n2,?_⟩;refine(IM 262 #[] #[xR (cO i)] P x.2.2.2.2.2.2.2 m.objs h3 qa (o.up c.ac).objs n3 λu E R U W _=>?_).mono ?_
 .obtain⟨⟨y1,T,y3⟩,J⟩:=W;have S:=Seq.len J;have f:=z.ac U.ac z.lt;refine ts Tryz.func262 ?_ (args:=[u,i]);refine(Sp.refl R).boxed λa5 a e=>?_;have M:=e.box 0 n2;have b:=f.ac e.ac f.lt;have l:hU a (a5.add 1)=cO (xP xV E.object):=by rw[<-T];exact M.cell n2
  have k:hU a (a5.add 3)=cO (xQ u.2.2.2.ptr u.2.2.2.len u.2.2.2.cap):=M.cell n2;have j:hU a i=cO (xP xV r.object):=by rw[<-e1];exact b.cell0 n2
  have d:hU a (i.add 1)=cO (xP xV r.block):=by rw[<-e2];exact b.cell n2
  have O:hU a (i.add 6)=cO (xP xX r.seed):=by rw[<-e5];exact b.cell n2
  rw[L];refine⟨E.object,l,r.object,j,aV (λs=>?_) λs=>⟨⟨j,l,I4⟩,?_,.zip e.ac⟩⟩
  .refine⟨u.2.2.2,k,r.block,d,ae (λX=>?_) λX=>⟨⟨d,k,j,l,I4⟩,?_,.zip e.ac⟩⟩
   .have K:r.block.toNat<E.tries.length:=n3
    refine⟨r.seed,O,r.object,j,r.block,d,u.2.2.2,k,r.block,d,?_⟩;refine Seq.aX (Seq.up J e.ac) r.block.toNat n3 K (E.tries.getD r.block.toNat 0) (by rw[getD_lt K];rfl) ?_;refine(sH _ _ _ a).I0 ⟨_,n2,⟨d,k,O,d,k,j,l,I4⟩,?_,.zip e.ac⟩
    try dsimp only
    rw[m9 s,m9 (show r.block<(E.tries.length:Int)by omega),wj,wj];congr 1
   .try dsimp only
    rw[nb (show¬r.block<(E.tries.length:Int)by omega)];simp
  .try dsimp only
   rw[nb s];rfl
 .rintro _ a ⟨rfl,Y⟩;exact⟨_,n2,by rw[w],.zip (aa.up c Y.ac).ac⟩
def ga(k:Nat)(f:α->aR):jg Sl (List α):=⟨λh q s l=>Seq h q s k f l/\s.len<=s.cap,λa c=>⟨a.1.ac c,a.2⟩,λa b=>⟨a.1.mono b,a.2⟩⟩
theorem aa.GU{B:au}{m h:hY}{As:List HP}{e a k:Nat}{s:Sl}{f:α->aR}{ll:List (List α)}(H:aa B m h (kV e s a k f ll::As))(o:∀x,(f x).length=k):∃rs,aa B m h (cy (ga k f) 1 bv s rs ll::As):=by
 obtain⟨rs,H⟩:=H.AZ;obtain⟨H,d⟩:=H.Fx;refine⟨rs,H.dG 0 n2 λq j=>⟨?_,d,λi r l c b=>?_⟩⟩
 .have:=HP.Az (i:=0) j n2;exact this.1.seq (λ_=>rfl) this.2
 .have g:=(qm.1 b).1;have n:=dU (e:=a) (k:=k) (f:=f) d i g;have:=HP.Az (i:=i+1) j (by simpa using n);have p:rs[i]'n3=r:=by rw[qd n3]at c;simpa using c
  have a:ll[i]=l:=by rw[qd g]at b;simpa using b
  rw[p,a]at this;exact⟨this.1.seq o this.2,this.1.cap⟩
def gb(T:List (bw×ct)):HP:=⟨λh q=>∀t∈T,cG.p h q t.1 t.2,λa d t b=>cG.loc (a t b) d,λa c t b=>cG.mono (a t b) c⟩
def Keyed(T:List (bw×ct)):Prop:=∀t∈T,t.1.1=t.2.object/\t.1.2.1=t.2.block/\t.1.2.2.1=t.2.id
def ML(a b:bw×ct):Bool:=lU a.2 b.2
theorem XM{T:List (bw×ct)}(k:Keyed T):∀a∈T,∀b∈T,ML a b=cF a.1 b.1:=λa g b f=>by
 obtain⟨c,h,a3⟩:=k a g;obtain⟨i,e,d⟩:=k b f;unfold ML lU cF;rw[decide_eq_decide,Ay,c,h,a3,i,e,d]
theorem So{T:List (bw×ct)}(k:Keyed T):(T.mergeSort ML).map qF=(T.map qF).mergeSort cF/\(T.mergeSort ML).map zk=(T.map zk).mergeSort lU/\Keyed (T.mergeSort ML):=
 ⟨vS (XM k),vS λa _ b _=>rfl,λt c=>k t (vQ.1 c)⟩
def GV:bw×ct:=(jY,nC)
def Dj(T:List (bw×ct)):List (bw×ct):=((qz T.length).filter (oJ (T.map zk))).map λi=>T.getD i GV
theorem getD_map{α β:Type}(f:α->β)(l:List α)(i:Nat)(d:α):(l.map f).getD i (f d)=f (l.getD i d):=by rw[qg,qg,qP];cases l[i]?<;>rfl
theorem UV{T:List (bw×ct)}(k:Keyed T):(Dj T).map qF=UT (T.map qF)/\(Dj T).map zk=nh (T.map zk)/\∀t∈Dj T,t∈T:=by
 have e:∀i,i<n1 T->lx (T.map qF) i=oJ (T.map zk) i:=λi a=>by
  unfold lx oJ;have g:∀j,j<n1 T->(T.map qF).getD j jY=(T[j]?.getD GV).1/\(T.map zk).getD j nC=(T[j]?.getD GV).2:=λj q=>by
   rw[qg,qg,qP,qP,qd q];exact⟨n2,n2⟩
  by_cases h0:i=0
  .rw[m9 h0];rfl
  .rw[nb h0,yw,yw,(g i a).1,(g i a).2,(g (i-1) n3).1,(g (i-1) n3).2];rw[qd a,qd (show i-1<n1 T by omega)];obtain⟨o,l,a3⟩:=k _ (qf a);obtain⟨r,f,p⟩:=k _ (qf (show i-1<n1 T by omega));unfold dM;simp only[vE];have c:=UP T[i].1 (T[i-1]'n3).1;rw[o,l,a3,r,f,p]at c;by_cases b:lO T[i].1 (T[i-1]'n3).1=0
   .rw[nb λh=>h b,m9 (c.1 b)];rfl
   .rw[m9 b,nb λm=>b (c.2 m)];rfl
 have n:=List.filter_congr λi a=>e i (q8.1 a);refine⟨?_,?_,λt d=>?_⟩
 .unfold Dj UT kB;rw[qp,n,vf];congr 1;funext i;exact(getD_map qF T i GV).symm
 .unfold Dj nh;rw[qp,vf];congr 1;funext i;exact(getD_map zk T i GV).symm
 .unfold Dj at d;obtain⟨i,a,rfl⟩:=qI.1 d;have:=q8.1 (qN.1 a).1;rw[getD_lt this];exact qf this
theorem Ky(a pw:fY)(d:bu)(s b:Sl)(x:aY)(m:aA)(h:hY)(F:bR h a 159 (fo pw d s b))(hl:eu h s 1 ar d.l)(ok:fd d)(hx:cj h x m)(hz:bG m):
  an xZ 114 #[xR (cO a),cu x] h λv h'=>∃(r:Sl) (T:List (bw×ct)),v=r/\T.map zk=iB m d.l/\Keyed T/\Sp h h' [bU r (T.map qF),gb T]:=by
 refine ts Tryz.func114 ?_ (G7 (.scope 0 [(6,bN),(7,aH)] [(4,5),(6,10),(12,40)] [E9,E9,E9] [(.two E9 (.two E9 (.two (.join [(6,bN)] [(6,7),(8,10),(18,36)] E9) E9)))] [(1,[E9])])) (args:=[(cO a),x]);have ab:=ok.len;have O:=ok.room;refine(Sp.refl h).boxed λI h1 Q=>?_;refine(FO s b (F.ac Q.ac F.lt) (hl.up Q.ac) ok).I2 λJ h2 R2=>?_;have K:=Q.bV R2;obtain⟨rs,K⟩:=aa.GU K λ_=>rfl;refine⟨J,n2,?_⟩;have Z:=K.dv 0 n2;have ao:=Z.1.len;have ad:=Z.2.1;have B:Sp h h2 [bU ⟨dB,0,0⟩ [],gb [],cy (ga 1 ar) 1 bv J rs d.l,aj I 27 (az x)]:=
  ((K.comp (.one (aP.refl _ _) λt f=>(by cases f))).nil 144 8 bB).bs [3,2,0,1]
 refine ak (λt:Sl×Nat×List (bw×ct)=>(t.1,(t.2.1:Int)-1)) (λt h'=>t.2.1<=n1 d.l/\t.2.2.length<=t.2.1/\Keyed t.2.2/\t.2.2.map zk=(d.l.take t.2.1).filterMap (gp m)/\Sp h h' [bU t.1 (t.2.2.map qF),gb t.2.2,cy (ga 1 ar) 1 bv J rs d.l,aj I 27 (az x)]) (λt=>n1 d.l-t.2.1) (⟨dB,0,0⟩,0,[]) n2 ⟨n9,n9,(λt f=>(by cases f)),n9,B⟩ ?_;rintro⟨o,i,T⟩ h3 ⟨hi,ah,L,k,B⟩;dsimp only at*;have ei:qe xV ((i:Int)-1+1)=(i:Int):=o6
 rw[ei];refine ae (λe=>?_) (λe=>?_)
 .have S:i=n1 d.l:=n3
  subst S;rw[qy]at k;refine(GR (T.map qF) B5 B).I1 λh4 H4=>?_;obtain⟨s1,s2,s3⟩:=So L;rw[<-s1]at H4;refine⟨(),n2,(FQ _ (by rw[qp,List.length_mergeSort];omega) H4).I2 λr5 h5 H5=>?_⟩;obtain⟨c1,c2,c3⟩:=UV s3;rw[<-c1]at H5;refine⟨r5,n2,r5,Dj (T.mergeSort ML),n2,?_,λt f=>s3 t (c3 t f),?_⟩
  .have hr:iB m d.l=(Dj (T.mergeSort ML)).map zk:=by unfold iB;rw[<-k,c2,s2]
   exact hr.symm
  .exact(H5.dG 1 n2 λq z t f=>z t (vQ.1 (c3 t f))).bs [0,1]
 .have w:i<n1 d.l:=n3
  have g:=Gx m d.l i w;have next:∀{h':hY} {A:Sl} {T':List (bw×ct)},n1 T'<=i+1->Keyed T'->T'.map zk=(d.l.take (i+1)).filterMap (gp m)->Sp h h' [bU A (T'.map qF),gb T',cy (ga 1 ar) 1 bv J rs d.l,aj I 27 (az x)]->
    ∃j:Sl×Nat×List (bw×ct),((⟨A.ptr,A.len,A.cap⟩:Sl),(i:Int))=(j.1,(j.2.1:Int)-1)/\(j.2.1<=n1 d.l/\j.2.2.length<=j.2.1/\Keyed j.2.2/\j.2.2.map zk=(d.l.take j.2.1).filterMap (gp m)/\Sp h h' [bU j.1 (j.2.2.map qF),gb j.2.2,cy (ga 1 ar) 1 bv J rs d.l,aj I 27 (az x)])/\d.l.length-j.2.1<n1 d.l-i:=λ{h' A T'} q1 q2 q3 q4=>
   ⟨(A,i+1,T'),by dsimp only;congr 1;omega,⟨n5,q1,q2,q3,q4⟩,n5⟩
  refine aE ?_;refine(B.dv 2 n2).1.lm i n2 n3 ?_;obtain⟨p,W⟩:=Fix.row (B.dv 2 rfl) w;obtain⟨c,hc⟩:=I3 (d.l[i])
  rw[<-hc]at p g;have al:n1 c=64:=by rw[hc];exact ok.cell _ (qf w)
  refine(MC (rs[i]'n3) c h3 p n3 W).I2 λy h6 ⟨Q0,Q1⟩=>⟨(y,(dt c).isSome),n2,?_⟩
  try dsimp only
  cases htr:dt c with
  |none=>
   have H:gp m c=dB:=by unfold gp;rw[htr]
   rw[H,vT,qR]at g;have M:=B.up (Q0 htr).ac;refine M.alloc af n2 λa9 h7 Y=>?_;refine Y.storeAll af 4 n2 n2 (bB y) n2 n2 n2 n2 λh8 E=>aU (λe=>oj) λ_=>?_;exact next n3 L (by rw[k,g]) (E.bs [0,1,2,3])
  |some r=>
   have M:=B.bV (Q1 r htr);refine M.alloc af n2 λa9 h7 Y=>?_;refine Y.storeAll af 5 n2 n2 (bB y) n2 n2 n2 n2 λh8 E=>aU (λ_=>?_) λe=>oj
   have R:=E.eAt 0 n2;have U:bA h8 I 0 (az x):=(E.box 4 n2).aw _ n2;have N:bA h8 a9 0 (bB y):=(E.box 5 n2).aw _ n2;have P:=OA x m y r h8 (hx.up E.ac) hz R;refine⟨x,U,y,N,P.mono ?_⟩;rintro _ h9 ⟨rfl,R9⟩;have X:=E.up R9.ac;refine⟨_,n2,aU (λe2=>?_) λe2=>?_⟩
   .have H:gp m c=cO r:=by unfold gp;rw[htr];exact l0 e2
    rw[H,Option.toList_some]at g;refine⟨y,(X.box 5 n2).aw _ n2,?_⟩;refine X.push af 1 n2 Bp n2 n4 (λ_=>rfl) Qm y o0 n4 B5 λA am G=>?_;have u:=(G.eAt 0 n2).1;have V:=G.merge 2 0 n4 n2 n2 (D:=gb (T++[(y,r)])) (λq1 q2 _ p1 p2 t f=>by
     rcases qu.1 f with f|f
     .exact cG.mono (p1 t f) λ_ F=>.inl F
     .rw[qA.1 f];exact cG.mono p2 λ_ F=>.inr F)
    refine next (T':=T++[(y,r)]) n7 (λt f=>?_) (by rw[qG,k,g];rfl) ?_
    .rcases qu.1 f with f|f
     .exact L t f
     .rw[qA.1 f];exact⟨u.1,u.2.1,u.2.2.1⟩
    .rw[qG];exact V.bs [1,2,3,4]
   .have H:gp m c=dB:=by unfold gp;rw[htr];exact m6 E4
    rw[H,vT,qR]at g;exact next n3 L (by rw[k,g]) (X.bs [1,2,3,4])
theorem ud(a pw:fY)(d:bu)(s b:Sl)(x:aY)(m:aA)(h:hY)(w:bR h a 159 (fo pw d s b))(u:eu h s 1 ar d.l)(ok:fd d)(i:cj h x m)(n:bG m):
  an xZ 114 #[xR (cO a),cu x] h λv h'=>∃(r:Sl) (k:List bw),v=r/\Sp h h' [cy cG 8 bB r k (iB m d.l)]:=by
 refine(Ky a pw d s b x m h w u ok i n).mono ?_;rintro _ h' ⟨r,T,rfl,o,_,H⟩;refine⟨r,T.map qF,n2,?_⟩;have p:=(H.freeze 0 n2 λ_=>rfl).jW;have z:aa _ _ _ (cy cG 8 bB r (T.map qF) (iB m d.l)::_):=p.dG 0 n2 λq ⟨A,B,_,b,c,y,g⟩=>by
  rw[<-o];refine⟨Seq.mono g c,n9,λj D E e f=>?_⟩;rw[qP]at e f;cases g3:T[j]? with
  |none=>rw[g3]at e;cases e
  |some t=>
   rw[g3]at e f;simp at e f;subst e;subst f;exact cG.mono (y t (zN g3)) b
 exact z.bs [0]
def bi(l:aD)(k:Nat):aD:=((qz k).map λi:Nat=>(i:Int)).filter λi=>decide (0<l.getD i.toNat 0)
def dL(l:aD):aD×Bool:=
 if l.all (dP · 0 512)then(bi l l.length,decide (n1 l<=64)&&decide (0<(bi l l.length).length))else([],eL)
theorem nJ(l:aD)(k:Nat)(a:k<n1 l):bi l (k+1)=bi l k++if 0<l[k]then[(k:Int)]else[]:=by unfold bi;rw[zH,qG,zm];congr 1;simp only[List.map_cons,List.map_nil,zE,w9,qj,qg,qd a,vE];by_cases h:0<l[k]<;>simp[h]
theorem ly(l:aD)(k:Nat):(bi l k).length<=k:=by unfold bi;exact q7 (qO _ _) n9
theorem OB(s:Sl)(l:aD)(h:hY)(m:Rd h s 1 aq l)(F:n1 l<=2^20):
  an xZ 73 #[s] h λv h'=>∃r:Sl,v=.tuple #[r,xT (dL l).2]/\Sp h h' [ai 3 r 1 aq (dL l).1]:=by
 refine ts Tryz.func73 ?_ (G7 (G7 (E8 (G7 (F8 (G0 [(4,bN),(9,aH)] [(2,7),(9,27)] (G7 (G7 (E8 (F8 (G7 (HF [] [(2,4),(14,20)] E9))) E9)))))) E9)));have z:=m.len;have w:=(Sp.refl h).nil 3 1 aq;refine ak (λt:Sl×Nat=>(t.1,(t.2:Int))) (λt h'=>t.2<=n1 l/\(l.take t.2).all (dP · 0 512)=eH/\Sp h h' [ai 3 t.1 1 aq (bi l t.2)]) (λt=>n1 l-t.2) (⟨dB,0,0⟩,0) n2 ⟨n9,n9,w⟩ ?_;rintro⟨o,i⟩ E ⟨G,c,f⟩;dsimp only at*;have d:∀(a:i<n1 l),dP l[i] 0 512=eL->dL l=([],eL):=λa g=>by
  unfold dL;rw[m6];intro A;have:=qU.1 A _ (qf a);rw[g]at this;cases this
 refine ae (λe=>?_) (λe=>?_)
 .have a:i<n1 l:=n3
  have q:=ly l i;refine(Seq.up m f.ac).aX i n2 a l[i] n2 ?_;refine aE (ae (λk=>?_) λk=>ae (λe2=>?_) λe2=>?_)
  .have g:=d a sL;rw[g];exact⟨⟨dB,0,0⟩,n2,(f.bs []).nil 3 1 aq⟩
  .have g:=d a sL;rw[g];exact⟨⟨dB,0,0⟩,n2,(f.bs []).nil 3 1 aq⟩
  .have b:(l.take (i+1)).all (dP · 0 512)=eH:=by rw[aC l i a,wz,c,wj,List.all_cons,List.all_nil,Bool.and_true];unfold dP;simp;omega
   refine ae (λx=>?_) (λx=>?_)
   .refine f.push af 0 n2 eK n2 n4 (λ_=>rfl) cP (i:Int) n2 n4 n3 λy D u=>?_;refine⟨(y,i+1),n8,⟨n5,b,?_⟩,n5⟩
    try dsimp only
    rw[nJ l i a,l0 n3];exact u
   .refine⟨(o,i+1),n8,⟨n5,b,?_⟩,n5⟩
    try dsimp only
    rw[nJ l i a,m6 n3,qR];exact f
 .have j:i=n1 l:=n3
  subst j;rw[qy]at c;have p:=(f.own 0 n2).len;have B:dL l=(bi l l.length,decide (n1 l<=64)&&decide (0<(bi l l.length).length)):=by unfold dL;rw[l0 c]
  rw[B];refine ae (λk=>⟨o,?_,f⟩) (λk=>⟨o,?_,f⟩)
  .try dsimp only
   rw[m9 (show l.length<=64 by omega),wj];congr 4;refine congrArg Value.bool ?_;rw[decide_eq_decide];omega
  .try dsimp only
   rw[nb (show¬n1 l<=64 by omega),Bool.false_and]
section
variable {pw:fY}
theorem fx(x:aY)(m:aA)(b:cj h x m)(f:bG m)(H:aa B h0 h (aJ bP a pw (az x) offs da w ds::As)):
  an xZ 22 #[xR (cO a)] h λv h'=>∃r:Sl,v=r/\Sp h h' [ai 3 r 1 aq (bn ds m.drives)]:=by
 refine ts Tryz.func22 ?_;obtain⟨ok,d⟩:=aa.cB H;have g:=f.dr;refine aU (λe=>oj) λ_=>⟨a,n2,x.2.2.2.2.2.2.1,d.cell n2,(GP _ m.drives b.drives n3 H).I2 λr i c=>?_⟩;exact⟨r,n2,r,n2,c⟩
theorem IN(x:aY)(m:aA)(g:cj h x m)(i:bG m)(H:aa B h0 h (aJ bP a pw (az x) offs da w ds::As)):
  an xZ 67 #[xR (cO a)] h λv h'=>∃y:aY,v=cu y/\Sp h h' [be y m]:=by
 refine ts Tryz.func67 ?_;obtain⟨ok,f⟩:=aa.cB H;refine(Sp.refl h).alloc af n2 λo j c=>?_;have b:=f.ac c.ac f.lt;refine aU (λe=>oj) λ_=>⟨a,n2,x,b.aw _ n2,(GM x m j (g.up c.ac) i).I2 λy n l=>?_⟩;have k:=c.comp l;refine⟨y,n2,?_⟩;refine k.store af 0 n2 n2 0 (az y) n2 n2 n2 o8 λh3 d=>?_;exact⟨y,(d.box 0 n2).aw _ n2,y,n2,d.bs [1]⟩
end
def gO(w:Pow)(a:Int):Bool:=w.off||w.offs !=a
section
variable {pw:fY}
theorem aa.Qp(H:aa B h0 h (aJ bP a pw mc offs da w ds::As)):∃l,Es w l/\bR h pw 96 (powC w l):=by obtain⟨ok,c⟩:=Qw.aa.jQ H;have b:=c.rest;obtain⟨l,d,e⟩:=aa.jF b;exact⟨l,d,e.box 0 n2⟩
theorem pM(H:aa B h0 h (aJ bP a pw mc offs da w ds::As)):
  an xZ 70 #[xR (cO a)] h λv h'=>v=xT (gO w offs)/\h'=h:=by
 refine ts Tryz.func70 ?_ E9 [(1,(.l [0,1,2,3,4,5,6,7,8,9,10,11,12,13,15,16,17,18,14,19,20,21,22]))];obtain⟨ok,c⟩:=aa.cB H;obtain⟨l,g,d⟩:=aa.Qp H;have f:hU h (a.add 8)=cO (xR (cO pw)):=c.cell (uc ok.l8);have b:hU h (a.add 9)=cO (xP xV offs):=c.cell (GO ok.l8);refine aU (λ_=>?_) (λe=>oj);refine⟨a,n2,cO pw,f,(sW l d).I0 ?_⟩;refine⟨_,n2,I4,aI (λe=>⟨I4,?_⟩) λe=>?_⟩
 .have e':w.off=eH:=pt
  exact⟨by unfold gO;rw[e'];rfl,n2⟩
 .have e':w.off=eL:=pt
  refine⟨a,n2,cO pw,f,a,n2,offs,b,(Dd l d).I0 ?_⟩;exact⟨_,n2,⟨b,I4⟩,by unfold gO;rw[e'];rfl,n2⟩
theorem nK(H:aa B h0 h (aJ bP a pw mc offs da w ds::As)):
  an xZ 13 #[xR (cO a)] h λv h'=>v=xR (cO pw)/\h'=h:=by
 refine ts Tryz.func13 ?_;obtain⟨ok,b⟩:=aa.cB H;exact aU (λe=>oj) λ_=>⟨a,n2,cO pw,b.cell (uc ok.l8),n2,n2⟩
end
section
variable {k:Kit} {pw:fY}
theorem aa.acp(H:aa B h0 h As):∀n,aa B h0 h (qi n emp++As)
 |0=>H
 |n+1=>(((aa.acp H n).comp (.one (A:=emp) (aP.refl _ _) I4)).bf:aa B h0 h (emp::(qi n emp++As)))
theorem aa.JN(h8:n1 mc=8)(H:aa B h0 h (aj a k.tS (dh mc pw offs (qi 64 dB))::eJ k.tP pw w::As)):aa B h0 h (aJ k a pw mc offs (qi 64 dB) w (qi 64 dB)::As):=by
 have ok:gM mc (qi 64 dB) (qi 64 (dB:Option bu)):=⟨h8,n9,n9,λi=>by
  simp only[qg,wJ];split<;>rfl⟩
 have g:js k pw (qi 64 dB) (qi 64 (dB:Option bu))=qi 64 emp:=by simp[js,aco]
 refine aa.mJ ok ?_;rw[g];have e:=aa.acp H 64;refine e.pick (λi=>if i=0 then 64 else if i=1 then 65 else if i<66 then i-2 else i) (λx y b=>by(try dsimp only at b);split at b<;>split at b<;>(try split at b)<;>(try split at b)<;>(try split at b)<;>(try split at b)<;>omega) λi A d=>?_;rcases i with _|_|i
 .simpa using d
 .simpa using d
 .by_cases f:i<64
  .have c:(qi 64 emp++As)[i]?=cO A:=d;rw[qw B2]at c
   try dsimp only
   rw[m6 n3,m6 n3,l0 n3,qw n7];simpa using c
  .have c:(qi 64 emp++As)[i]?=cO A:=d;rw[ql n7]at c
   try dsimp only
   rw[m6 n3,m6 n3,m6 n3,ql n7];simp only[List.length_replicate]at c⊢;obtain⟨j,rfl⟩:∃j,i=j+64:=⟨i-64,n3⟩
   have e2:j+64+1+1-64=j+1+1:=n3
   rw[e2];simpa using c
end
theorem UW(x:aY)(pw:fY)(a:Int):aL xZ (Instr.build 94 #[(0,cu x),(1,xR (cO pw)),(2,xP xV a)]) (xU (dh (az x) pw a (qi 64 dB)).toArray):=
 tv af (i:=_) n2 n2 n2 (vs:=[(0,cu x),(1,xR (cO pw)),(2,xP xV a)]) (cells:=(dh (az x) pw a (qi 64 dB)).toArray) o0
section
variable {k:Kit} {pw b:fY}
theorem JO(h8:n1 mc=8):(dh mc pw offs da).set (10+n) (xR (cO b))=dh mc pw offs (da.set n (cO b)):=by unfold dh;rw[za _ _ n3,h8,show 10+n-8=n+1+1 by omega,yb,yb,List.map_set]
theorem aa.Qq(ok:gM mc da ds)(y:n<64)(u:ds[n]?=cO dB)(H:aa B h0 h (aj a k.tS (dh mc pw offs (da.set n (cO b)))::eJ k.tP pw w::(js k pw da ds++(ke k.tD (k.f pw) b d::As)))):aa B h0 h (aJ k a pw mc offs (da.set n (cO b)) w (ds.set n (cO d))::As):=by
 have l:=ok.UR y u;have o:=ok.la;have m:=ok.ls;have q:gM mc (da.set n (cO b)) (ds.set n (cO d)):=⟨ok.l8,by simp[o],by simp[m],λi=>by
  by_cases z:n=i
  .grind
  .have:=ok.same i
   grind⟩
 have s:=MD (k:=k) (pw:=pw) ok;have t:(js k pw da ds)[n]?=cO emp:=by simp only[js,wU,l,u];rfl
 have g:js k pw (da.set n (cO b)) (ds.set n (cO d))=(js k pw da ds).set n (ke k.tD (k.f pw) b d):=by
  apply zq;intro j;simp only[js,qZ,wU,List.length_zipWith];by_cases c:n=j
  .subst c;rw[l0 n2,l0 n3,l0 n2,l0 n3,l0 n2,l0 n3];rfl
  .simp[c]
 refine aa.mJ q ?_;rw[g];obtain⟨L,p⟩:=I3 (js k pw da ds)
 rw[<-p]at H t s⊢;have v:=H.cons (n1 L+2) (A:=ke k.tD (k.f pw) b d) n9;have e:(aj a k.tS (dh mc pw offs (da.set n (cO b)))::eJ k.tP pw w::(L++(ke k.tD (k.f pw) b d::As))).set (n1 L+2) emp=aj a k.tS (dh mc pw offs (da.set n (cO b)))::eJ k.tP pw w::(L++(emp::As)):=n9
 rw[e]at v;have D:=v.aF 3 [0,2,1];have r:L.set n emp=L:=by
  obtain⟨I,F⟩:=qm.1 t
  conv=>lhs;rw[<-F]
  simp
 have E:aa B h0 h (ke k.tD (k.f pw) b d::eJ k.tP pw w::aj a k.tS (dh mc pw offs (da.set n (cO b)))::(L.set n emp++(emp::As))):=by rw[r];exact D
 have x:=aa.Qn n n3 E;have G:=aa.closeAll (aj a k.tS (dh mc pw offs (da.set n (cO b)))::eJ k.tP pw w::L.set n (ke k.tD (k.f pw) b d)) x;exact aa.Ap (L:=aj a k.tS (dh mc pw offs (da.set n (cO b)))::eJ k.tP pw w::L.set n (ke k.tD (k.f pw) b d)) G.nF
end
def cv(p:Pm)(a:Int)(l:aD):aA:=⟨1,0,p,a,bi l l.length,[]⟩
def fL(l:aD)(k:Nat):aG:=(qz 64).map λi:Nat=>if(i:Int)∈(bi l l.length).take k then cO (bu.new (l.getD i 0).toNat)else dB
def cY(p:Pm)(a:Int)(w:Pow)(l:aD):Int×Pow×aG:=
 if(dL l).2&&(bJ p&&dP a 0 16)then
  if(bi l l.length).any λi=>decide (l.getD i.toNat 0<((bI (cv p a l)).length:Int))then(7,w,[])
  else layAll (bo (cv p a l) (bi l l.length)) w (fL l (bi l l.length).length)
 else(1,w,[])
theorem Dk(l:aD):fL l 0=qi 64 dB:=rfl
theorem ws(l:aD)(k:Nat):(fL l k).length=64:=rfl
theorem Dl(l:aD)(k n:Nat)(b:k<(bi l l.length).length)(c:(bi l l.length)[k]=(n:Int))(a:n<64:=by omega):(fL l k).set n (cO (bu.new (l.getD n 0).toNat))=fL l (k+1):=by
 apply zq;intro j;unfold fL;rw[aC _ _ b,qZ,]
 grind
theorem oV(l:aD)(k:Nat)(x:Int):x∈bi l k↔∃n:Nat,n<k/\x=(n:Int)/\0<l.getD n 0:=by
 unfold bi;rw[qN,]
 grind
theorem ww(l:aD)(k i:Nat)(a:i<(bi l k).length):∃n:Nat,n<k/\(bi l k)[i]=(n:Int)/\0<l.getD n 0:=(oV l k _).1 (qf a)
def cQ(p:Int×Int×Int):Nat:=(p.1*p.2.2).toNat
def sI(sz:Nat)(b:aS)(i:Nat):aS:=(b.drop (i*sz)).take sz++(qi sz 0).drop (b.drop (i*sz)).length
theorem JP(sz:Nat)(b:aS)(i:Nat):(sI sz b i).length=sz:=by unfold sI;grind
def splitB(p:Int×Int×Int)(b:aS):dS:=(qz (countP p b.length).toNat).map (sI (cQ p) b)
def uO(p:Int×Int×Int)(o b:Int)(n:Nat):Bool:=fE p (ft o b n) (fl p)
def lP(p:Int×Int×Int)(o b:Int):Option Nat:=(qz 16).find? (uO p o b)
def cV(p:Int×Int×Int)(o:Int):Nat->Option (aD)
 |0=>cO []
 |n+1=>(cV p o n).bind λl=>(lP p o n).map λt=>l++[(t:Int)]
theorem kC{p:Int×Int×Int}{o:Int}:∀{n:Nat} {l:aD},cV p o n=cO l->n1 l=n
 |0,l,h=>by cases h;rfl
 |n+1,l,h=>by
  unfold cV at h;cases h1:cV p o n with
  |none=>grind
  |some k=>
   rw[h1]at h;cases h2:lP p o n with
   |none=>grind
   |some t=>
    rw[h2]at h;injection h with h
    rw[<-h,qq,kC h1];rfl
theorem Dm{p:Int×Int×Int}{o b:Int}{t:Nat}(h:lP p o b=cO t):t<16/\uO p o b t=eH/\∀k,k<t->uO p o b k=eL:=by
 obtain⟨d,us,vs,a,h3⟩:=List.find?_eq_some_iff_append.1 h;have f:=congrArg xz a;have e:t=n1 us:=by
  have:(qz 16)[n1 us]?=cO t:=oo
  grind
 refine⟨oo,d,λk g=>?_⟩;have c:k∈us:=by
  have:(qz 16)[k]?=us[k]?:=by rw[a,qw n3]
  grind
 grind
theorem Dn{p:Int×Int×Int}{o:Int}:∀{n:Nat} {l:aD},cV p o n=cO l->∀i (b:i<n1 l),∃t:Nat,l[i]=(t)/\lP p o i=cO t
 |0,l,h=>by cases h;simp
 |n+1,l,h=>by
  unfold cV at h;cases h1:cV p o n with
  |none=>grind
  |some k=>
   rw[h1]at h;cases h2:lP p o n with
   |none=>grind
   |some t=>
    rw[h2]at h;injection h with h
    subst h;intro i b;have c:=kC h1;by_cases a:i<n1 k
    .rw[List.getElem_append_left a];exact Dn h1 i a
    .have:i=n1 k:=oo
     grind
theorem Do(p:Pm)(h:hY)(d:bJ p=eH):an xZ 145 #[gr p] h λv h'=>v=xP xV (cQ p)/\Sp h h' []:=by
 have b:=(bL p).1 d;refine Av p ?_;refine(Sp.refl h).boxed λe h3 a=>⟨p.1,(a.box 0 n2).cell0 n2,p.2.2,(a.box 0 n2).cell n2,?_,a.bs []⟩
 have f:p.1*p.2.2<=16*24:=wi n3 n3 n3 n3;have c:0<=p.1*p.2.2:=vy n3 n3;rw[ag _];unfold cQ;congr 1;omega
theorem ic{p:Pm}(c:bJ p=eH):1<=cQ p/\cQ p<=384/\(cQ p:Int)=p.1*p.2.2:=by have a:=(bL p).1 c;have d:p.1*p.2.2<=16*24:=wi n3 n3 n3 n3;have b:0<p.1*p.2.2:=Int.mul_pos n3 n3;unfold cQ;omega
theorem kj{p:Pm}(a:bJ p=eH)(n:Nat):0<=countP p n/\countP p n<=n/\∀i:Nat,(i:Int)<countP p n->i*cQ p<n:=by
 obtain⟨h,d,b⟩:=ic a;unfold countP;rw[a,wj];by_cases h0:0<(n:Int)
 .rw[m9 h0,l0 n2,<-b];have j:((n:Int)-1)/(cQ p:Int)<=n-1:=vD _ n3;have e:0<=((n:Int)-1)/(cQ p:Int):=xB n3 n3;refine⟨n3,n3,λi c=>?_⟩;have h3:(i:Int)<=((n:Int)-1)/(cQ p:Int):=n3
  have f:=(Int.le_ediv_iff_mul_le n3).1 h3;have g:((i*cQ p:Nat):Int)=(i:Int)*(cQ p:Int):=zX i (cQ p);omega
 .rw[nb h0,m6 n4];exact⟨n3,n3,λi c=>n3⟩
theorem OC(p:Pm)(s:Sl)(b:aS)(h:hY)(f:bJ p=eH)(l:Rd h s 1 ar b)(I:s.len<=s.cap)(R:n1 b<=2^30):an xZ 146 #[gr p,s] h λv h'=>∃r:Sl,v=r/\Sp h h' [cg r (splitB p b)]:=by
 refine ts Tryz.func146 ?_ (G7 (G7 (Hf [(5,bN),(12,aH)] [(5,8),(12,31)]))) (args:=[p,s]);have c:=l.len;obtain⟨Y,Q,V⟩:=ic f;obtain⟨S,P,c3⟩:=kj f b.length;refine(Sp.refl h).boxed λm z q=>?_;refine⟨p,(q.box 0 n2).aw _ n2,?_⟩;refine(sF p s.len z).I1 λU H=>?_;have E:=q.up H.ac;refine⟨_,n2,?_⟩;obtain⟨n,y⟩:∃n:Nat,n=(countP p b.length).toNat:=⟨_,rfl⟩
 have d:(countP p (s.len:Nat))=(n:Int):=by rw[c];omega
 rw[d];have u:(splitB p b).length=n:=by unfold splitB;rw[<-y];simp
 have a:=E.kc 41 5 1 ar;refine ak (λt:Sl×Nat=>(t.1,(t.2:Int))) (λt h'=>t.2<=n/\Sp h h' [cg t.1 ((splitB p b).take t.2),aj m 24 [xP xV p.1,xP xV p.2.1,xP xV p.2.2]]) (λt=>n-t.2) (⟨dB,0,0⟩,0) n2 ⟨n9,a⟩ ?_;rintro⟨o,i⟩ h3 ⟨W,a⟩;dsimp only at*;refine ae (λe=>?_) (λe=>?_)
 .have A:i<n:=n3
  have L:=c3 i (by rw[<-c,d];omega);refine⟨p,(a.box 1 n2).aw _ n2,(Do p h3 f).I1 λN K=>?_⟩;have w:=a.up K.ac;refine⟨_,n2,w.Ee af ar cN n4 (0:UInt8) n2 n2 (cQ p) (cQ p) n2 n2 (qk _) n3 λv G X O g=>?_⟩;have g:=g.bf;refine⟨p,(g.box 2 n2).aw _ n2,(Do p G f).I1 λT M=>?_⟩;have k:=g.up M.ac;refine⟨_,n2,?_⟩;have em:qe xV ((i:Int)*(cQ p:Int))=((i*cQ p:Nat):Int):=by rw[<-zX,ag _]
  try dsimp only
  rw[em,qj];refine⟨⟨n3,n3⟩,?_⟩;have x:=(Seq.up l k.ac).drop (i*cQ p) I;refine k.CC af 0 n2 cN (λ_=>rfl) (v:=⟨_,s.len-i*cQ p,s.cap-i*cQ p⟩) x cD λ_ J j=>?_;have j:Sp h J [ai 5 v 1 ar (sI (cQ p) b i),cg o ((splitB p b).take i),aj m 24 [xP xV p.1,xP xV p.2.1,xP xV p.2.2]]:=by simpa[sI]using j
  refine(j.aF 2 [1,0]).nG af cM n7 λF h8 D=>?_;refine⟨(F,i+1),n8,⟨n5,?_⟩,n5⟩
  try dsimp only
  rw[aC _ _ (show i<(splitB p b).length by omega)];have B:(splitB p b)[i]'n3=sI (cQ p) b i:=by simp[splitB]
  rw[B];exact D
 .rw[qh n3]at a;exact⟨o,n2,a.bs [0]⟩
theorem lV(a b:UInt8):qe xW ((qH (qx xW) (a.toNat:Int)^^^qH (qx xW) (b.toNat:Int)).toNat:Nat)=((a^^^b).toNat:Int):=by
 have e:∀a:UInt8,qH (qx xW) (a.toNat:Int)=a.toBitVec:=λa=>by
  apply BitVec.eq_of_toNat_eq;have:=zV a;simp[qx]
 rw[e,e];have c:=(a.toBitVec^^^b.toBitVec).isLt;have:((a^^^b).toNat:Int)=((a.toBitVec^^^b.toBitVec).toNat:Int):=rfl;rw[this];show(((a.toBitVec^^^b.toBitVec).toNat:Nat):Int)%256=_;have:(a.toBitVec^^^b.toBitVec).toNat<256:=c;omega
def tri(a:UInt8):Nat->Int×Int×Int
 |0=>((a.toNat:Int),(3:Int),(0:Int))
 |1=>(((Gf.x2 a).toNat:Int),(1:Int),(a.toNat:Int))
 |_=>(((Gf.x2 (Gf.x2 a)).toNat:Int),(0:Int),((Gf.x3 a).toNat:Int))
theorem OD(a:UInt8)(h:hY):an xZ 340 #[xP xW a.toNat,xP xW 3] h λv h'=>v=xP xW (Gf.x3 a).toNat/\h'=h:=by
 have e:∀n:Nat,n<256->
   ((qe xW ((qH (qx xW) (n:Int)&&&(qH (qx xW) (128:Int))).toNat:Nat)) !=(0:Int))=eH->qe xW ((qH (qx xW) (qe xW ((n:Int)*2^min (1:Int).toNat (qx xW)))^^^(qH (qx xW) (27:Int))).toNat:Nat)=((Gf.x2 (zO n)).toNat:Int):=o1
 have c:∀n:Nat,n<256->
   ((qe xW ((qH (qx xW) (n:Int)&&&(qH (qx xW) (128:Int))).toNat:Nat)) !=(0:Int))=eL->qe xW ((n:Int)*2^min (1:Int).toNat (qx xW))=((Gf.x2 (zO n)).toNat:Int):=o1
 refine ts Tryz.func340 ?_ (G7 (.scope 0 [(0,(.sc (.int .u8))),(1,(.sc (.int .u8))),(5,(.sc (.int .u8)))] [(0,2),(4,26)] [E9] [(.two E9 (.two (.join [(5,(.sc (.int .u8)))] [(5,6),(10,16)] E9) (.two E9 (.two E9 (.two (.join [(0,(.sc (.int .u8)))] [(0,1),(21,24)] E9) E9)))))] []));refine ak (tri a) (λt h'=>h'=h/\t<=2) (λt=>2-t) 0 n2 ⟨n2,n3⟩ ?_;rintro t h' ⟨rfl,f⟩;rcases(show t=0∨t=1∨t=2 by omega)with rfl|rfl|rfl
 .rw[show tri a 0=((a.toNat:Int),(3:Int),(0:Int))from rfl]
  try dsimp only
  refine rX n4 (aE (Fl n4 ?_));refine⟨n4,aE ?_⟩;refine aU (λd=>?_) (λd=>?_)
  .rw[e _ (zV a) d,wR];refine⟨n4,1,?_,⟨n2,n4⟩,n4⟩;have:=lV 0 a;simp only[wy]at this;exact y7 n2 (y7 n2 this)
  .rw[c _ (zV a) d,wR];refine⟨n4,1,?_,⟨n2,n4⟩,n4⟩;have:=lV 0 a;simp only[wy]at this;exact y7 n2 (y7 n2 this)
 .rw[show tri a 1=(((Gf.x2 a).toNat:Int),(1:Int),(a.toNat:Int))from rfl]
  try dsimp only
  refine rX n4 (aE (Fl n4 ?_));refine⟨n4,aE ?_⟩;refine aU (λd=>?_) (λd=>?_)
  .rw[e _ (zV (Gf.x2 a)) d,wR];refine⟨n4,2,?_,⟨n2,n4⟩,n4⟩;refine y7 n2 (y7 n2 ?_);have:=lV a (Gf.x2 a);rw[vX]at this;exact this
  .rw[c _ (zV (Gf.x2 a)) d,wR];refine⟨n4,2,?_,⟨n2,n4⟩,n4⟩;refine y7 n2 (y7 n2 ?_);have:=lV a (Gf.x2 a);rw[vX]at this;exact this
 .exact Fl (b:=(0:Int)==0) n4 ⟨n2,n2⟩
def ju:aD:=(qz 255).map λi=>((Gf.pw i).toNat:Int)
def pN:aD:=(qz 256).map λx=>if x=0 then 0 else((Gf.lg (zO x):Nat):Int)
theorem ie:n1 ju=255:=by simp[ju]
theorem ue:n1 pN=256:=by simp[pN]
def eU:aR:=ju.map (Sc.enc (.int .u8))++pN.map (Sc.enc (.int .i64))
abbrev ig(h:hY)(a:fY):Prop:=bR h a 309 eU
theorem IP(k:IntKind)(l:aD):(l.map (Sc.enc (.int k))).all (·.oneCell')=eH:=by rw[List.all_map,qU];intro x _;rfl
theorem OE(h:hY):an xZ 275 #[] h λv h'=>v=xU (ju.map (Sc.enc (.int .u8))).toArray/\Sp h h' []:=by
 refine ts Tryz.func275 ?_ (G7 (G7 (Hf [(1,(.sc (.int .u8))),(3,aH)] [(1,12)])));refine(Sp.refl h).alloc af n2 λa s q=>?_;refine ak (λi:Nat=>(((Gf.pw i).toNat:Int),(i:Int))) (λi h'=>i<=255/\Sp h h' [aj a 304 (((qz 255).map λj=>if j<i then((Gf.pw j).toNat:Int)else 0).map (Sc.enc (.int .u8)))]) (λi=>255-i) 0 n2 ⟨n3,?_⟩ ?_
 .have e:((qz 255).map λj=>if j<0 then((Gf.pw j).toNat:Int)else 0).map (Sc.enc (.int .u8))=qi 255 (xP xW 0):=by simp;rfl
  rw[e];exact q
 .rintro i t ⟨u,f⟩;refine ae (λm=>?_) (λk=>?_)
  .dsimp only at m;refine⟨⟨n5,n5⟩,?_⟩
   try dsimp only
   rw[show((i:Int).toNat*1)=i by omega];refine f.storeAt af 0 n2 n2 n2 n2 n2 n7 λh3 g=>?_;refine(OD (Gf.pw i) h3).I0 ⟨_,n2,i+1,?_,⟨n3,?_⟩,n3⟩
   .rw[ag _];rfl
   .have e:((((qz 255).map λj=>if j<i then((Gf.pw j).toNat:Int)else 0).map (Sc.enc (.int .u8))).set i (xP xW (Gf.pw i).toNat))=(((qz 255).map λj=>if j<i+1 then((Gf.pw j).toNat:Int)else 0).map (Sc.enc (.int .u8))):=by
     apply zq;intro j;simp only[qZ,qP,qp,zQ];by_cases d:i=j
     .subst d;have:i<255:=n3
      simp[this]
     .by_cases c:j<255
      .simp only[d,if_false,zt c,zp];by_cases b:j<i
       .rw[l0 b,l0 n3]
       .rw[m6 b,m6 n3]
      .simp[d,c]
    rw[<-e];exact g
  .have l:i=255:=by dsimp only at k;omega
   subst l;have e:((qz 255).map λj=>if j<255 then((Gf.pw j).toNat:Int)else 0)=ju:=by unfold ju;apply List.map_congr_left;intro j d;rw[l0 (q8.1 d)]
   rw[e]at f;have p:=f.box 0 n2;refine⟨ju,⟨ie,p.aw _ Bm⟩,?_⟩;refine f.storeAll af 0 n2 n2 (ju.map (Sc.enc (.int .u8))) n2 (by rw[qp,ie]) (IP _ _) n2 λh3 g=>?_;have o:=g.box 0 n2;exact⟨ju,⟨ie,o.aw _ Bm⟩,n2,.zip g.ac⟩
theorem UX(h:hY):an xZ 276 #[xU (ju.map (Sc.enc (.int .u8))).toArray] h λv h'=>v=xU (pN.map (Sc.enc (.int .i64))).toArray/\Sp h h' []:=by
 refine ts Tryz.func276 ?_ (G7 (Hf [(6,aH)] [(3,5),(6,14)])) (args:=[(xU (ju.map (Sc.enc (.int .u8))).toArray)]);refine(Sp.refl h).boxed λa D A=>?_;refine A.alloc af n2 λz E q=>?_;have p:=q.box 0 n2;refine⟨ju,⟨ie,p.aw _ (by show List.take _ (ju.map _)=_;rw[qh (qk _)])⟩,?_⟩;let L:Nat->aD:=λi=>(qz 256).map λx=>if x≠0/\Gf.lg (zO x)<i then((Gf.lg (zO x):Nat):Int)else 0
 refine ak (λi:Nat=>(i:Int)) (λi h'=>i<=255/\Sp h h' [emp,aj z 306 ((L i).map (Sc.enc (.int .i64)))]) (λi=>255-i) 0 n2 ⟨n3,?_⟩ ?_
 .have e:(L 0).map (Sc.enc (.int .i64))=qi 256 (xP xV 0):=by simp[L];rfl
  rw[e];exact q.dG 0 n2 λ_ _=>trivial
 .rintro i h3 ⟨F,k⟩;refine ae (λy=>?_) (λu=>?_)
  .have c:i<255:=n3
   have s:=zV (Gf.pw i);refine⟨((Gf.pw i).toNat:Int),⟨n3,n3,by simp[ju,c]⟩,⟨n3,n3⟩,?_⟩;rw[show(((Gf.pw i).toNat:Int).toNat*1)=(Gf.pw i).toNat by omega];refine k.storeAt af 1 n2 n2 n2 n2 n2 (by simp[L];omega) λt g=>?_;refine⟨i+1,oi,⟨n3,?_⟩,n3⟩;have e:((L i).map (Sc.enc (.int .i64))).set (Gf.pw i).toNat (xP xV i)=(L (i+1)).map (Sc.enc (.int .i64)):=by
    apply zq;intro j;simp only[qZ,qP,qp,zQ,L];by_cases f:(Gf.pw i).toNat=j
    .subst f;simp only[if_true,zt s,zp,s];have l:(Gf.pw i).toNat≠0:=λh0=>Gf.Ry i c (yC.1 h0);rw[wR,Gf.Rx i c,l0 ⟨l,n3⟩]
    .by_cases d:j<256
     .simp only[f,if_false,zt d,zp];by_cases b:j=0
      .simp[b]
      .have B:Gf.lg (zO j)≠i:=λh0=>by
        apply f;rw[<-h0,Gf.Rw _ λw=>b (by have:=congrArg UInt8.toNat w;simpa[yZ d]using this)];simp[yZ d]
       by_cases o:Gf.lg (zO j)<i
       .rw[l0 ⟨b,o⟩,l0 ⟨b,n3⟩]
       .rw[m6 λr=>o r.2,m6 λr=>o n3]
     .simp[f,d]
   rw[<-e];exact g
  .have c:i=255:=n3
   subst c;have e:L 255=pN:=by
    unfold pN;apply List.map_congr_left;intro j f;by_cases b:j=0
    .simp[b]
    .rw[l0 ⟨b,Gf.Gv _⟩,m6 b]
   rw[e]at k;have p:=k.box 1 n2;refine⟨pN,⟨ue,p.aw _ Bm⟩,?_⟩;refine k.storeAll af 1 n2 n2 (pN.map (Sc.enc (.int .i64))) n2 (by rw[qp,ue]) (IP _ _) n2 λt g=>?_;have m:=g.box 1 n2;exact⟨pN,⟨ue,m.aw _ Bm⟩,n2,.zip g.ac⟩
theorem sJ(h:hY):an xZ 209 #[] h λv h'=>∃a:fY,v=xR (cO a)/\Sp h h' [aj a 309 eU]:=by
 refine ts Tryz.func209 ?_;refine(OE h).mono ?_;rintro v s ⟨rfl,q⟩;refine⟨ju,n2,?_⟩;refine q.alloc af n2 λa u o=>?_;refine o.storeAll af 0 n2 n2 (ju.map (Sc.enc (.int .u8))) n2 (by rw[qp,ie]) (IP _ _) (by rw[qp,ie];rfl) λh3 g=>?_;have j:=g.box 0 n2;have d:bA h3 a 0 (ju.map (Sc.enc (.int .u8))):=j.aw _ Bm;refine⟨ju,⟨ie,d⟩,ju,⟨ie,d⟩,?_⟩;refine(UX h3).I1 λr f=>⟨pN,n2,nl.2 ⟨(f.ac).cells j.lt d,I4⟩,_,tv af (i:=_) n2 n2 n2 (cells:=eU.toArray) ?_,?_⟩
 .have b:∀z:aR,n1 z=511->wC (λn=>[(0,255),(255,256)][n]?) z.toArray [(0,xU (ju.map (Sc.enc (.int .u8))).toArray),(1,xU (pN.map (Sc.enc (.int .i64))).toArray)]=cO eU.toArray:=by
   intro z b;have e:z=[]++z.take 255++z.drop 255:=n9
   conv=>lhs;rw[e]
   rw[LQ (vs:=ju.map (Sc.enc (.int .u8))) n2 (by simp[ie]) (by simp[ie,b])];have e2:[]++ju.map (Sc.enc (.int .u8))++z.drop 255=ju.map (Sc.enc (.int .u8))++z.drop 255++[]:=n9
   rw[e2,LQ (vs:=pN.map (Sc.enc (.int .i64))) n2 (by simp[ie,ue]) (by simp[ue,b])];simp[wC,eU]
  exact b _ n2
 .have m:(Value.agg eU.toArray).cells.toList=eU:=rfl;refine(g.comp f).boxed λp t l=>?_;have c:=l.box 0 n2;exact⟨nl.2 ⟨c.aw _ Bm,I4⟩,p,n2,l.take 1 λi A k=>by cases i with|zero=>exact k|succ i=>simp at k⟩
theorem Dp{h:hY}{a:fY}(c:ig h a)(n:Nat)(b:n<255):hU h (a.add n)=cO (xP xW (Gf.pw n).toNat):=
 c.cell (by rw[eU,qw (by simp[ie,b])];simp[ju,b])
theorem Dq{h:hY}{a:fY}(c:ig h a)(x:UInt8)(d:x≠0):hU h ((a.add 255).add x.toNat)=cO (xP xV (Gf.lg x)):=by
 have f:=c.addr;have e:(a.add 255).add x.toNat=a.add (255+x.toNat):=by rw[f,add_eq,add_eq,add_eq];congr 1;omega
 rw[e];refine c.cell ?_;have b:=zV x;have h0:x.toNat≠0:=λh0=>d (yC.1 h0);rw[eU,ql (by simp[ie])];simp[ie,pN,b,h0]
theorem pO(a:fY)(h:hY):an xZ 368 #[xR (cO a)] h λv h'=>v=xR (cO a)/\h'=h:=by refine ts Tryz.func368 ?_;exact rX n2 ⟨n2,n2⟩
theorem sh(a:fY)(h:hY):an xZ 273 #[xR (cO a)] h λv h'=>v=xR (cO a)/\h'=h:=by refine ts Tryz.func273 ?_;exact rX n2 ⟨n2,n2⟩
theorem Kz(a:fY)(h:hY):an xZ 374 #[xR (cO a)] h λv h'=>v=xR (cO a)/\h'=h:=by refine ts Tryz.func374 ?_;exact rX n2 ⟨n2,n2⟩
theorem nj{x:UInt8}:((x.toNat:Int)=0)↔x=0:=⟨λh=>yC.1 u0,λh=>by rw[h];rfl⟩
theorem FR(a:fY)(x y:UInt8)(h:hY)(f:ig h a):an xZ 317 #[xR (cO a),xP xW x.toNat,xP xW y.toNat] h λv h'=>v=xP xW (Gf.mul x y).toNat/\h'=h:=by
 refine ts Tryz.func317 ?_ (G7 (HF [] [(6,7),(8,14)] E9));refine aE ?_;refine aV (λh0=>⟨by rw[Gf.mul,l0 (.inl (nj.1 h0))];rfl,n2⟩) λg=>?_;refine aV (λh0=>⟨by rw[Gf.mul,l0 (.inr (nj.1 h0))];rfl,n2⟩) λi=>?_;have b:x≠0:=λh0=>g (nj.2 h0);have c:y≠0:=λh0=>i (nj.2 h0);refine(pO a h).I0 ?_;have l:=zV x;have j:=zV y;have l1:=Gf.Gv x;have l2:=Gf.Gv y;refine⟨cO a,n2,a,n2,⟨n3,n3⟩,(Gf.lg x:Int),?_,a,n2,⟨n3,n3⟩,(Gf.lg y:Int),?_,n4,a,n2,?_⟩
 .rw[show((x.toNat:Int).toNat*1)=x.toNat by omega];exact Dq f x b
 .rw[show((y.toNat:Int).toNat*1)=y.toNat by omega];exact Dq f y c
 rw[ag _];have e:xH ((Gf.lg x:Int)+(Gf.lg y:Int)) 255=(((Gf.lg x+Gf.lg y)%255:Nat):Int):=by rw[zY n3];rfl
 rw[e];have d:=vu (Gf.lg x+Gf.lg y) (show 255>0 by decide);refine⟨⟨n3,n3⟩,_,?_,by rw[Gf.mul,m6 (by simp[b,c])],n2⟩;rw[show((((Gf.lg x+Gf.lg y)%255:Nat):Int).toNat*1)=(Gf.lg x+Gf.lg y)%255 by omega];exact Dp f _ d
theorem XN(a:fY)(x:UInt8)(h:hY)(d:ig h a):an xZ 336 #[xR (cO a),xP xW x.toNat] h λv h'=>v=xP xW (Gf.inv x).toNat/\h'=h:=by
 refine ts Tryz.func336 ?_;refine aV (λh0=>⟨by rw[Gf.inv,l0 (nj.1 h0)];rfl,n2⟩) λf=>?_;have b:x≠0:=λh0=>f (nj.2 h0);refine(pO a h).I0 ?_;have i:=zV x;have l1:=Gf.Gv x;refine⟨cO a,n2,a,n2,⟨n3,n3⟩,(Gf.lg x:Int),?_,n4,a,n2,?_⟩
 .rw[show((x.toNat:Int).toNat*1)=x.toNat by omega];exact Dq d x b
 rw[ag _];have e:xH (255-(Gf.lg x:Int)) 255=(((255-Gf.lg x)%255:Nat):Int):=by rw[zY n3];omega
 rw[e];have c:=vu (255-Gf.lg x) (show 255>0 by decide);refine⟨⟨n3,n3⟩,_,?_,by rw[Gf.inv,m6 b],n2⟩;rw[show((((255-Gf.lg x)%255:Nat):Int).toNat*1)=(255-Gf.lg x)%255 by omega];exact Dp d _ c
theorem XO(a:fY)(n:Int)(h:hY)(i:ig h a):an xZ 342 #[xR (cO a),xP xV n] h λv h'=>v=xP xW (Gf.pw (n%255).toNat).toNat/\h'=h:=by
 refine ts Tryz.func342 ?_ (G7 (G7 (HF [(1,aH)] [(1,2),(7,11)] E9)));have j:=vb n (show(0:Int)<255 by decide);have g:-255<n.tmod 255:=vP n n4;have b:=Fp n 255;have c:=Int.emod_nonneg n (show(255:Int)≠0 by decide);have d:=Int.emod_lt_of_pos n (show(0:Int)<255 by decide);refine⟨n4,bj (λs h'=>s=n%255/\h'=h) ?_ ?_⟩
 .refine ae (λf=>?_) (λe=>?_)
  .rw[l0 f]at b;exact⟨by rw[ag _,b],n2⟩
  .rw[m6 e]at b;exact⟨b.symm,n2⟩
 .rintro s h' ⟨rfl,rfl⟩;refine(pO a h').I0 ⟨cO a,n2,a,n2,⟨c,d⟩,_,?_,n2,n2⟩;rw[zM];exact Dp i _ n3
theorem lW(p:Pm)(h:hY):an xZ 244 #[gr p] h λv h'=>v=xP xV (bE p)/\Sp h h' []:=by refine ts Tryz.func244 ?_ (args:=[p]);refine(Sp.refl h).boxed λa g c=>?_;refine⟨p,(c.box 0 n2).aw _ n2,?_⟩;refine(fc p g).I1 λi f=>?_;have b:=c.comp f;have d:=b.box 0 n2;refine⟨_,n2,aI (λe=>⟨by simp[bE,e],.zip b.ac⟩) λe=>?_⟩;refine⟨_,d.cell0 n2,_,d.cell n2,?_,.zip b.ac⟩;have:=(bL p).1 e;rw[ag _,bE,l0 e]
theorem UY(n i:Int)(h:hY):an xZ 341 #[xP xV n,xP xV i] h λv h'=>∃s:Sl,v=s/\
  Sp h h' [ai 5 s 1 ar (if 1<=n/\n<=64/\0<=i/\i<n then(qi n.toNat (0:UInt8)).set i.toNat 1 else[])]:=by
 refine ts Tryz.func341 ?_ (G7 (HF [] [(4,5),(6,21)] E9));have a:∀c:Prop,¬c->[Decidable c]->Sp h h [ai 5 ⟨dB,0,0⟩ 1 ar (if c then(qi n.toNat (0:UInt8)).set i.toNat 1 else[])]:=λc b _=>by
  rw[m6 b];exact(Sp.refl h).nil 5 1 ar
 refine aE ?_;refine ae (λe=>⟨⟨dB,0,0⟩,n2,a _ n3⟩) λm=>?_;refine ae (λe=>⟨⟨dB,0,0⟩,n2,a _ n3⟩) λe2=>?_;refine ae (λe=>⟨⟨dB,0,0⟩,n2,a _ n3⟩) λj=>?_;refine ae (λe=>⟨⟨dB,0,0⟩,n2,a _ n3⟩) λo=>?_;refine(Sp.refl h).make af ar ⟨_,_,n2,n2,n2,n2,n2,n2⟩ n4 0 n2 n2 n.toNat n.toNat n3 n3 (qk _) n3 λs g k b f=>?_;refine f.set af 0 n2 (λ_=>rfl) n2 i.toNat n3 n7 1 n2 n2 n2 λl d=>?_;refine⟨s,n2,?_⟩;rw[l0 n3];exact d
theorem KA(s:Int)(h:hY):an xZ 252 #[xP xX s] h λv h'=>∃a:fY,v=xR (cO a)/\Sp h h' [aj a 350 [xP xY (qe xY s)]]:=by refine ts Tryz.func252 ?_;exact(Sp.refl h).boxed λa c b=>⟨a,n2,b⟩
theorem AB(a:fY)(s:Int)(h:hY)(d:bR h a 350 [xP xY s]):an xZ 253 #[xR (cO a)] h λv h'=>v=xP xX (told s)/\bR h' a 350 [xP xY (tw s)]/\aP (·≠a.block) h h':=by refine ts Tryz.func253 ?_;refine rX n2 ⟨a,n2,s,d.cell0 n2,a,n2,?_⟩;refine sp af d n2 _ n2 n2 n2 (qk _) λe b c _=>?_;exact⟨a,n2,_,b.cell0 n2,n4,n2,b,c⟩
theorem GW(a:fY)(s n:Int)(h:hY)(d:bR h a 350 [xP xY s])(g:0<n:=by omega)(f:n<=2^62:=by omega):an xZ 319 #[xR (cO a),xP xV n] h λv h'=>v=xP xV (jf s n)/\bR h' a 350 [xP xY (tw s)]/\aP (·≠a.block) h h':=by refine ts Tryz.func319 ?_ (G7 (HF [] [(4,11)] E9));refine aE (rX n2 (ae (λe=>n3) λ_=>?_));refine(AB a s h d).I1 λi ⟨c,b⟩=>⟨_,n2,B1,n2,c,b⟩
theorem Ew(a b:Nat)(c:a<=2^40)(d:b<=2^40):qe xV ((a:Int)+(b:Int))=((a+b:Nat):Int):=by rw[ag _];rfl
theorem UZ(l:Nat)(h:hY)(f:l<=20):an xZ 369 #[xP xV l] h λv h'=>v=xP xV (cw l)/\h'=h:=by
 have i:∀l:Nat,l<=20->∀r:Nat,r<=5->(∀j,j<r->j*j<l)->r*r<l->r<5:=n4
 have o:∀l:Nat,l<=20->∀r:Nat,r<=5->(∀j,j<r->j*j<l)->¬r*r<l->r=cw l:=n4
 refine ts Tryz.func369 ?_ (G7 (G7 (E8 (F8 (G0 [(3,aH)] [(3,11)] E9)) E9)));refine ak (λr:Nat=>(r:Int)) (λr h'=>h'=h/\r<=5/\∀j,j<r->j*j<l) (λr=>5-r) 0 n2 ⟨n2,n3,λj d=>n3⟩ ?_;rintro r h' ⟨rfl,c,d⟩;have k:r*r<=25:=zu c c;have e:qe xV ((r:Int)*(r:Int))=((r*r:Nat):Int):=by rw[<-zX];exact kp _
 rw[e];refine ae (λm=>?_) (λg=>?_)
 .have a:r*r<l:=n3
  have p:=i l f r c d a;refine⟨r+1,oi,⟨n2,n3,λj b=>?_⟩,n3⟩;rcases Nat.lt_succ_iff_lt_or_eq.1 b with b|rfl
  .exact d j b
  .exact a
 .exact⟨by rw[o l f r c d n3],n2⟩
theorem Va(r:Nat)(h:hY)(b:r<=5):an xZ 222 #[xP xY r] h λv h'=>v=xP xV (rf r)/\h'=h:=by
 intro w a;refine(Tryz.bits_Len (r:Int) w n3 n3).mono ?_;rintro e w' ⟨rfl,rfl⟩;have k:∀r:Nat,r<=5->Lib.bitLen r=rf r:=o1
 exact⟨_,n2,dn.refl _,by rw[qj,k r b],a⟩
theorem OF(l k:Nat)(h:hY)(b:l<=20)(a:1<=l)(d:k<=20)(g:1<=k):an xZ 320 #[xP xV l,xP xV k] h λv h'=>v=xP xV (lj l k)/\h'=h:=by
 have u:∀k:Nat,k<=20->1<k->qe xV ((k:Int)*qe xV ((k:Int)-1))=((k*(k-1):Nat):Int)/\k*(k-1)≠0:=n4
 have m:∀l:Nat,l<=20->1<=l->1<=cw l/\cw l<=5:=n4
 have c3:∀l:Nat,l<=20->1<=l->qe xV (yD (l:Int) (cw l))=((l/cw l:Nat):Int):=n4
 have t:∀l:Nat,l<=20->1<=l->∀k:Nat,k<=20->1<=k->qe xV ((l:Int)*k)≠0:=o1
 have r:∀k:Nat,k<=20->1<k->qe xV (yD (1048576:Int) (qe xV ((k:Int)*qe xV ((k:Int)-1))))=((1048576/(k*(k-1)):Nat):Int):=o1
 have z:∀l:Nat,l<=20->1<=l->qe xV (yD (1048576:Int) (l:Int))=((1048576/l:Nat):Int):=o1
 have j:∀l:Nat,l<=20->1<=l->∀k:Nat,k<=20->1<=k->qe xV (yD (qe xV ((1048576:Int)*cw l)) (qe xV ((l:Int)*k)))=((1048576*cw l/(l*k):Nat):Int):=o1
 have y:∀l:Nat,l<=20->1<=l->qe xV (yD (qe xV ((qe xV ((1048576:Int)*cw l))*rf (cw l))) (l:Int))=((1048576*cw l*rf (cw l)/l:Nat):Int):=o1
 have p:∀l:Nat,l<=20->∀k:Nat,k<=20->1048576*cw l/(l*k)<=2^30/\1048576*cw l*rf (cw l)/l<=2^30/\1048576/(k*(k-1))<=2^30/\1048576/l<=2^30:=o1
 refine ts Tryz.func320 ?_ (G7 (G7 (G7 (HF [(6,aH)] [(6,7),(12,19)] (HF [(6,aH)] [(6,8),(19,48)] E9)))));have i:=p l b k d;refine(UZ l h b).mono ?_;rintro v o ⟨rfl,rfl⟩;have x:=m l b a;refine⟨_,n2,n3,bj (λs h'=>s=(((if k>1 then 1048576/(k*(k-1))else 1048576/l):Nat):Int)/\h'=o) ?_ ?_⟩
 .refine ae (λe=>?_) (λe=>?_)
  .have:=u k d n3;refine⟨by rw[this.1];omega,by rw[r k d n3,l0 n3],n2⟩
  .refine⟨by rw[z l b a,m6 n3],n2⟩
 .rintro s w ⟨rfl,rfl⟩;have A:(if k>1 then 1048576/(k*(k-1))else 1048576/l)<=2^30:=by split<;>first|exact i.2.2.1|exact i.2.2.2
  refine aE ?_;try dsimp only
  refine⟨show((cw l:Nat):Int)≠0 by omega,?_⟩;rw[c3 l b a];refine ae (λe=>⟨t l b a k d g,?_,n2⟩) (λe=>?_)
  .rw[j l b a k d g,Ew _ _ n3 (q7 i.1 n4),lj,l0 (c:=k<l/cw l) (xG.1 e)]
  .refine aV (λe2=>?_) (λe2=>?_)
   .have q:qe xY (cw l:Int)=(cw l:Int):=B1
    rw[q];refine(Va (cw l) w x.2).I0 ⟨_,n2,n3,?_,n2⟩;rw[y l b a,Ew _ _ n3 (q7 i.2.1 n4),lj,m6 (c:=k<l/cw l) λf=>e (xG.2 f),l0 (c:=k=l/cw l) (yV.1 e2)]
   .exact⟨by rw[lj,m6 (c:=k<l/cw l) λf=>e (xG.2 f),m6 (c:=k=l/cw l) λf=>e2 (yV.2 f),Nat.add_zero],n2⟩
theorem Sq(l:Nat)(h:hY)(c:l<=20)(a:1<=l):an xZ 255 #[xP xV l] h λv h'=>∃s:Sl,v=s/\Sp h h' [ai 3 s 1 aq (fD l)]:=by
 refine ts Tryz.func255 ?_ (G7 (HF [] [(2,3),(6,12)] (G7 (G7 (Hf [(3,bN),(4,aH),(5,aH)] [(3,6),(14,28)])))));refine aE (ae (λe=>n3) λ_=>ae (λe=>n3) λ_=>?_);refine(Sp.refl h).make af aq eK n4 0 n2 n2 0 l n2 n2 n3 n3 λs p m u j=>?_;refine ak (λt:Sl×Nat=>(t.1,((jm l t.2:Nat):Int),((t.2+1:Nat):Int))) (λt h'=>t.2<=l/\Sp h h' [ai 3 t.1 1 aq ((fD l).take t.2)]) (λt=>l-t.2) (s,0) n2 ⟨n9,by simpa using j⟩ ?_;rintro⟨s,k⟩ g ⟨q,b⟩;dsimp only at*;refine ae (λe=>?_) (λe=>?_)
 .refine(OF l (k+1) g c a n3 n3).I0 ⟨_,n2,?_⟩;have w:=sQ l c k n3;have r:=AV l c (k+1) n3;have e2:qe xV ((jm l k:Int)+(lj l (k+1):Int))=((jm l (k+1):Nat):Int):=by rw[ag _,jm];rfl
  try dsimp only
  rw[e2];refine b.push af 0 n2 eK n2 n4 (λ_=>rfl) cP _ n2 n4 t6 λi o d=>?_;refine⟨(i,k+1),n8,⟨n5,?_⟩,n5⟩;have f:(fD l).take (k+1)=(fD l).take k++[((jm l (k+1):Nat):Int)]:=by rw[aC _ _ v6];simp[fD]
  dsimp only;rw[f];exact d
 .refine⟨s,n2,?_⟩;rw[qh v6]at b;exact b
theorem OG{p:au}(t:Sl)(lt:aD)(x b:Int)(h:hY)(c:Seq h p t 1 aq lt)(r:0<=x)(a:lt.getLast?=cO b)(g:x<b)(u:n1 lt<=2^40):
  an xZ 318 #[t,xP xV x] h λv h'=>v=xP xV (Iv lt x)/\h'=h:=by
 refine ts Tryz.func318 ?_ (G7 (HF [] [(4,5),(7,24)] (Hf [(26,aH)] [(4,7),(26,37)])));have s:=c.len;have f:lt≠[]:=λe=>by rw[e]at a;cases a
 have m:0<n1 lt:=List.length_pos_iff.2 f;have i:lt[n1 lt-1]=b:=by rw[List.getLast?_eq_getElem?,qd n3]at a;simpa using a
 refine aE (aV (λe=>n3) λ_=>ae (λe=>n3) λ_=>?_);rw[ag _];refine c.aX (n1 lt-1) n3 n3 _ n2 ?_;rw[i];refine ae (λe=>n3) λ_=>?_;have j:(lt.findIdx λy=>decide (y>x))<n1 lt:=List.findIdx_lt_length_of_exists ⟨b,List.mem_of_getLast? a,D9⟩;refine ak (λk:Nat=>(k:Int)) (λk h'=>h'=h/\k<=(lt.findIdx λy=>decide (y>x))) (λk=>n1 lt-k) 0 n2 ⟨n2,n3⟩ ?_;rintro k h' ⟨rfl,o⟩;refine ae (λe=>?_) (λe=>n3);have l:k<n1 lt:=n3
 refine c.aX k n2 l _ n2 ?_;rw[ag _];refine ae (λe2=>?_) (λe2=>?_)
 .have:(lt.findIdx λy=>decide (y>x))=k:=Nat.le_antisymm (Nat.le_of_not_lt λd=>by have:=List.not_of_lt_findIdx d;simp at this;omega) o;exact⟨by rw[Iv,this];rfl,n2⟩
 .refine⟨k+1,n2,⟨n2,?_⟩,n3⟩;refine Nat.lt_of_le_of_ne o λq=>?_;have:=List.findIdx_getElem (xs:=lt) (p:=λy=>decide (y>x)) (w:=j);simp only[<-q]at this;simp at this;omega
theorem EC(t:Sl)(n:Nat)(a:fY)(s:Int)(h:hY)(f:Seq h (·≠a.block) t 1 aq (fD n))(m:bR h a 350 [xP xY s])(d:1<=n)(g:n<=20):
  an xZ 254 #[t,xR (cO a)] h λv h'=>v=xP xV (AX s n)/\bR h' a 350 [xP xY (tw s)]/\aP (·≠a.block) h h':=by
 refine ts Tryz.func254 ?_;have l:=f.len;rw[fV]at l;refine aV (λe=>n3) λ_=>?_;rw[ag _];refine f.aX (n-1) n3 v6 _ n2 ?_;have o:(fD n)[n-1]'(by rw[fV];omega)=((jm n n:Nat):Int):=by simp only[fD,List.getElem_map,List.getElem_range];rw[show n-1+1=n by omega]
 rw[o];have q:=Ft n g d;have k:=sQ n g n g;refine(GW a s _ h m).mono ?_;rintro v j ⟨rfl,i,b⟩;have c:=nQ s (jm n n);refine⟨_,n2,(OG t (fD n) _ _ j (f.ac b) c.1 (AW n d) c.2 v6).I0 ?_⟩;exact⟨_,n2,n2,i,b⟩
theorem Vb(a:fY)(s:Int)(n k:Nat)(h:hY)(F:bR h a 350 [xP xY s])(N:n<=64)(P:k<=n):
  an xZ 256 #[xR (cO a),xP xV n,xP xV k] h λv h'=>∃r:Sl,v=r/\aa (λb=>b<h.size/\¬b=a.block) h h' [aj a 350 [xP xY (dY n s (upto n) k).1],ai 3 r 1 aq (AU s n k)]:=by
 refine ts Tryz.func256 ?_ (G7 (HF [] [(6,7),(12,27)] (G7 (E8 (G7 (F8 (G0 [(31,aH)] [(8,9),(31,39)] E9))) (Hf [(40,aH)] [(9,11),(40,65)])))));refine aE (ae (λe=>n3) λ_=>ae (λe=>n3) λ_=>ae (λe=>n3) λ_=>ae (λe=>n3) λ_=>?_);have H:aa (λb=>b<h.size/\¬b=a.block) h h [aj a 350 [xP xY s]]:=.LP (λb=>b=a.block) (λb q=>by rw[q];exact F.lt) ⟨F,n2⟩;refine H.make af aq eK n4 0 n2 n2 n n n2 n2 (qk _) n3 λv O Q T M=>?_;refine ak (λi:Nat=>(i:Int)) (λi h'=>i<=n/\aa (λb=>b<h.size/\¬b=a.block) h h' [aj a 350 [xP xY s],ai 3 v 1 aq ((upto n).take i++qi (n-i) 0)]) (λi=>n-i) 0 n2 ⟨n3,by simpa using M⟩ ?_;rintro i S ⟨U,t⟩;refine ae (λe=>?_) (λe=>?_)
 .have l:i<n:=n3
  refine t.set af 1 n2 (λ_=>rfl) n2 i n2 (by simp[fA];omega) (i:Int) n2 n2 n2 λh3 f=>?_;refine⟨i+1,oi,⟨n3,?_⟩,n3⟩;have e2:((upto n).take i++qi (n-i) 0).set i (i:Int)=(upto n).take (i+1)++qi (n-(i+1)) 0:=by
   have D:((upto n).take i).length=i:=by rw[qB,fA];omega
   rw[aC _ _ B6,za _ _ n3,D,zh,show n-i=n-(i+1)+1 by omega,yk,zx];simp[upto]
  rw[<-e2];exact f
 .have l:i=n:=n3
  subst l;have e2:(upto i).take i++qi (i-i) 0=upto i:=by rw[qh B6];simp
  rw[e2]at t;refine ak (λj:Nat=>(j:Int)) (λj h'=>j<=k/\aa (λb=>b<h.size/\¬b=a.block) h h' [aj a 350 [xP xY (dY i s (upto i) j).1],ai 3 v 1 aq (dY i s (upto i) j).2]) (λj=>k-j) 0 n2 ⟨n3,t⟩ ?_;rintro j h3 ⟨V,f⟩;have z:=pC i s (upto i) j;rw[fA]at z;refine ae (λJ=>?_) (λJ=>?_)
  .rw[ag _];have d:((i:Int)-(j:Int))=((i-j:Nat):Int):=n3
   rw[d];refine(GW a _ _ h3 (f.box 0 n2)).mono ?_;rintro w E ⟨rfl,x,u⟩;have g:=f.oc 0 n2 u x;have L:=nQ (dY i s (upto i) j).1 ((i-j:Nat):Int);refine⟨_,n2,?_⟩
   try dsimp only
   rw[ag _,ag _];have G:(j:Int)+jf (dY i s (upto i) j).1 ((i-j:Nat):Int)=((j+(jf (dY i s (upto i) j).1 ((i-j:Nat):Int)).toNat:Nat):Int):=n3
   have c:j+(jf (dY i s (upto i) j).1 ((i-j:Nat):Int)).toNat<(dY i s (upto i) j).2.length:=n3
   rw[G];have m:=g.seq 1 n2 λ_=>rfl;refine m.aX _ n2 c _ n2 ?_;refine m.aX j n2 n3 _ n2 ?_;refine g.set af 1 n2 (λ_=>rfl) n2 j n2 n3 _ n2 n2 n2 λK B=>⟨I4,?_⟩
   refine B.set af 1 n2 (λ_=>rfl) n2 _ n2 D5 _ n2 n2 n2 λR I=>⟨I4,?_⟩
   refine⟨j+1,n2,⟨n3,?_⟩,n3⟩;rw[dY,jb,eZ,eZ,Qw.getD_lt c,Qw.getD_lt (show j<(dY i s (upto i) j).2.length by omega)];exact I
  .have o:j=k:=n3
   subst o;refine⟨⟨n3,n3⟩,?_⟩;have p:=f.seq 1 n2 λ_=>rfl;refine(jG ⟨v.ptr,j,v.cap⟩ ((dY i s (upto i) j).2.take j) h3 (p.take j n3) t6).mono ?_;rintro w E ⟨r,rfl,g⟩;refine⟨r,n2,?_⟩;refine(JJ r _ E (g.own 0 n2) t6).I1 λK ⟨y,A⟩=>?_;have B:=(f.comp g).oa 2 n2 A y;exact⟨(),n2,r,n2,B.del 1⟩
theorem uP(p:Pm)(seed id:Int)(h:hY):an xZ 178 #[gr p,xP xX seed,xP xV id] h λv h'=>∃r:Sl,v=r/\Sp h h' [ai 3 r 1 aq (if bJ p&&bQ id then ey (bE p).toNat seed id else[])]:=by
 refine ts Tryz.func178 ?_ (G7 (HF [] [(6,7),(10,21)] E9)) (args:=[p,(xP xX (seed:Int)),(id:Int)]);refine(Sp.refl h).boxed λa z F=>?_;refine aE ?_;refine⟨p,(F.box 0 n2).aw _ n2,(fc p z).mono ?_⟩;rintro v l ⟨rfl,N⟩;have j:=F.comp N;have x:(bJ p&&bQ id)=eL->Sp h l [ai 3 ⟨dB,0,0⟩ 1 aq (if bJ p&&bQ id then ey (bE p).toNat seed id else[])]:=λL=>by
  rw[L];exact(j.nil 3 1 aq).take 1 (λi A c=>by cases i with|zero=>exact c|succ i=>simp at c)
 refine⟨_,n2,aI (λe=>⟨⟨dB,0,0⟩,n2,x A1⟩) λs=>?_⟩;refine ae (λe=>⟨⟨dB,0,0⟩,n2,x u6⟩) λV=>?_;refine ae (λe=>⟨⟨dB,0,0⟩,n2,x u6⟩) λe2=>?_;have hid:bQ id=eH:=u6
 rw[s,hid];refine⟨p,(j.box 0 n2).aw _ n2,(lW p l).mono ?_⟩;rintro v h3 ⟨rfl,P⟩;have K:=j.comp P;have S:=(bL p).1 s;have U:bE p=p.1+p.2.1:=by rw[bE,l0 s]
 obtain⟨n,I⟩:∃n:Nat,bE p=n:=⟨(bE p).toNat,n3⟩
 refine⟨_,n2,?_⟩
 try dsimp only
 rw[I,qj];refine(KA _ h3).mono ?_;rintro v G ⟨d,rfl,E⟩;refine⟨cO d,n2,?_⟩;refine(AB d _ G (E.box 0 n2)).mono ?_;rintro v J ⟨rfl,k,o⟩;have D:=E.oc 0 n2 o k;refine⟨_,n2,?_⟩;refine(Sq n J n3 n3).mono ?_;rintro v M ⟨t,rfl,w⟩;have f:=D.comp w;refine⟨t,n2,?_⟩;have y:∀b,t.on b->b≠d.block:=λb m T=>by
  have z:=(w.fresh 0 n2).2 b m;have l:=(D.box 0 n2).lt;omega
 refine(EC t n d _ M ((w.own 0 n2).seq (λ_=>rfl) y) (f.box 0 n2) n3 n3).mono ?_;rintro v O ⟨rfl,g,u⟩;have B:=f.oc 0 n2 u g;refine⟨_,n2,?_⟩;refine(Vb d _ n _ O (B.box 0 n2) n3 (pD _ n)).I2 λr h8 H=>?_;have R:=B.call 0 n2 (λb=>b=d.block) (λq Q b m=>by rw[m];exact Q.2) H;exact⟨r,n2,r,n2,((K.comp R).take 3 λi A c=>by cases i with|zero=>exact c|succ i=>simp at c)⟩
theorem XP{α:Type}{h:hY}{e:TypeId}{s:Sl}{k:Nat}{f:α->aR}{l:List α}(a:Own h e s k f l)(c:l≠[]):s.ptr.isNone=eL:=by
 rcases a.head with⟨_,_,h3⟩|⟨b,rest,h1,_⟩
 .exact absurd h3 c
 .rw[h1];rfl
theorem XQ(p:Pm)(seed id:Int)(h:hY):an xZ 278 #[gr p,xP xX seed,xP xV id] h λv h'=>∃r:Sl,v=r/\
  Sp h h' [ai 5 r 1 ar (if bJ p&&bQ id then pF (bE p).toNat seed id else[])]/\r.ptr.isNone=!(bJ p&&bQ id):=by
 refine ts Tryz.func278 ?_ (G7 (HF [] [(6,7),(10,21)] (G7 (Hf [(29,aH)] [(9,10),(29,37)])))) (args:=[p,(xP xX (seed:Int)),(id:Int)]);refine(Sp.refl h).boxed λa I G=>?_;refine aE ?_;refine⟨p,(G.box 0 n2).aw _ n2,(fc p I).mono ?_⟩;rintro v E ⟨rfl,M⟩;have q:=G.comp M;have y:(bJ p&&bQ id)=eL->Sp h E [ai 5 ⟨dB,0,0⟩ 1 ar (if bJ p&&bQ id then pF (bE p).toNat seed id else[])]/\Option.isNone (dB:bK)=!(bJ p&&bQ id):=λL=>by
  rw[L];exact⟨(q.nil 5 1 ar).take 1 (λi A g=>by cases i with|zero=>exact g|succ i=>simp at g),n2⟩
 refine⟨_,n2,aI (λe=>⟨⟨dB,0,0⟩,n2,y A1⟩) λl=>?_⟩;refine ae (λe=>⟨⟨dB,0,0⟩,n2,y u6⟩) λV=>?_;refine ae (λe=>⟨⟨dB,0,0⟩,n2,y u6⟩) λe2=>?_;have hid:bQ id=eH:=u6
 refine⟨p,(q.box 0 n2).aw _ n2,(lW p E).mono ?_⟩;rintro v h3 ⟨rfl,O⟩;have J:=q.comp O;have P:=(bL p).1 l;have U:bE p=p.1+p.2.1:=by rw[bE,l0 l]
 obtain⟨n,D⟩:∃n:Nat,bE p=n:=⟨(bE p).toNat,n3⟩
 refine⟨_,n2,?_⟩
 try dsimp only
 rw[D];refine J.make af ar cN n4 0 n2 n2 n n n2 n2 (qk _) n3 λv H S N B=>?_;refine⟨p,(B.box 0 n2).aw _ n2,(uP p seed id H).I2 λc R t=>?_⟩;rw[l,hid,D,qj]at t;rw[l,hid,qj];have u:=B.comp t;have j:=u.seq 2 n2 λ_=>rfl;have m:=j.len;obtain⟨b,d⟩:=I3 (ey n seed id)
 have o:∀x∈b,0<=x/\x<(n:Int):=λx z=>kq n3 n3 (by rw[<-d];exact z);have F:n1 b<=n:=by rw[d];exact mz n3 n3 _ _
 simp only[Bool.and_self,if_true,<-d]at u j m t;refine⟨c,n2,?_⟩;refine ak (λi:Nat=>(i:Int)) (λi h'=>i<=n1 b/\Sp h h' [aj a 24 [xP xV p.1,xP xV p.2.1,xP xV p.2.2],ai 5 v 1 ar (gV n (b.take i)),ai 3 c 1 aq b]) (λi=>n1 b-i) 0 n2 ⟨n3,u⟩ ?_;rintro i T ⟨g,k⟩;refine ae (λe=>?_) (λe=>?_)
 .have f:i<n1 b:=n3
  have z:=o _ (qf f);refine(k.seq 2 n2 λ_=>rfl).aX i n2 f _ n2 ?_;refine k.set af 1 n2 (λ_=>rfl) n2 b[i].toNat n3 (by rw[pE];omega) 1 n2 n2 n2 λW Q=>?_;refine⟨i+1,oi,⟨n3,?_⟩,n3⟩;have e2:gV n (b.take (i+1))=(gV n (b.take i)).set b[i].toNat 1:=by rw[aC _ _ f,gV,wF];rfl
  rw[e2];exact Q
 .rw[qh n3]at k;have s:=(k.del 2).take 1 (λi A g=>by cases i with|zero=>exact g|succ i=>simp at g);refine⟨v,n2,?_,XP (s.own 0 n2) λK=>?_⟩
  .rw[d]at s;exact s
  .have:=pE n b;rw[K]at this;simp at this;omega
theorem BX(p:Pm)(h:hY):an xZ 277 #[gr p] h λv h'=>∃r:Sl,v=r/\Sp h h' [dD 41 r 1 ar (if bJ p then bz p.1.toNat p.2.1.toNat else[])]:=by
 refine ts Tryz.func277 ?_ (G7 (G7 (G7 (G7 (E8 (G7 (F8 (G0 [(4,bN),(14,aH)] [(4,8),(14,45)] (G7 (G7 (E8 (F8 (G7 (HF [(6,bN)] [(6,7),(17,24)] (Hf [(26,aH)] [(7,8),(26,40)])))) E9)))))) E9))))) [(8,(.l [0,2,3,4,5,1,6,7]))] (args:=[p]);refine(Sp.refl h).boxed λa L G=>?_;refine⟨p,(G.box 0 n2).aw _ n2,(fc p L).mono ?_⟩;rintro v R ⟨rfl,S⟩;have D:=G.comp S;refine⟨_,n2,aI (λe=>⟨⟨dB,0,0⟩,n2,?_⟩) λy=>?_⟩
 .rw[e];exact(D.sv 41 1 ar).take 1 (λi A c=>by cases i with|zero=>exact c|succ i=>simp at c)
 have ab:=(bL p).1 y;have T:bE p=p.1+p.2.1:=by rw[bE,l0 y]
 obtain⟨K,hK⟩:∃K:Nat,p.1=K:=⟨p.1.toNat,n3⟩
 obtain⟨b,P⟩:∃H:Nat,p.2.1=H:=⟨p.2.1.toNat,n3⟩
 refine(sJ R).mono ?_;rintro v h3 ⟨f,rfl,W⟩;have E:=(D.comp W).sv 41 1 ar;refine⟨cO f,n2,_,(E.box 0 n2).cell n2,?_⟩;refine ak (λt:Sl×Nat=>(t.1,(t.2:Int))) (λt h'=>t.2<=b/\Sp h h' [aj a 24 [xP xV p.1,xP xV p.2.1,xP xV p.2.2],aj f 309 eU,dD 41 t.1 1 ar ((bz K b).take t.2)]) (λt=>b-t.2) (⟨dB,0,0⟩,0) n2 ⟨n9,E⟩ ?_;rintro⟨s,k⟩ J ⟨hk,g⟩;dsimp only at*;refine ae (λe=>?_) (λe=>?_)
 .have ah:k<b:=n3
  refine aE ⟨p,(g.box 0 n2).aw _ n2,p.1,(g.box 0 n2).cell0 n2,?_⟩;refine(lW p J).mono ?_;rintro v O ⟨rfl,Q⟩;have F:=g.comp Q;refine⟨_,n2,⟨(F.box 0 n2).cell0 n2,I4⟩,?_⟩
  try dsimp only
  rw[ag (p.1+k),T];refine(UY _ _ O).mono ?_;rintro v h6 ⟨u,rfl,z⟩;rw[l0 n3]at z;have U:(p.1+p.2.1).toNat=K+b:=n3
  have e2:(p.1+(k:Int)).toNat=K+k:=n3
  rw[U,e2]at z;have q:=F.comp z;refine⟨u,n2,⟨(q.box 0 n2).cell0 n2,I4⟩,p.1,(q.box 0 n2).cell0 n2,?_⟩;let rowAt:Nat->aS:=λj=>(qz j).map (λi=>Gf.pw ((k+1)*(i+1)%255))++((qi (K+b) (0:UInt8)).set (K+k) 1).drop j;refine ak (λj:Nat=>(j:Int)) (λj h'=>j<=K/\Sp h h' [aj a 24 [xP xV p.1,xP xV p.2.1,xP xV p.2.2],aj f 309 eU,dD 41 s 1 ar ((bz K b).take k),ai 5 u 1 ar (rowAt j)]) (λj=>K-j) 0 n2 ⟨n3,q⟩ ?_;rintro j V ⟨hj,o⟩;refine ae (λM=>?_) (λM=>?_)
  .have d:j<K:=n3
   have hm:(k+1)*(j+1)<=4*16:=zu n3 n3;have e4:qe xV (qe xV ((k:Int)+1)*qe xV ((j:Int)+1))=(((k+1)*(j+1):Nat):Int):=by rw[ag ((k:Int)+1),ag ((j:Int)+1),show((k:Int)+1)*((j:Int)+1)=(((k+1)*(j+1):Nat):Int)by rw[zX];rfl];exact kp _
   rw[e4];refine(XO f _ V (o.box 1 n2)).I0 ⟨_,n2,?_⟩;have B:(rowAt j).length=K+b:=by simp[rowAt];omega
   refine o.set af 3 n2 (λ_=>rfl) n2 j n2 n3 _ n2 n2 n2 λI x=>?_;refine⟨j+1,oi,⟨n3,?_⟩,n3⟩;have w:(rowAt j).set j (Gf.pw ((((k+1)*(j+1):Nat):Int)%255).toNat)=rowAt (j+1):=by
    have X:((((k+1)*(j+1):Nat):Int)%255).toNat=(k+1)*(j+1)%255:=n3
    rw[X];simp only[rowAt];rw[za _ _ n9,qp,zQ,zh,qW n7,zx,zH,qG,qo];rfl
   rw[<-w];exact x
  .have d:j=K:=n3
   subst d;have w:rowAt j=lG j b k:=by
    simp only[rowAt,lG];congr 1;apply zq;intro i;rw[wO,qZ,qP];by_cases c:i<b
    .rw[zt c,zp,wJ];by_cases m:i=k
     .subst m;simp[c]
     .rw[m6 n3,l0 n3,m6 m]
    .rw[zj (l:=qz b) n7,m6 n3,wJ,m6 n3];rfl
   rw[w]at o;have N:=o.freeze 3 n2 λ_=>rfl;have ad:((bz j b).take k).length=k:=A8
   refine N.jE af 2 3 n4 n2 n2 cM n3 λZ I x=>?_;refine⟨(Z,k+1),n8,⟨n5,?_⟩,n5⟩;have Y:(bz j b).take (k+1)=(bz j b).take k++[lG j b k]:=by rw[aC _ _ A8];simp[bz]
   try dsimp only
   rw[Y];exact x.del 3
 .refine⟨s,n2,?_⟩;rw[l0 y,hK,P,qj,qj];rw[qh A8]at g;exact g.take 2 (λi A c=>by cases i with|zero=>exact c|succ i=>simp at c)
end Go.Qw
