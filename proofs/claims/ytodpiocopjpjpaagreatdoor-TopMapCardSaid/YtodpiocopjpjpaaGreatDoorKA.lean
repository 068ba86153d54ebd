/- Lemmas for the proof of the law; no condition. -/
import Derived.Test.YtodpiocopjpjpaaGreatDoorTabS
import Derived.Test.YtodpiocopjpjpaaGreatDoorShelfA
set_option maxHeartbeats 2000000
set_option linter.unusedVariables false
set_option linter.unusedSimpArgs false
open Go.Proofs.Tryz renaming prog -> kg
open Go.Value renaming agg -> xZ, bool -> xY, int -> xU, pointer -> xW, slice -> xV, string -> xX
open Go.IntKind renaming bits -> qz, i64 -> ka, signed -> vp, u32 -> ke, u64 -> kf, u8 -> kb, wrap -> qd
open Option renaming isSome_iff_exists -> yX, some -> wj
open Int renaming fdiv -> zr, lt_tmod_of_pos -> vP, mul_pos -> xN, tdiv -> yp, tmod -> xO
open UInt8 renaming ofNat -> zL
open List renaming exists_cons_of_length_eq_add_one -> yF, length -> vw, mem_mergeSort -> vg, mem_of_getElem? -> yz, nil_append -> wx, range -> qn, replicate -> qf
open BitVec renaming ofInt -> qG, ofNat -> wE
open Bool renaming not_true -> yw
open Prod renaming fst -> qD, snd -> zw
open Go.Instr renaming fill -> wB, storeAt -> qF
set_option maxRecDepth 100000
open Option renaming some -> dB, none -> eH
open Bool renaming true -> eS, false -> eX
open Go renaming Addr -> f7
open Go.Qw renaming cellOf -> f8, Heap -> f9
open List renaming length -> i4
open Go.Qw.cO renaming two -> u9, n -> v6, inn -> v7, loop -> ws, join -> xa, tn -> xc, lp -> x0, jn -> x6
namespace Go.Qw
open Go.Proofs
abbrev Cells:=ct
abbrev powC(w:Pow)(l:Int):aW:=[xY w.off,xY w.fuse.isSome,xU ka l,xU ka w.offs]
def Js(w:Pow)(l:Int):Prop:=∀k,w.fuse=dB k->l=k/\k<2^62
def dM(t:Nat)(a:f7)(w:Pow):HP:=HP.ex λl:Int=>(ak a t (powC w l)).and (Js w l)
variable {B:aw} {h0 h h':f9} {As:List HP} {t:Nat} {a:f7} {w:Pow}
theorem aa.Ch(H:aa B h0 h (dM t a w::As)):∃l,Js w l/\aa B h0 h (ak a t (powC w l)::As):=by obtain⟨l,H⟩:=H.sI;obtain⟨H,b⟩:=H.HE;exact⟨l,b,H⟩
theorem aa.Ig{l:Int}(b:Js w l)(H:aa B h0 h (ak a t (powC w l)::As)):aa B h0 h (dM t a w::As):=
 (H.toHE b).wn (F:=λl:Int=>(ak a t (powC w l)).and (Js w l)) l
theorem Gz(l:Int)(b:bN h a 126 (powC w l)):ai kg 69 #[xW (dB a)] h λv h'=>v=xY (!w.off)/\h'=h:=by refine ts Tryz.func69 ?_;exact aP (λ_=>⟨a,i5,w.off,b.cell0 i5,i5,i5⟩) λe=>j3
theorem Mx(l:Int)(b:bN h a 126 (powC w l)):ai kg 89 #[xW (dB a)] h λv h'=>v=xU ka w.offs/\h'=h:=by refine ts Tryz.func89 ?_;exact aP (λe=>j3) λ_=>⟨a,i5,w.offs,b.cell i5,i5,i5⟩
theorem YI(h:f9):ai kg 35 #[] h λv h'=>∃a,v=xW (dB a)/\Sp h h' [dM 126 a Pow.new]:=by refine ts Tryz.func35 ?_;refine(Sp.refl h).boxed λa c b=>⟨a,i5,aa.Ig (l:=0) (w:=Pow.new) (λk e=>j3) b⟩
theorem EY(H:aa B h0 h (dM 126 a w::As)):ai kg 192 #[xW (dB a)] h λv h'=>v=xY w.step.1/\aa B h0 h' (dM 126 a w.step.2::As):=by
 obtain⟨l,s,b⟩:=H.Ch;refine ts Tryz.func192 ?_;refine(Gz l (b.box 0 i5)).x7 ⟨_,i5,aX (λe=>?_) λe=>?_⟩
 .have:w.step=(eX,w):=by unfold Pow.step;rw[g0 l9]
  rw[this];exact⟨i5,H⟩
 have g:w.off=eX:=l9
 refine⟨a,i5,_,(b.box 0 i5).cell i5,aX (λe2=>?_) λe2=>?_⟩
 .have:w.step=(eS,w):=by
   unfold Pow.step;rw[g9 pa];cases d:w.fuse with
   |none=>rfl
   |some k=>rw[d]at e2;cases e2
  rw[this];exact⟨i5,H⟩
 obtain⟨k,d⟩:∃k,w.fuse=dB k:=yX.1 e2;obtain⟨rfl,u⟩:=s k d;have p:powC w (k:Int)=[xY eX,xY eS,xU ka k,xU ka w.offs]:=by simp[powC,g,d]
 rw[p]at b;refine⟨a,i5,_,(b.box 0 i5).cell i5,aY (λr=>?_) λr=>?_⟩
 .have i:k=0:=i6
  subst i;have m:w.step=(eX,⟨eS,dB 0,qd ka (w.offs+1)⟩):=by unfold Pow.step;rw[g9 pa,d]
  rw[m];refine⟨a,i5,b.fM ag 0 i5 i5 [xY eS] i5 i5 i5 js λt n=>?_⟩;refine⟨a,i5,w.offs,(n.box 0 i5).cell i5,a,i5,n.store ag 0 i5 i5 3 [xU ka (qd ka (w.offs+1))] i5 i5 i5 (by simp[powC]) λh3 f=>⟨i5,?_⟩⟩;refine aa.Ig (l:=((0:Nat):Int)) (λo c=>by cases c;exact⟨i5,i7⟩) ?_;exact f
 .obtain⟨j,rfl⟩:∃j,k=j+1:=⟨k-1,i6⟩
  have m:w.step=(eS,⟨eX,dB j,w.offs⟩):=by unfold Pow.step;rw[g9 pa,d]
  rw[m];refine⟨a,i5,_,(b.box 0 i5).cell i5,a,i5,b.store ag 0 i5 i5 2 [xU ka (qd ka (((j+1:Nat):Int)-1))] i5 i5 i5 (by simp[powC]) λh3 f=>⟨i5,?_⟩⟩;refine aa.Ig (l:=(j:Int)) (λo c=>by cases c;exact⟨i5,i6⟩) ?_;rw[af _]at f;have q:((j+1:Nat):Int)-1=(j:Int):=i6
  rw[q]at f;exact f
abbrev Pm:=Int×Int×Int
abbrev ir(p:Pm):Value:=xZ #[xU ka p.1,xU ka p.2.1,xU ka p.2.2]
theorem eN(p:Pm)(h:f9):ai kg 88 #[ir p] h λv h'=>v=xY (bB p)/\Sp h h' []:=by refine ts Tryz.func88 ?_ (args:=[p]);refine(Sp.refl h).boxed λa d i=>?_;have e:=i.box 0 i5;have c:Sp h d []:=.zip i.ac;have j:f8 d a=dB (xU ka p.1):=e.cell0 i5;have f:f8 d (a.add 1)=dB (xU ka p.2.1):=e.cell i5;have g:f8 d (a.add 2)=dB (xU ka p.2.2):=e.cell i5;unfold bB;refine⟨_,j,ae (λb=>?_) λb=>⟨m4,c⟩⟩;rw[hU b];refine⟨_,j,ae (λb=>?_) λb=>⟨m4,c⟩⟩;rw[hU b];refine⟨_,f,ae (λb=>?_) λb=>⟨m4,c⟩⟩;rw[hU b];refine⟨_,f,ae (λb=>?_) λb=>⟨m4,c⟩⟩;rw[hU b];refine⟨_,g,ae (λb=>?_) λb=>⟨m4,c⟩⟩;rw[hU b];exact⟨_,g,i5,c⟩
abbrev gz:bV C.toBX 22 3 1 [xU ka 0] 8:=⟨_,_,i5,i5,i5,i5,i5,i5⟩
abbrev gm:bV C.toBX 34 5 1 [xU kb 0] 1:=⟨_,_,i5,i5,i5,i5,i5,i5⟩
abbrev fh:bV C.toBX 111 34 1 [xV eH 0 0] 24:=⟨_,_,i5,i5,i5,i5,i5,i5⟩
theorem ig(s:Sl)(l:av)(h:f9)(a:Rd h s 1 az l)(f:i4 l<=2^30):ai kg 75 #[s] h λv h'=>∃r:Sl,v=r/\Sp h h' [aq 3 r 1 az l]:=by
 refine ts Tryz.func75 ?_;refine aP (λe=>?_) (λe=>?_)
 .have:=a.isNil e;subst this;exact⟨⟨eH,0,0⟩,i5,(Sp.refl h).nil 3 1 az⟩
 .refine(Sp.refl h).lit ag az gz i5 [] i5 i7 i5 λj g b=>?_;refine b.append ag 0 i5 gz ⟨_,_,i5,i5⟩ i5 i7 (λ_=>rfl) (a.up b.ac) eZ jj λd i c=>⟨d,i5,c⟩
theorem fq(s:Sl)(l:aL)(h:f9)(a:Rd h s 1 aB l)(f:i4 l<=2^30):ai kg 132 #[s] h λv h'=>∃r:Sl,v=r/\Sp h h' [aq 5 r 1 aB l]:=by
 refine ts Tryz.func132 ?_;refine aP (λe=>?_) (λe=>?_)
 .have:=a.isNil e;subst this;exact⟨⟨eH,0,0⟩,i5,(Sp.refl h).nil 5 1 aB⟩
 .refine(Sp.refl h).lit ag aB gm i5 [] i5 i7 i5 λj g b=>?_;refine b.append ag 0 i5 gm ⟨_,_,i5,i5⟩ i5 i7 (λ_=>rfl) (a.up b.ac) ib jj λd i c=>⟨d,i5,c⟩
theorem EZ{e:TypeId}(s:Sl)(l:av)(h:f9)(c:Own h e s 1 az l)(a:i4 l<2^40):ai kg 51 #[s] h λv h'=>v=.tuple #[]/\Own h' e s 1 az (gC l)/\aS (λb=>¬s.on b) h h':=
 OP Tryz.slices_Sort_int Tryz.slices_Sort_int_none c a
theorem cI(x n:Int)(h:f9)(c:0<n:=by decide)(g:n<=2^62:=by decide):ai kg 5 #[xU ka x,xU ka n] h λv h'=>v=xU ka (x%n)/\h'=h:=by
 refine ts Tryz.func5 ?_ (xc (xc (x6 [(0,aR)] [(0,1),(8,13)] v6)));have e:=vf x c;have f:-n<x.tmod n:=vP x c;have d:=HC x n c;refine⟨i6,aJ ?_⟩;refine ae (λa=>?_) (λb=>?_)
 .rw[af _];exact⟨by rw[d,g0 a],i5⟩
 .exact⟨by rw[d,g9 b],i5⟩
theorem VR{p q:aw}(a b:Sl)(c g:Row)(h:f9)(r:Seq h p a 1 aB c)(s:Seq h q b 1 aB g)(y:i4 c<=2^40):
  ai kg 11 #[a,b] h λv h'=>v=xY (decide (c=g))/\h'=h:=by
 refine ts Tryz.func11 ?_ (xc (xc (x0 [(13,aR)] [(4,6),(13,26)])));have m:=r.len;have l:=s.len;refine bH (λd=>⟨?_,i5⟩) (λj=>?_)
 .rw[ii λe=>d (by rw[m,l,e])]
 .refine an (λk:Nat=>(k:Int)) (λk h'=>h'=h/\k<=i4 c/\c.take k=g.take k) (λk=>i4 c-k) 0 i5 ⟨i5,i6,js⟩ ?_;rintro k h' ⟨rfl,x,o⟩;refine ae (λw=>?_) (λt=>?_)
  .have f:k<i4 c:=i6
   have i:k<i4 g:=i6
   refine r.bm k i5 f _ i5 ?_;refine s.bm k i5 i _ i5 ?_;refine bH (λd=>⟨?_,i5⟩) (λj=>?_)
   .rw[ii];intro e;subst e;exact d i5
   .rw[af _];have u:c[k]=g[k]:=wO.1 i6;exact⟨k+1,js,⟨i5,i6,by rw[aG _ _ f,aG _ _ i,o,u]⟩,i6⟩
  .have:k=i4 c:=i6
   subst this;rw[qh i6,qh i6]at o;exact⟨by rw[hU o],i5⟩
structure iB (d:be):Prop where
 wait:d.wait<=i4 d.l
 len:i4 d.l<=d.room
 room:d.room<=512
 cell:∀c∈d.l,i4 c=64
 laid:i4 d.laid<=d.room
 cellL:∀c∈d.laid,i4 c=64
variable {d:be} {b:aL}
theorem iB.new{n:Nat}(h:n<=512):iB (be.new n):=⟨qi _,zj _,h,by simp[be.new],zj _,by simp[be.new]⟩
theorem iB.rewrite{l:ct}(h:iB d):iB (d.rewrite w l).2.2:=by
 obtain⟨a,e,h3,b,f,g⟩:=h;unfold be.rewrite;split
 .exact⟨a,e,h3,b,f,g⟩
 .rename_i i;have i:∀c∈l,i4 c=64:=by simpa using i
  split
  .exact⟨a,e,h3,b,f,g⟩
  .split
   .exact⟨a,e,h3,b,f,g⟩
   .split
    .exact⟨a,e,h3,b,f,g⟩
    .split
     .exact⟨zj _,i9,h3,i,zj _,js⟩
     .exact⟨a,e,h3,b,i9,i⟩
abbrev gu(s:Sl)(l:Cells):HP:=fC 34 s 5 1 aB l
def iS(t:Nat)(f:be->Sl->Sl->aW)(a:f7)(d:be):HP:=
 (HP.ex λb:Sl×Sl=>(ak a t (f d b.1 b.2)).sep ((gu b.1 d.l).sep (gu b.2 d.laid))).and (iB d)
variable {f:be->Sl->Sl->aW}
theorem aa.rk(H:aa B h0 h (iS t f a d::As)):iB d/\∃s b:Sl,aa B h0 h (ak a t (f d s b)::gu s d.l::gu b d.laid::As):=by obtain⟨H,ok⟩:=H.HE;obtain⟨c,H⟩:=H.sI;exact⟨ok,c.1,c.2,H.sZ.sZ.aI 3 [2,1,0]⟩
theorem aa.Ai{s b:Sl}(ok:iB d)(H:aa B h0 h (ak a t (f d s b)::gu s d.l::gu b d.laid::As)):aa B h0 h (iS t f a d::As):=
 ((((H.aI 3 [2,1,0]).mh).mh).wn (F:=λc:Sl×Sl=>(ak a t (f d c.1 c.2)).sep ((gu c.1 d.l).sep (gu c.2 d.laid))) (s,b)).toHE ok
abbrev fQ(pw:f7)(d:be)(s b:Sl):aW:=[xW (dB pw),xU ka d.room,s,xU ka d.wait,b,xY d.has,xY d.lost]
abbrev jJ(pw a:f7)(d:be):HP:=iS 168 (fQ pw) a d
section
variable {pw:f7}
theorem Dh(n:Int)(pw:f7)(h:f9):ai kg 49 #[xU ka n,xW (dB pw)] h λv h'=>
  (1<=n/\n<=512->∃a,v=xW (dB a)/\Sp h h' [jJ pw a (be.new n.toNat)])/\(¬(1<=n/\n<=512)->v=xW eH/\Sp h h' []):=by
 refine ts Tryz.func49 ?_ (xc (x6 [] [(4,15)] v6));refine aJ (ae (λe=>⟨λc=>absurd c i6,λ_=>⟨i5,Sp.refl h⟩⟩) λi=>ae (λe=>⟨λc=>absurd c i6,λ_=>⟨i5,Sp.refl h⟩⟩) λe2=>aP (λe=>j3) λ_=>?_);refine(Sp.refl h).boxed λa g d=>⟨λ_=>⟨a,i5,?_⟩,λc=>absurd i6 c⟩
 refine aa.Ai (s:=⟨eH,0,0⟩) (b:=⟨eH,0,0⟩) (iB.new i6) ?_;have e:((n.toNat:Nat):Int)=n:=i6
 have f:=((d.ww 34 5 1 aB).ww 34 5 1 aB).aI 3 [2,1,0];have e2:fQ pw (be.new n.toNat) ⟨eH,0,0⟩ ⟨eH,0,0⟩=[xW (dB pw),xU ka n,xV eH 0 0,xU ka 0,xV eH 0 0,xY eX,xY eX]:=by simp only[fQ,be.new,e];rfl
 rw[e2];exact f
theorem Fa(s b:Sl)(c:be)(H:aa B h0 h (ak a 168 (fQ pw d s b)::gu s d.l::gu b d.laid::dM 126 pw w::As))(ok:iB d)(f:c={d with laid:=[],has:=eX}):
  ai kg 193 #[xW (dB a)] h λv h'=>v=xU ka 0/\aa B h0 h' (jJ pw a c::dM 126 pw w::As):=by
 refine ts Tryz.func193 ?_;refine⟨a,i5,H.store ag 0 i5 i5 4 [xV eH 0 0] i5 i5 i5 l4 λi g=>?_⟩;refine⟨a,i5,g.store ag 0 i5 i5 5 [xY eX] i5 i5 i5 l4 λh3 e=>⟨i5,?_⟩⟩;subst f;refine aa.Ai (s:=s) (b:=⟨eH,0,0⟩) ⟨ok.wait,ok.len,ok.room,ok.cell,zj _,js⟩ ?_;exact((e.ww 34 5 1 aB).aI 5 [1,2,0,4])
theorem GZ(x:Sl)(row:aL)(H:aa B h0 h (jJ pw a d::dM 126 pw w::As))(Q:Rd h x 1 aB row)(hr:i4 row<=2^20):
  ai kg 126 #[xW (dB a),x] h λv h'=>v=xU ka (d.append w row).1/\aa B h0 h' (jJ pw a (d.append w row).2.2::dM 126 pw (d.append w row).2.1::As):=by
 refine ts Tryz.func126 ?_ (xc (u9 (xa [] [(4,36)] (v7 (xc (xc (x6 [(9,lj)] [(9,18)] v6))))) (x6 [] [(36,47)] v6)));have T:=Q.len;obtain⟨ok,s,b,D⟩:=H.rk;have u:=D.box 0 i5;obtain⟨Z,_⟩:=aa.pM (D.aI 4 [1]);have J:=ok.room;have P:=ok.len;have M:=ok.wait;have g:∀(e:Int),d.append w row=(e,w,d)->(Value.int .i64 e=xU ka (d.append w row).1/\aa B h0 h (jJ pw a (d.append w row).2.2::dM 126 pw (d.append w row).2.1::As)):=λe Y=>by
  rw[Y];exact⟨i5,H⟩
 refine aJ (bH (λe=>g 1 (by unfold be.append;rw[g0 i6])) λU=>?_);have m:i4 row=64:=i6
 refine aJ (aP (λe=>j3) λ_=>⟨a,i5,d.lost,u.cell i5,aP (λe=>g 5 ?_) λf=>?_⟩)
 .unfold be.append;rw[g9 i6,g0 e]
 refine⟨a,i5,s,u.cell i5,a,i5,(d.room:Int),u.cell i5,ae (λe=>g 7 ?_) λG=>?_⟩
 .unfold be.append;rw[g9 i6,g9 (by simp[f]),g0 i6]
 obtain⟨l,hl,L⟩:=(D.aI 4 [3,0,1,2]).Ch;refine⟨a,i5,dB pw,u.cell0 i5,(Gz l (L.box 0 i5)).mono ?_⟩;rintro _ S ⟨rfl,rfl⟩;refine⟨_,i5,aX (λe=>g 14 ?_) λo=>?_⟩
 .unfold be.append;rw[g9 i6,g9 (by simp[f]),g9 i6,g0 l9]
 have k:w.off=eX:=by simpa using o
 refine aJ ⟨a,i5,s,u.cell i5,(fq x row S Q i6).y0 λr h4 W=>?_⟩;have F:=(D.bS W).aI 5 [2,0,1,3,4];have y:=F.box 2 i5;refine⟨r,i5,⟨y.cell i5,A0⟩,?_⟩;have V:=F;refine F.nS ag bx fh i5 [r] i5 (show 1*1<=2^20 by decide) i5 ⟨y.cell i5,A0⟩ ?_;refine F.CM ag fh i6 λE h6 K=>⟨A0,?_⟩
 have K:=K.aI 4 [1,0,2,3];refine⟨a,i5,K.store ag 0 i5 i5 2 [E] i5 i5 i5 l4 λh7 O=>⟨A0,?_⟩⟩;have I:=O.box 0 i5;refine⟨a,i5,(d.wait:Int),I.cell i5,a,i5,?_⟩;rw[af ((d.wait:Int)+1)];refine O.store ag 0 i5 i5 3 [xU ka ((d.wait:Int)+1)] i5 i5 i5 l4 λh8 X=>?_;obtain⟨i,j⟩:∃i:be,i={d with l:=d.l++[row],wait:=d.wait+1}:=⟨_,rfl⟩
 have t:iB i:=by
  subst j;refine⟨jj,jj,ok.room,λc p=>?_,ok.laid,ok.cellL⟩;rcases qt.1 p with p|p
  .exact ok.cell c p
  .rw[qw.1 p];exact m
 have z:aa B h0 h8 (ak a 168 (fQ pw i E b)::gu E i.l::gu b i.laid::dM 126 pw w::As):=by rw[j];exact X
 refine⟨a,i5,dB pw,(z.box 0 i5).cell0 i5,(EY (z.aI 4 [3,0,1,2])).x8 λh9 A=>?_⟩;have A:=A.aI 4 [1,2,3,0];have q:d.append w row=if w.step.1 then(0,w.step.2,{i with laid:=[],has:=eX})else(14,w.step.2,i):=by rw[j];unfold be.append;rw[g9 i6,g9 (by simp[f]),g9 i6,g9 (by simp[k])]
 rw[q];refine⟨_,i5,aX (λe=>?_) λe=>?_⟩
 .rw[e];exact⟨i5,A.Ai t⟩
 .rw[e];refine(Fa E b _ A t i5).x8 λR N=>⟨0,i5,i5,N⟩
theorem Lf(x:Sl)(row:aL)(h:f9)(a:Rd h x 1 aB row):ai kg 126 #[xW eH,x] h λv h'=>v=xU ka (if row.length≠64 then 1 else 5)/\h'=h:=by refine ts Tryz.func126 ?_ (xc (u9 (xa [] [(4,36)] (v7 (xc (xc (x6 [(9,lj)] [(9,18)] v6))))) (x6 [] [(36,47)] v6)));have b:=a.len;refine aJ (bH (λe=>⟨by rw[g0 i6],i5⟩) λe=>?_);exact aJ (aP (λ_=>⟨by rw[g9 i6],i5⟩) λe=>j3)
theorem YJ(H:aa B h0 h (jJ pw a d::dM 126 pw w::As)):
  ai kg 196 #[xW (dB a)] h λv h'=>v=xU ka (d.sync w).1/\aa B h0 h' (jJ pw a (d.sync w).2.2::dM 126 pw (d.sync w).2.1::As):=by
 refine ts Tryz.func196 ?_ (xc (x6 [] [(2,11)] v6));obtain⟨ok,s,b,i⟩:=H.rk;have j:=i.box 0 i5;refine aJ (aP (λe=>j3) λ_=>⟨a,i5,d.lost,j.cell i5,aP (λe=>?_) λc=>?_⟩)
 .have:d.sync w=(5,w,d):=by unfold be.sync;rw[g0 e]
  rw[this];exact⟨i5,H⟩
 refine⟨a,i5,dB pw,j.cell0 i5,(EY (i.aI 4 [3,0,1,2])).x8 λo g=>?_⟩;have g:=g.aI 4 [1,2,3,0];have f:d.sync w=if w.step.1 then(0,w.step.2,{{d with wait:=0}with laid:=[],has:=eX})else(14,w.step.2,d):=by unfold be.sync;rw[g9 p0]
 rw[f];refine⟨_,i5,aX (λe=>?_) λe=>?_⟩
 .rw[e];exact⟨i5,g.Ai ok⟩
 .rw[e];refine⟨a,i5,g.store ag 0 i5 i5 3 [xU ka 0] i5 i5 i5 l4 λh3 k=>?_⟩;refine(Fa (d:={d with wait:=0}) s b _ k ⟨zj _,ok.len,ok.room,ok.cell,ok.laid,ok.cellL⟩ rfl).x8 λm l=>⟨0,i5,i5,l⟩
theorem PB(h:f9):ai kg 196 #[xW eH] h λv h'=>v=xU ka 5/\h'=h:=by refine ts Tryz.func196 ?_ (xc (x6 [] [(2,11)] v6));exact aJ (aP (λ_=>⟨i5,i5⟩) λe=>j3)
theorem jJ.box(H:aa B h0 h (jJ pw a d::As)):∃s b:Sl,bN h a 168 (fQ pw d s b)/\fm h s 1 aB d.l/\s.len=i4 d.l:=by obtain⟨ok,s,b,c⟩:=H.rk;exact⟨s,b,c.box 0 i5,(c.aI 3 [1]).Cb λ_=>rfl,(aa.pM (c.aI 3 [1])).1⟩
theorem YK(s b:Sl)(c:bN h a 168 (fQ pw d s b)):ai kg 191 #[xW (dB a)] h λv h'=>v=xU ka d.room/\h'=h:=by refine ts Tryz.func191 ?_;exact aP (λe=>j3) λ_=>⟨a,i5,_,c.cell i5,i5,i5⟩
theorem My(s b:Sl)(f:bN h a 168 (fQ pw d s b))(c:s.len=i4 d.l):ai kg 123 #[xW (dB a)] h λv h'=>v=xU ka (i4 d.l:Int)/\h'=h:=by refine ts Tryz.func123 ?_;exact aP (λe=>j3) λ_=>⟨a,i5,_,f.cell i5,by rw[c],i5⟩
theorem Bd(s b:Sl)(c:bN h a 168 (fQ pw d s b)):ai kg 118 #[xW (dB a)] h λv h'=>v=xY d.lost/\h'=h:=by refine ts Tryz.func118 ?_;exact aP (λ_=>⟨a,i5,_,c.cell i5,i5,i5⟩) λe=>j3
theorem YL(s b:Sl)(i:Int)(j:bN h a 168 (fQ pw d s b))(m:fm h s 1 aB d.l)(q:∀c∈d.l,i4 c=64):ai kg 67 #[xW (dB a),xU ka i] h λv h'=>∃r:Sl,v=r/\Sp h h' [aq 5 r 1 aB (if 0<=i then d.l.getD i.toNat []else[])]:=by
 refine ts Tryz.func67 ?_ (xc (x6 [] [(4,20)] v6));have t:=m.len;have f:(if 0<=i then d.l.getD i.toNat []else[])=[]->∃r:Sl,Value.slice eH 0 0=xV r.ptr r.len r.cap/\Sp h h [aq 5 r 1 aB (if 0<=i then d.l.getD i.toNat []else[])]:=λe=>by
  rw[e];exact⟨⟨eH,0,0⟩,i5,(Sp.refl h).nil 5 1 aB⟩
 refine aJ (aP (λe=>j3) λ_=>ae (λe=>f (by rw[g9 i6])) λw=>⟨a,i5,s,j.cell i5,ae (λe=>f ?_) λe2=>?_⟩)
 .rw[g0 i6,qg,zd i6];rfl
 .refine⟨a,i5,s,j.cell i5,m.get i.toNat i6 i6 λr p=>?_⟩;have g:i.toNat<i4 d.l:=i6
  have:=q _ (qe g);refine(fq r _ h p i6).y0 λk u o=>?_;rw[g0 i6,getD_lt g];exact⟨k,i5,k,i5,o⟩
theorem Ih(l:Sl)(a:Cells)(h:f9)(f:fm h l 1 aB a)(x:i4 a<=2^20)(k:∀c∈a,i4 c<=2^20):ai kg 142 #[l] h λv h'=>∃r:Sl,v=r/\Sp h h' [gu r a]:=by
 refine ts Tryz.func142 ?_ (xc (xc (x0 [(3,cE),(8,aR)] [(3,4),(5,6),(8,18)])));have p:=f.len;refine an (λt:Sl×Nat=>(t.1,(t.2:Int))) (λt h'=>t.2<=i4 a/\Sp h h' [gu t.1 (a.take t.2)]) (λt=>i4 a-t.2) (⟨eH,0,0⟩,0) i5 ⟨js,by simpa using(Sp.refl h).ww 34 5 1 aB⟩ ?_;rintro⟨s,i⟩ o ⟨y,d⟩;dsimp only at*;refine ae (λe=>?_) (λe=>?_)
 .have b:i<i4 a:=i6
  refine(f.up d.ac).get i i5 b λr g=>?_;have:=k _ (qe b);refine(fq r _ o g i6).y0 λj w q=>⟨j,i5,?_⟩;refine aa.CM ag (d.comp q) fh jj λu h3 m=>?_;refine⟨(u,i+1),j0,⟨i9,?_⟩,i9⟩
  try dsimp only
  rw[aG _ _ b];exact m
 .rw[qh i6]at d;exact⟨s,i5,d⟩
theorem Ii(s b:Sl)(i:bN h a 168 (fQ pw d s b))(j:fm h s 1 aB d.l)(ok:iB d):ai kg 79 #[xW (dB a)] h λv h'=>∃r:Sl,v=r/\Sp h h' [gu r d.l]:=by
 refine rL (dB a) ?_;have:=ok.len;have:=ok.room;refine aP (λe=>j3) λ_=>⟨a,i5,s,i.cell i5,(Ih s d.l h j i6 λc g=>by rw[ok.cell c g];decide).y0 λr k f=>?_⟩;exact⟨r,i5,r,i5,f⟩
end
theorem acj(b:Sl)(l:aL)(h:f9)(q:Rd h b 1 aB l)(B:i4 l<=2^40):ai kg 199 #[b] h λv h'=>v=xU ke (mH l).toNat/\h'=h:=by
 refine ts Tryz.func199 ?_ (xc (xc (u9 (xc (v7 (ws [(3,(.sc (.int .u32))),(9,aR)] [(3,4),(5,7),(9,29)] (xc (xc (u9 (v7 (xc (xc (xc (v7 (ws [(3,(.sc (.int .u32))),(17,aR)] [(3,4),(6,7),(17,28)] v6)))))) v6)))))) v6)));have D:=q.len;refine an (λt:Nat=>(((lG (l.take t)).toNat:Int),(t:Int))) (λt h'=>t<=i4 l/\h'=h) (λt=>i4 l-t) 0 i5 ⟨i6,i5⟩ ?_;rintro i w ⟨E,rfl⟩;refine ae (λe=>?_) (λe=>?_)
 .have d:i<i4 l:=by have s:(i:Int)<(b.len:Int):=e;omega
  refine q.bm i i5 d (l[i].toNat:Int) i5 ?_;have z:qd ke (l[i].toNat:Int)=((wE 32 l[i].toNat).toNat:Int):=by rw[LX,w8]
  rw[z,Vm];refine an (λk:Nat=>(((fb k (lG (l.take i)^^^wE 32 l[i].toNat)).toNat:Int),(k:Int))) (λk h'=>k<=8/\h'=w) (λk=>8-k) 0 i5 ⟨i6,i5⟩ ?_;rintro k p ⟨A,rfl⟩;obtain⟨c,j⟩:=z6 (fb k (lG (l.take i)^^^wE 32 l[i].toNat))
  try dsimp only
  rw[<-j];refine ae (λe2=>⟨i7,?_⟩) (λe2=>?_)
  .have a:∀n:kz,n=kA c->∃f:Nat,(((n.toNat:Nat):Int),qd ka ((k:Int)+1))=(((fb f (lG (l.take i)^^^wE 32 l[i].toNat)).toNat:Int),(f:Int))/\(f<=8/\p=p)/\8-f<8-k:=λn r=>
    ⟨k+1,by rw[af _,r,j];rfl,⟨i6,i5⟩,i6⟩
   have y:qd ke ((qG (qz ke) (c.toNat:Int)&&&qG (qz ke) (1:Int)).toNat:Nat)=((c&&&1#32).toNat:Int):=aiO c 1#32;have u:qd ke ((qG (qz ke) ((c>>>1).toNat:Int)^^^qG (qz ke) (3988292384:Int)).toNat:Nat)=(((c>>>1)^^^3988292384#32).toNat:Int):=Vm (c>>>1) 3988292384#32;rw[y,afh,u];refine aY (λo=>a _ ?_) (λo=>a _ ?_)
   .unfold kA;rw[g0 ((TQ c).1 o)]
   .unfold kA;rw[g9 λx=>o ((TQ c).2 x)]
  .have m:k=8:=i6
   subst m;refine⟨i+1,?_,⟨i6,i5⟩,i6⟩;rw[af _,aG _ _ d,Vl,j];rfl
 .have g:i=i4 l:=by have s:¬(i:Int)<(b.len:Int):=e;omega
  subst g;refine⟨?_,i5⟩;rw[qL];exact congrArg (Value.int .u32) (Vm 4294967295#32 (lG l))
theorem Fb(kind:Int)(d:Sl)(l:aL)(h:f9)(B:Rd h d 1 aB l)(N:i4 l<=2^40:=by omega):ai kg 133 #[xU ka kind,d] h λv h'=>∃r:Sl,v=r/\Sp h h' [aq 5 r 1 aB (eI kind l)]:=by
 refine ts Tryz.func133 ?_ (xc (x6 [] [(4,5),(8,19)] (xc (xc (xc (xc (x0 [(32,aR)] [(7,8),(32,45)])))))));have Q:=B.len;have f:¬(1<=kind/\kind<=255/\l.length<=55)->∃r:Sl,Value.slice eH 0 0=xV r.ptr r.len r.cap/\Sp h h [aq 5 r 1 aB (eI kind l)]:=λe=>by
  unfold eI;rw[g9 e];exact⟨⟨eH,0,0⟩,i5,(Sp.refl h).nil 5 1 aB⟩
 refine aJ (ae (λe=>f i6) λP=>ae (λe=>f i6) λe2=>ae (λe=>f i6) λO=>?_);refine(Sp.refl h).make ag aB gm i7 0 i5 i5 64 64 i5 i5 (qi _) i7 λo x u t H=>?_;rw[fa];refine H.lit ag aB gm i5 [87,115,1,b8 kind] i5 (show 4*1<=2^20 by decide) i5 λv3 h3 A=>?_;refine A.Ja ag 0 i5 gm (λ_=>rfl) (A.seq 1 i5 λ_=>rfl) ib λ_ k j=>⟨⟨i7,by rw[u];decide⟩,?_⟩
 have j:Sp h k [aq 5 o 1 aB ([87,115,1,b8 kind]++qf 60 0)]:=by have:=j.bO [0];simpa using this
 refine j.OR ag 0 i5 gm (λ_=>rfl) (Seq.up B j.ac) ib 4 js i5 i5 λ_ w q=>⟨⟨i7,by rw[t];decide⟩,?_⟩
 have D:([87,115,1,b8 kind]++qf 60 0).take 4++(l.take (i4 ([87,115,1,b8 kind]++qf 60 (0:UInt8))-4)++([87,115,1,b8 kind]++qf 60 0).drop (4+i4 l))=eG kind l++qf 5 0:=by
  have I:i4 ([87,115,1,b8 kind]++qf 60 (0:UInt8))=64:=js
  rw[I,qh (l:=l) i6,<-zD];have x:([87,115,1,b8 kind]++qf 60 (0:UInt8)).drop 4=qf 60 0:=rfl;have h3:([87,115,1,b8 kind]++qf 60 (0:UInt8)).take 4=[87,115,1,b8 kind]:=rfl;rw[x,h3,List.drop_replicate];unfold eG;have k:qf (60-i4 l) (0:UInt8)=qf (55-i4 l) 0++qf 5 0:=by rw[List.replicate_append_replicate];congr 1;omega
  rw[k];simp[qm]
 rw[D]at q;have a:i4 (eG kind l)=59:=xu i6;have F:Rd w ⟨o.ptr,59,o.cap⟩ 1 aB (eG kind l):=by have:=(q.seq 0 i5 λ_=>rfl).take 59 u7;rw[wm i6,qh i6]at this;exact this
 refine(acj ⟨o.ptr,59,o.cap⟩ (eG kind l) w F i6).x7 ?_;obtain⟨c,z⟩:=z6 (mH (eG kind l))
 rw[<-z];refine⟨_,i5,?_⟩;refine an (λi:Nat=>(i:Int)) (λi h'=>i<=4/\Sp h h' [aq 5 o 1 aB (eG kind l++((mj c).take i++qf (5-i) 0))]) (λi=>4-i) 0 i5 ⟨i6,p6⟩ ?_;rintro i S ⟨R,y⟩;have b:=CQ c;refine ae (λe=>?_) (λe=>?_)
 .have L:i<4:=by have G:(i:Int)<4:=e;omega
  rw[af ((8:Int)*i),af ((59:Int)+i)];refine⟨i6,?_⟩;have K:((8:Int)*(i:Int)).toNat=8*i:=i6
  have J:min (8*i) (qz ke)=8*i:=by have:qz ke=32:=rfl;omega
  rw[K,J,fa];have E:b8 (zr (c.toNat:Int) (2^(8*i)))=(mj c)[i]'i6:=by simp[mj]
  rw[E];refine y.set ag 0 i5 (λ_=>rfl) i5 (59+i) i6 (by simp[a];omega) ((mj c)[i]'i6) i5 i5 i5 λh8 g=>?_;refine⟨i+1,j4,⟨i6,?_⟩,i6⟩;have s:(eG kind l++((mj c).take i++qf (5-i) 0)).set (59+i) ((mj c)[i]'i6)=eG kind l++((mj c).take (i+1)++qf (5-(i+1)) 0):=by
   rw[qN _ _ i6,a,wG,qN _ _ jj,aG _ _];have:5-i=(5-(i+1))+1:=i6
   rw[this,wz];simp[b,Nat.min_eq_left (show i<=4 by omega)];rw[aG _ _ (show i<i4 (mj c) by omega),qm];rfl
  rw[s]at g;exact g
 .have m:i=4:=by have G:¬(i:Int)<4:=e;omega
  subst m;refine y.set ag 0 i5 (λ_=>rfl) i5 63 i5 (by simp[a,b]) 165 i5 i5 i5 λh8 g=>⟨o,i5,?_⟩
  have p:(eG kind l++((mj c).take 4++qf (5-4) 0)).set 63 165=eI kind l:=by unfold eI;rw[g0 ⟨i6,i6,i6⟩,<-z,qh i6,qN _ _ i6,a,qN _ _ qb];simp[b]
  rw[p]at g;exact g
abbrev eE:=ByteArray×Int×Int×Sl
abbrev bw:=Int×Int×Int×Int×Int×Int×Sl×Sl
abbrev bW(x:eE):aW:=[xX x.1,xU ka x.2.1,xU ka x.2.2.1,x.2.2.2]
abbrev aV(x:bw):aW:=[xU ka x.1,xU ka x.2.1,xU ka x.2.2.1,xU ka x.2.2.2.1,xU ka x.2.2.2.2.1,xU ka x.2.2.2.2.2.1,x.2.2.2.2.2.2.1,x.2.2.2.2.2.2.2]
abbrev eO(x:bw):Value:=xZ #[xU ka x.1,xU ka x.2.1,xU ka x.2.2.1,xU ka x.2.2.2.1,xU ka x.2.2.2.2.1,xU ka x.2.2.2.2.2.1,x.2.2.2.2.2.2.1,x.2.2.2.2.2.2.2]
def kF:jm eE Qw.bU:=⟨λh q a b=>(a.1=b.name/\a.2.1=b.object/\a.2.2.1=b.length)/\Seq h q a.2.2.2 1 az b.tries,λa c=>⟨a.1,a.2.ac c⟩,λa d=>⟨a.1,a.2.mono d⟩⟩
abbrev vk:jm Sl (List Qw.bU):=bM kF 4 bW
structure uF (h:f9) (q:aw) (x:bw) (m:au):Prop where
 seq:x.1=m.seq
 next:x.2.1=m.next
 p:(x.2.2.1,x.2.2.2.1,x.2.2.2.2.1)=m.p
 extra:x.2.2.2.2.2.1=m.extra
 drives:Seq h q x.2.2.2.2.2.2.1 1 az m.drives
 aA:vk.p h q x.2.2.2.2.2.2.2 m.aA
 dcap:x.2.2.2.2.2.2.1.len<=x.2.2.2.2.2.2.1.cap
 ocap:x.2.2.2.2.2.2.2.len<=x.2.2.2.2.2.2.2.cap
abbrev cN(h:f9)(x:bw)(m:au):Prop:=uF h (λb=>b<h.size) x m
theorem uF.ac{h h':f9}{q:aw}{x:bw}{m:au}(a:uF h q x m)(b:aS q h h'):uF h' q x m:=⟨a.seq,a.next,a.p,a.extra,a.drives.ac b,vk.loc a.aA b,a.dcap,a.ocap⟩
theorem uF.mono{h:f9}{q q':aw}{x:bw}{m:au}(a:uF h q x m)(c:∀b,q b->q' b):uF h q' x m:=⟨a.seq,a.next,a.p,a.extra,a.drives.mono c,vk.mono a.aA c,a.dcap,a.ocap⟩
theorem cN.up{h h':f9}{x:bw}{m:au}(a:cN h x m)(c:aS (λb=>b<h.size) h h'):cN h' x m:=(uF.ac a c).mono λ_ d=>qT d c.1
def bJ(x:bw)(m:au):HP:=⟨λh q=>uF h q x m,λa b=>a.ac b,λa c=>a.mono c⟩
theorem Lg:∀x,∀c∈bW x,c.oneCell'=eS:=by intro x c a;simp[bW]at a;rcases a with rfl|rfl|rfl|rfl<;>rfl
theorem sa(n a b:Int)(h:f9):ai kg 137 #[xU ka n,xU ka a,xU ka b] h λv h'=>v=xY (ga n a b)/\h'=h:=by
 refine ts Tryz.func137 ?_;unfold ga;refine ae (λe=>⟨?_,i5⟩) (λe=>⟨?_,i5⟩)
 .rw[hU (show a<=n from e)];rfl
 .rw[ii (show¬a<=n from e)];rfl
theorem Mz(s:ByteArray)(h:f9)(G:s.size<=2^40):ai kg 146 #[xX s] h λv h'=>v=xY (kW s)/\Sp h h' []:=by
 refine ts Tryz.func146 ?_ (xc (x0 [(8,aR)] [(2,3),(4,5),(8,31)]));refine afi ag ⟨_,i5,i5⟩ ⟨_,i5,i5⟩ ⟨_,i5,i5⟩ s λr D o=>?_;have z:=o.rd 0 i5;have A:=z.len;have F:=HO s;refine an (λi:Nat=>(i:Int)) (λi h'=>i<=s.size/\h'=D/\∀c∈(jU s).take i,nj c=eS) (λi=>s.size-i) 0 i5 ⟨i6,i5,js⟩ ?_;rintro i q ⟨H,rfl,d⟩;refine ae (λe=>?_) (λe=>?_)
 .have j:i<i4 (jU s):=by have B:(i:Int)<(r.len:Int):=e;omega
  refine z.bm i i5 j ((jU s)[i].toNat:Int) i5 ?_;obtain⟨c,u⟩:=z6 ((jU s)[i])
  rw[<-u];have a:nj c=eS->∃p:Nat,qd ka ((i:Int)+1)=(p:Int)/\(p<=s.size/\q=q/\∀c∈(jU s).take p,nj c=eS)/\s.size-p<s.size-i:=λt=>
   ⟨i+1,j4,⟨i6,i5,λx k=>by
    rw[aG _ _ j]at k;rcases qt.1 k with k|k
    .exact d x k
    .rw[qw.1 k,<-u];exact t⟩,i6⟩
  have f:nj c=eX->Value.bool eX=xY (kW s)/\Sp h q []:=λt=>by
   refine⟨?_,o.bO []⟩;unfold kW;have:s.data.toList.all nj=eX:=yD.2 ⟨c,by rw[u];exact qe j,by rw[t];simp⟩;rw[this];rfl
  have b:nj c=eS↔((97<=(c.toNat:Int)/\(c.toNat:Int)<=122)∨(48<=(c.toNat:Int)/\(c.toNat:Int)<=57)∨(c.toNat:Int)=45):=by unfold nj;simp[or_assoc];omega
  have g:nj c=eX↔¬((97<=(c.toNat:Int)/\(c.toNat:Int)<=122)∨(48<=(c.toNat:Int)/\(c.toNat:Int)<=57)∨(c.toNat:Int)=45):=by rw[<-b];cases nj c<;>simp
  refine ae (λw=>ae (λe2=>bH (λm=>f (g.2 i6)) λm=>a (b.2 i6)) λe2=>ae (λm=>bH (λl=>f (g.2 i6)) λl=>a (b.2 i6)) λm=>a (b.2 i6)) λw=>ae (λe2=>ae (λm=>bH (λl=>f (g.2 i6)) λl=>a (b.2 i6)) λm=>ae (λl=>bH (λE=>f (g.2 i6)) λE=>a (b.2 i6)) λl=>a (b.2 i6)) λe2=>a (b.2 i6)
 .have B:¬(i:Int)<(r.len:Int):=e;rw[qh i6]at d;have y:s.data.toList.all nj=eS:=qS.2 d;refine ae (λw=>⟨?_,o.bO []⟩) (λw=>⟨?_,o.bO []⟩)
  .unfold kW;rw[y,hU (show 1<=s.size by omega)];congr 1;simp;omega
  .unfold kW;rw[y,ii (show¬1<=s.size by omega)];rfl
theorem YM(s:Sl)(l:av)(most:Int)(h:f9)(q:Rd h s 1 az l)(y:i4 l<=2^40):ai kg 138 #[s,xU ka most] h λv h'=>v=xY (sK l most)/\h'=h:=by
 refine ts Tryz.func138 ?_ (xc (x0 [(9,aR)] [(4,7),(9,32)]));have x:=q.len;refine an (λi:Nat=>(i:Int)) (λi h'=>i<=i4 l/\h'=h/\∀j,j<i->kB l most j=eS) (λi=>i4 l-i) 0 i5 ⟨i6,i5,i6⟩ ?_;rintro i f ⟨z,rfl,a⟩;refine ae (λe=>?_) (λe=>?_)
 .have c:i<i4 l:=by have u:(i:Int)<(s.len:Int):=e;omega
  refine q.bm i i5 c l[i] i5 ?_;have m:l.getD i 0=l[i]:=getD_lt c;have d:kB l most i=eX->Value.bool eX=xY (sK l most)/\f=f:=λr=>⟨by unfold sK;rw[Ey c r],i5⟩
  have b:kB l most i=eS->∃o:Nat,qd ka ((i:Int)+1)=(o:Int)/\(o<=i4 l/\f=f/\∀j,j<o->kB l most j=eS)/\l.length-o<i4 l-i:=λr=>
   ⟨i+1,j4,⟨i6,i5,λj t=>by
    by_cases p:j=i
    .rw[p];exact r
    .exact a j i6⟩,i6⟩
  refine(sa l[i] 0 most f).x7 ⟨_,i5,aX (λk=>d (by unfold kB;rw[m,k];rfl)) λk=>ae (λe2=>?_) λe2=>b (by unfold kB;rw[m,k,hU (show i=0 by omega)];rfl)⟩;rw[af ((i:Int)-1)];refine q.bm (i-1) i6 i6 (l[i-1]'i6) i5 ?_;have g:l.getD (i-1) 0=l[i-1]'i6:=getD_lt;refine ae (λw=>d ?_) (λw=>b ?_)
  .unfold kB;rw[m,g,k,ii (show¬i=0 by omega),ii i6];rfl
  .unfold kB;rw[m,g,k,hU (show l[i-1]'i6<l[i]by omega)];simp
 .have u:¬(i:Int)<(s.len:Int):=e;exact⟨by unfold sK;rw[tR λj t=>a j i6],i5⟩
theorem uG(p:Pm)(n:Int)(h:f9)(o:n<=2^40:=by omega):ai kg 92 #[ir p,xU ka n] h λv h'=>v=xU ka (countP p n)/\Sp h h' []:=by
 refine ts Tryz.func92 ?_ (xc (x6 [] [(4,12)] v6)) (args:=[p,(n:Int)]);refine(Sp.refl h).boxed λm g f=>?_;refine aJ ⟨p,(f.box 0 i5).aE _ i5,(eN p g).x8 λi l=>?_⟩;have b:=f.up l.ac;refine⟨_,i5,aX (λe=>⟨?_,b.bO []⟩) λd=>ae (λe=>⟨?_,b.bO []⟩) λe=>?_⟩
 .unfold countP;rw[e];rfl
 .unfold countP;rw[ii (show¬0<n by omega),Bool.and_false];rfl
 .have k:=(bK p).1 d;refine⟨p,(b.box 0 i5).aE _ i5,?_⟩;refine(Cf p (R:=λv h'=>v=xU ka (p.1*p.2.2)/\Sp h h' []) ?_).mono ?_
  .skip
   refine b.boxed λr h3 c=>⟨p.1,(c.box 1 i5).cell0 i5,p.2.2,(c.box 1 i5).cell i5,?_,c.bO []⟩
   have q:p.1*p.2.2<=16*24:=yh i6 i6 i6 i6;have a:0<=p.1*p.2.2:=v8 i6 i6;rw[af _]
  .rintro _ h3 ⟨rfl,j⟩;have a:0<p.1*p.2.2:=xN i6 i6;refine⟨_,i5,Int.ne_of_gt a,?_,j⟩;have g:(n-1)/(p.1*p.2.2)<=n-1:=Int.ediv_le_self _ i6;have i:0<=(n-1)/(p.1*p.2.2):=Int.ediv_nonneg i6 i6;rw[af (n-1),Int.tdiv_eq_ediv_of_nonneg i6,af ((n-1)/(p.1*p.2.2)),af _];unfold countP;rw[d,hU (show 0<n by omega)];rfl
theorem RW(s:Sl)(l:av)(h:f9)(d:Rd h s 1 az l)(k:i4 l<=2^40):ai kg 115 #[s,.func (.func 201) #[] #[]] h λv h'=>v=xY (!l.all (ga · 0 15))/\h'=h:=by
 refine ts Tryz.func115 ?_ (args:=[s,(.func (.func 201) #[] #[])]);have j:=d.len;refine(iZ s (201,#[],#[]) (R:=λv h'=>(∃i:Int,v=xU ka i/\(decide (i>=0)=!l.all (ga · 0 15)))/\h'=h) ?_).mono ?_
 .skip
  refine an (λi:Nat=>(i:Int)) (λi h'=>i<=i4 l/\(l.take i).all (ga · 0 15)=eS/\h'=h) (λi=>i4 l-i) 0 i5 ⟨i6,js,i5⟩ ?_;rintro i c ⟨f,a,rfl⟩;refine ae (λe=>?_) (λe=>?_)
  .have b:i<i4 l:=by have g:(i:Int)<(s.len:Int):=e;omega
   refine d.bm i i5 b l[i] i5 (eJ k8 ?_);refine(If l[i] (R:=λv h'=>v=xY (!ga l[i] 0 15)/\h'=c) ?_).mono ?_
   .skip
    refine(sa l[i] 0 15 c).x7 ⟨_,i5,i5,i5⟩
   .rintro _ _ ⟨rfl,rfl⟩;refine⟨_,i5,aX (λe2=>?_) λe2=>?_⟩
    .refine⟨⟨i,i5,?_⟩,i5⟩;rw[hU (show(i:Int)>=0 by omega)];have:l.all (ga · 0 15)=eX:=yD.2 ⟨_,qe b,by rw[e2];simp⟩;rw[this];rfl
    .refine⟨i+1,j4,⟨i6,?_,i5⟩,i6⟩;rw[aG _ _ b,yH,a];simp[e2]
  .have g:¬(i:Int)<(s.len:Int):=e;refine⟨⟨-1,i5,?_⟩,i5⟩;rw[qh i6]at a;rw[a];rfl
 .rintro _ c ⟨⟨i,rfl,f⟩,rfl⟩;exact⟨i,i5,by rw[f],i5⟩
structure cw (m:au):Prop where
 dr:m.drives.length<=2^30
 ob:m.aA.length<=2^30
 nm:∀e∈m.aA,e.name.size<=2^30/\e.tries.length<=2^30
theorem addr_add(a:f7)(i j:Nat):(a.add i).add j=a.add (i+j):=by unfold Addr.add;by_cases c:i=0<;>by_cases b:j=0<;>simp[c,b,wX]
theorem bN.um{h:f9}{a:f7}{e:TypeId}{b:aW}{v:Value}(d:bN h a e b)(i j:Nat)(c:b[i+j]?=dB v):f8 h ((a.add i).add j)=dB v:=by rw[addr_add];exact d.cell c
theorem bN.GA{h:f9}{a:f7}{e:TypeId}{b:aW}{u v w:Value}(c:bN h a e b)(i:Nat)(h0:b[i]?=dB u)(d:b[i+1]?=dB v)(f:b[i+2]?=dB w):bt h (a.add i) 0 [u,v,w]:=
 ⟨c.um i 0 h0,c.um i 1 d,c.um i 2 f,A0⟩
abbrev Lh:bV C.toBX 46 51 4 [xX ⟨#[]⟩,xU ka 0,xU ka 0,xV eH 0 0] 56:=⟨_,_,i5,i5,i5,i5,i5,i5⟩
theorem VS(x:bw)(m:au)(e:eE)(E:Qw.bU)(h:f9)(k:cN h x m)(K:eF kF h e E)(I:lH m=eS)(O:E.name.size<=2^30)(Q:E.tries.length<=2^30):
  ai kg 139 #[eO x,xZ #[xX e.1,xU ka e.2.1,xU ka e.2.2.1,e.2.2.2]] h λv h'=>v=xY (iv m E)/\Sp h h' []:=by
 refine ts Tryz.func139 ?_ (xc (x6 [] [(4,5),(6,33)] v6)) (args:=[x,e]);obtain⟨_,F,c,_⟩:=OT I;have G:=(bK m.p).1 c;obtain⟨⟨L,e2,u⟩,t⟩:=K;have d:x.2.2.1=m.p.1:=congrArg (·.1) k.p;have q:x.2.2.2.1=m.p.2.1:=congrArg (·.2.1) k.p;have f:x.2.2.2.2.1=m.p.2.2:=congrArg (·.2.2) k.p;have P:m.p.1*m.p.2.2<=16*24:=yh i6 i6 i6 i6;have J:0<=m.p.1*m.p.2.2:=v8 i6 i6;refine(Sp.refl h).boxed λN R B=>?_;refine B.boxed λS z s=>?_;have i:∀{h':f9} {As:List HP},Sp h h' As->iv m E=eX->Value.bool eX=xY (iv m E)/\Sp h h' []:=λ{h' As} H' g=>⟨by rw[g],.zip H'.ac⟩
 refine aJ ⟨E.name,by rw[<-L];exact(s.box 1 i5).cell0 i5,(Mz E.name z i6).x8 λh3 A=>?_⟩;have a:=s.up A.ac;refine⟨_,i5,aX (λb=>i a (by unfold iv;rw[b];rfl)) λl=>?_⟩;refine⟨E.object,by rw[<-e2];exact(a.box 1 i5).cell i5,m.next,by rw[<-k.next];exact(a.box 0 i5).cell i5,?_⟩
 try dsimp only
 rw[af (m.next-1)];refine(sa E.object 0 (m.next-1) h3).x7 ⟨_,i5,aX (λb=>i a (by unfold iv;rw[l,b];rfl)) λo=>?_⟩;have g:=a.box 0 i5;refine⟨E.length,by rw[<-u];exact(a.box 1 i5).cell i5,m.p.1,by rw[<-d];exact g.cell i5,m.p.2.2,by rw[<-f];exact g.um 2 2 i5,?_⟩
 try dsimp only
 rw[af (m.p.1*m.p.2.2),af (m.p.1*m.p.2.2*8)];refine(sa E.length 0 (m.p.1*m.p.2.2*8) _).x7 ⟨_,i5,aX (λb=>i a (by unfold iv;rw[l,o,b];rfl)) λj=>?_⟩;have w:0<=E.length/\E.length<=m.p.1*m.p.2.2*8:=by unfold ga at j;simpa using j
 refine⟨e.2.2.2,(a.box 1 i5).cell i5,?_⟩;refine(RW e.2.2.2 E.tries _ (Seq.up t a.ac) i6).x7 ⟨_,i5,aX (λb=>?_) λb=>⟨A0,i a ?_⟩⟩
 .have r:E.tries.all (ga · 0 15)=eS:=m6
  refine⟨e.2.2.2,(a.box 1 i5).cell i5,m.p,?_,E.length,by rw[<-u];exact(a.box 1 i5).cell i5,?_⟩
  .rw[<-d,<-q,<-f];exact g.GA 2 i5 i5 i5
  .refine(uG m.p E.length _).x8 λM D=>?_;have y:=a.up D.ac;refine⟨_,i5,⟨(y.box 1 i5).cell i5,A0⟩,?_,.zip y.ac⟩;unfold iv;have H:=t.len;rw[l,o,j,r,H];simp;rfl
 .have r:E.tries.all (ga · 0 15)=eX:=m6
  unfold iv;rw[l,o,j,r];rfl
theorem RX(a:f7)(e:eE)(l:Sl)(b:List Qw.bU)(h:f9)(p:bN h a 51 (bW e))(q:eF vk h l b)(F:b.length<=2^30):
  ai kg 140 #[l,.func (.func 141) #[] #[xW (dB a)]] h λv h'=>v=xY (b.any λy=>decide (y.object=e.2.1))/\Sp h h' []:=by
 refine ts Tryz.func140 ?_ (args:=[l,(.func (.func 141) #[] #[xW (dB a)])]);refine(iA l (141,#[],#[xW (dB a)]) (R:=λv h'=>(∃i:Int,v=xU ka i/\(decide (i>=0)=b.any λy=>decide (y.object=e.2.1)))/\Sp h h' []) ?_).mono ?_
 .skip
  obtain⟨o,t,D,w⟩:=bM.kI q;have z:=bM.len q;refine an (λi:Nat=>(i:Int)) (λi h'=>i<=b.length/\(b.take i).any (λy=>decide (y.object=e.2.1))=eX/\Sp h h' []) (λi=>b.length-i) 0 i5 ⟨i6,js,Sp.refl h⟩ ?_;rintro i m ⟨r,c,j⟩;refine ae (λn=>?_) (λn=>?_)
  .have d:i<b.length:=by have x:(i:Int)<(l.len:Int):=n;omega
   obtain⟨⟨_,B,_⟩,_⟩:=w i i6 d;refine(Seq.up t j.ac).dO (g:=bW) i i5 i6 (o[i]'i6) i5 (eJ k8 ?_);refine(Le (o[i]'i6) a (R:=λv h'=>v=xY (b[i].object==e.2.1)/\Sp m h' []) ?_).mono ?_
   .skip
    refine(Sp.refl m).boxed λE u f=>?_;have k:=p.ac (up j.ac f.ac) p.lt;exact⟨b[i].object,by rw[<-B];exact(f.box 0 i5).cell i5,e.2.1,k.cell i5,i5,.zip f.ac⟩
   .rintro _ u ⟨rfl,A⟩;have f:=j.up A.ac;refine⟨_,i5,aY (λe2=>?_) λe2=>?_⟩
    .refine⟨⟨i,i5,?_⟩,f⟩;rw[hU (show(i:Int)>=0 by omega)];exact(zT.2 ⟨_,qe d,oo⟩).symm
    .refine⟨i+1,j4,⟨i6,?_,f⟩,i6⟩;rw[aG _ _ d,yI,c];simpa using e2
  .have x:¬(i:Int)<(l.len:Int):=n;refine⟨⟨-1,i5,?_⟩,j⟩;rw[qh i6]at c;rw[c];rfl
 .rintro _ m ⟨⟨i,rfl,r⟩,s⟩;exact⟨i,i5,by rw[r],s⟩
theorem Ij(x:bw)(m:au)(h:f9)(c:cN h x m)(T:cw m):ai kg 78 #[eO x] h λv h'=>v=xY (bh m)/\Sp h h' []:=by
 refine ts Tryz.func78 ?_ (xc (x6 [] [(2,3),(5,27)] (x6 [] [(2,3),(27,37)] (u9 (xc (v7 (ws [(40,aR)] [(2,5),(40,72)] (xc (xc (u9 (v7 (xc (x6 [] [(2,3),(45,65)] v6))) v6)))))) v6)))) (args:=[x]);refine(Sp.refl h).boxed λV h1 G=>?_;have z:=G.box 0 i5;have Q:x.2.2.1=m.p.1:=congrArg (·.1) c.p;have M:x.2.2.2.1=m.p.2.1:=congrArg (·.2.1) c.p;have J:x.2.2.2.2.1=m.p.2.2:=congrArg (·.2.2) c.p;have u:∀{h':f9} {As:List HP},Sp h h' As->bh m=eX->Value.bool eX=xY (bh m)/\Sp h h' []:=λ{h' As} H' z=>⟨by rw[z],.zip H'.ac⟩
 refine aJ ⟨m.seq,by rw[<-c.seq];exact z.cell0 i5,(sa m.seq 1 2147483647 h1).x7 ?_⟩;refine⟨_,i5,aX (λb=>u G (by unfold bh lH;rw[b];rfl)) λI=>?_⟩;refine⟨m.next,by rw[<-c.next];exact z.cell i5,(sa m.next 0 16777216 _).x7 ?_⟩;refine⟨_,i5,aX (λb=>u G (by unfold bh lH;rw[I,b];rfl)) λL=>?_⟩;refine⟨m.p,by rw[<-Q,<-M,<-J];exact z.GA 2 i5 i5 i5,(eN m.p _).x8 λh2 R2=>?_⟩;have q:=G.up R2.ac;refine⟨_,i5,aX (λb=>u q (by unfold bh lH;rw[I,L,b];rfl)) λX=>?_⟩;refine⟨m.extra,by rw[<-c.extra];exact(q.box 0 i5).cell i5,(sa m.extra 0 16 _).x7 ?_⟩;refine⟨_,i5,aX (λb=>u q (by unfold bh lH;rw[I,L,X,b];rfl)) λb4=>?_⟩;have H:lH m=eS:=by unfold lH;rw[I,L,X,b4];rfl
 have U:=c.up q.ac;have y:=q.box 0 i5;have ad:=T.dr;have ah:=T.ob;refine aJ ⟨_,y.cell i5,(YM _ m.drives 63 _ U.drives i6).x7 ?_⟩;refine⟨_,i5,aX (λb=>u q (by unfold bh;rw[H,b];rfl)) λW=>?_⟩;have Y:=bM.len c.aA;refine⟨x.2.2.2.2.2.2.2,y.cell i5,ae (λe=>u q ?_) λab=>?_⟩
 .unfold bh;rw[H,W,ii i6];rfl
 have R:i4 m.aA<=12:=i6
 refine⟨x.2.2.2.2.2.2.2,y.cell i5,?_⟩;obtain⟨l,B⟩:=bM.fix c.aA;have al:=B.2.1;refine an (λi:Nat=>(i:Int)) (λi h'=>i<=i4 m.aA/\(∀j,j<i->pQ m j=eS)/\Sp h h' [ak V 48 (aV x)]) (λi=>i4 m.aA-i) 0 i5 ⟨i6,i6,q⟩ ?_;rintro i h3 ⟨hi,r,O⟩;refine ae (λe=>?_) (λe=>?_)
 .have f:i<i4 m.aA:=by have e':(i:Int)<(x.2.2.2.2.2.2.2.len:Int):=e;omega
  have D:=T.nm _ (qe f);have k:pP m.aA i=m.aA[i]:=oV f;have w:∀{h':f9} {As:List HP},Sp h h' As->pQ m i=eX->Value.bool eX=xY (bh m)/\Sp h h' []:=λ{h' As} H' z=>u H' (by unfold bh;rw[Ey f z];simp);have F3:=oz.up B O.ac;refine F3.1.dO (g:=bW) i i5 i6 (l[i]'i6) i5 ?_;refine O.alloc ag i5 λA h4 H4=>?_;refine H4.storeAll ag 1 i5 i5 (bW (l[i]'i6)) i5 i5 i5 i5 λh5 E=>?_;have F5:=oz.up B E.ac;obtain⟨⟨y1,y2,y3⟩,y4⟩:=Fix.row F5 f;obtain⟨b6,d⟩:∃b,b=(decide (i=0)||fO (pP m.aA (i-1)).name (pP m.aA i).name):=⟨_,rfl⟩
  refine bF (λ_ h'=>iv m m.aA[i]=eS/\b6=eS/\Sp h h' [ak V 48 (aV x),ak A 51 (bW (l[i]'i6))]) ?_ ?_
  .refine⟨x,(E.box 0 i5).aE _ i5,l[i]'i6,(E.box 1 i5).aE _ i5,?_⟩;refine(VS x m (l[i]'i6) m.aA[i] h5 (c.up E.ac) (Fix.row F5 f) H D.1 D.2).x8 λZ R6=>?_;have a:=E.up R6.ac;have F:=oz.up B a.ac;refine⟨_,i5,A0,aX (λb=>w a (by unfold pQ;rw[k,b];rfl)) λb=>ae (λe2=>?_) λe2=>⟨b,by rw[d,hU (show i=0 by omega)];rfl,a⟩⟩;rw[af ((i:Int)-1)];obtain⟨S,ha,zz,hc,rfl⟩:=F.1.dO (g:=bW) (i:=(i:Int)-1) (i-1) i6 i6 (l[i-1]'i6) rfl (K:=λt=>t=l[i-1]'i6) rfl;refine⟨x.2.2.2.2.2.2.2,(a.box 0 i5).cell i5,S,ha,m.aA[i-1].name,?_,m.aA[i].name,?_,?_⟩
   .rw[<-(Fix.row F (show i-1<i4 m.aA by omega)).1.1];exact hc.1
   .rw[<-y1];exact(a.box 1 i5).cell0 i5
   .have o:pP m.aA (i-1)=m.aA[i-1]:=oV;rw[k,o]at d;refine aX (λs=>w a ?_) (λs=>⟨b,?_,a⟩)
    .unfold pQ;rw[k,o,b,ii (show¬i=0 by omega)];unfold fO;rw[s];rfl
    .rw[d];unfold fO;rw[s];simp
  .rintro _ Z ⟨b,P,a⟩;have F:=oz.up B a.ac;refine⟨x.2.2.2.2.2.2.2,(a.box 0 i5).cell i5,⟨i6,by have:=c.ocap;omega⟩,?_⟩;rw[qj];refine(RX A (l[i]'i6) ⟨x.2.2.2.2.2.2.2.ptr,i,x.2.2.2.2.2.2.2.cap⟩ (m.aA.take i) Z (a.box 1 i5) (bM.take F.elt i i6) jj).x8 λh7 R7=>?_;have H7:=a.up R7.ac;rw[y2];refine⟨_,i5,aP (λs=>w H7 ?_) λs=>?_⟩
   .unfold pQ;rw[k,s];simp
   .refine⟨i+1,j4,⟨i6,λj hj=>?_,H7.bO [0]⟩,i6⟩;by_cases N:j=i
    .subst N;rw[P]at d;unfold pQ;rw[<-d,k,b,s];rfl
    .exact r j i6
 .have e':¬(i:Int)<(x.2.2.2.2.2.2.2.len:Int):=e;refine⟨?_,.zip O.ac⟩;unfold bh;rw[H,W,hU R,tR λj hj=>r j i6];rfl
theorem sO(s:Sl)(l:aL)(n:Int)(k:Nat)(u:k<=4)(x:i4 l<=2^20)(H:aa B h0 h (aq 5 s 1 aB l::As)):
  ai kg 187 #[s,xU ka n,xU ka k] h λv h'=>∃b:Sl,v=b/\aa B h0 h' (aq 5 b 1 aB (l++cb n k)::As):=by
 refine ts Tryz.func187 ?_ (xc (x0 [(0,cE),(7,aR)] [(0,1),(7,8),(10,22)]));have d:=cK n k;refine an (λt:Sl×Nat=>(t.1,(k:Int)-1-t.2)) (λt h'=>t.2<=k/\aa B h0 h' (aq 5 t.1 1 aB (l++(cb n k).take t.2)::As)) (λt=>k-t.2) (s,0) (by rw[af _];simp) ⟨js,m5⟩ ?_;rintro⟨o,j⟩ w ⟨r,a⟩;dsimp only at*;refine ae (λe=>?_) (λe=>?_)
 .have g:j<k:=i6
  rw[af ((8:Int)*((k:Int)-1-j))];refine⟨i6,?_⟩;have p:((8:Int)*((k:Int)-1-j)).toNat=8*(k-1-j):=i6
  have m:min (8*(k-1-j)) (qz ka)=8*(k-1-j):=by have:qz ka=64:=rfl;omega
  rw[p,m,fa];have f:b8 (zr n (2^(8*(k-1-j))))=(cb n k)[j]'i6:=by simp[cb]
  rw[f];refine a.push ag 0 i5 gm i5 i7 (λ_=>rfl) ib ((cb n k)[j]'i6) i5 i7 jj λc q i=>?_;refine⟨(c,j+1),by dsimp only;rw[af _];congr 1;omega,⟨i9,?_⟩,i9⟩
  try dsimp only
  rw[aG _ _ (show j<i4 (cb n k) by omega),<-qm];exact i
 .rw[qh i6]at a;exact⟨o,i5,a⟩
theorem Jt(b:Sl)(l:av)(o:Sl)(c:aL)(H:aa B h0 h (aq 5 o 1 aB c::As))(r:St B h0 As λh=>Rd h b 1 az l)(E:i4 c<=2^30)(F:i4 l<=2^30){K:Sl×Int->f9->Prop}
  (v:∀q h',aa B h0 h' (aq 5 q 1 aB (c++l.map b8)::As)->K (q,(i4 l:Int)) h'):
  iu (σ:=Sl×Int) (λa x h8=>
 Br (decide (a.2<((b.len:Nat):Int)))
 (∃j:f7,(b.ptr=dB j/\0<=a.2/\a.2<((b.len:Nat):Int))/\
 ∃g:Int,f8 h8 (j.add (a.2.toNat*1))=dB (xU ka g)/\
 bI kg (Instr.buildSlice 34 1 #[(0,(xU kb (qd kb g)))]) (.one (.sc .slc)) h8 λf z=>
 bI kg (Builtin.append_ #[34,34] 34 #[(xV a.1.ptr a.1.len a.1.cap),(xV f.ptr f.len f.cap)]) (.one (.sc .slc)) z λd n=>
 x ((⟨d.ptr,d.len,d.cap⟩:Sl),qd ka (a.2+(1:Int))) n)
 (K a h8)) (o,(0:Int)) h:=by
 have A:b.len=i4 l:=(r.at [_] H).len;refine an (λt:Sl×Nat=>(t.1,(t.2:Int))) (λt h'=>t.2<=i4 l/\aa B h0 h' (aq 5 t.1 1 aB (c++(l.take t.2).map b8)::As)) (λt=>i4 l-t.2) (o,0) i5 ⟨js,m5⟩ ?_;rintro⟨u,i⟩ y ⟨G,m⟩;dsimp only at*;refine ae (λe=>?_) (λe=>?_)
 .have k:i<i4 l:=i6
  refine(r.at [_] m).bm i i5 k l[i] i5 ?_;rw[fa];refine m.push ag 0 i5 gm i5 i7 (λ_=>rfl) ib (b8 l[i]) i5 i7 jj λs D w=>?_;refine⟨(s,i+1),j0,⟨i9,?_⟩,i9⟩
  try dsimp only
  rw[aG _ _ k,qP,<-qm];exact w
 .have p:i=i4 l:=i6
  subst p;rw[qL]at m;exact v u y m
theorem afA{m:au}(a:bh m=eS){i:Nat}(b:i<i4 m.aA):iv m m.aA[i]=eS:=by
 unfold bh at a;simp only[qx]at a;have:=qS.1 a.2.2.2 i (qK.2 b);unfold pQ at this;simp only[qx]at this;have c:=this.1
 rwa [oV b]at c
theorem YN{m:au}(d:bh m=eS){i:Nat}(h:i<m.aA.length):m.aA[i].name.size<=12/\m.aA[i].tries.length<=3073:=by
 have b:=afA d h;unfold iv kW at b;simp only[qx,decide_eq_true_eq]at b;obtain⟨⟨_,_,e⟩,_,h3,_,c⟩:=b;refine⟨e,?_⟩;obtain⟨_,_,a,_⟩:=OT (XU d);have f:=(bK m.p).1 a;unfold ga at h3;simp only[qx,decide_eq_true_eq]at h3;have j:m.p.1*m.p.2.2<=16*24:=yh i6 i6 i6 i6;unfold countP at c;split at c
 .have:(m.aA[i].length-1)/(m.p.1*m.p.2.2)<=m.aA[i].length-1:=Int.ediv_le_self _ (by rename_i g;simp at g;omega);omega
 .omega
theorem YO{m:au}(a:bh m=eS){i:Nat}(b:i<i4 m.aA):i4 (jB m.aA[i])<=4000:=by have:=YN a b;unfold jB;simp[cK];have:m.aA[i].name.data.size=m.aA[i].name.size:=rfl;omega
theorem Fc{m:au}(a:bh m=eS):∀n,n<=i4 m.aA->i4 ((m.aA.take n).flatMap jB)<=n*4000
 |0,_=>js
 |n+1,hn=>by
  rw[aG _ _ (show n<i4 m.aA by omega),zb,qu];have b:=Fc a n i6;have c:=YO a (show n<i4 m.aA by omega);have h3:i4 ([m.aA[n]].flatMap jB)=i4 (jB m.aA[n]):=by rw[zg,wg,qI]
  omega
theorem Ik{m:au}(a:bh m=eS):i4 m.aA<=12:=by unfold bh at a;simp only[qx,decide_eq_true_eq]at a;exact a.2.2.1
theorem Il(m:au)(j:cw m):i4 (gE m)<=100000:=by
 unfold gE;split
 .rename_i e;have c:=e;unfold bh at c;simp only[qx,decide_eq_true_eq]at c;have k:i4 m.drives<=64:=by
   have a:=c.2.1;unfold sK at a;rw[qS]at a;by_cases g:i4 m.drives<=64
   .exact g
   .exfalso;have b:∀i,i<i4 m.drives->(i:Int)<=m.drives.getD i 0:=λi=>by
     induction i with
     |zero=>
      intro f;have:=a 0 (qK.2 f);unfold kB ga at this;simp at this;simpa using this.1
     |succ i ih=>
      intro f;have:=a (i+1) (qK.2 f);have h3:=ih i6;unfold kB ga at this;simp at this;have d:=this.2;simp only[qg]at h3⊢;omega
    have h3:=b 64 i6;have d:=a 64 (qK.2 i6);unfold kB ga at d;simp at d;simp only[qg]at h3;omega
  have h:i4 (m.aA.flatMap jB)<=12*4000:=by have a:=Fc e m.aA.length (qi _);rw[qL]at a;have:=zi 4000 (Ik e);omega
  simp only[qu,q8,yk,qp,cK];omega
 .simp
theorem YP(x:bw)(m:au)(h:f9)(d:cN h x m)(hz:cw m):ai kg 113 #[eO x] h λv h'=>∃r:Sl,v=r/\Sp h h' [aq 5 r 1 aB (gE m)]:=by
 refine ts Tryz.func113 ?_ (xc (xc (x6 [(3,cE)] [(3,4),(13,19)] (xc (u9 (xc (v7 (ws [(3,cE),(44,aR)] [(3,4),(5,6),(44,54)] v6))) (xc (u9 (xc (v7 (ws [(3,cE),(64,aR)] [(3,4),(7,8),(9,10),(64,99)] (xc (xc (u9 (v7 (xc (x6 [(3,cE)] [(3,4),(68,78)] (x6 [(3,cE)] [(3,4),(78,85)] (xc (v7 (ws [(3,cE),(88,aR)] [(3,4),(9,10),(88,98)] v6))))))) v6)))))) v6))))))) [(3,(.l [0,1,3,4,2,5,6])),(14,(.l [0,1,2,3,4,7,8,5,6,9,10])),(15,(.l [0,1,2,4,5,3,6,7]))] (args:=[x]);refine(Sp.refl h).boxed λa1 h1 Y=>?_;refine⟨x,(Y.box 0 i5).aE _ i5,(Ij x m h1 (d.up Y.ac) hz).x8 λh2 R2=>?_⟩;have H2:=Y.up R2.ac;refine⟨_,i5,aX (λe=>?_) λA=>?_⟩
 .unfold gE;rw[e];exact⟨⟨eH,0,0⟩,i5,((H2.nil 5 1 aB).bO [1])⟩
 have ah:x.2.2.1=m.p.1:=congrArg (·.1) d.p;have V:x.2.2.2.1=m.p.2.1:=congrArg (·.2.1) d.p;have U:x.2.2.2.2.1=m.p.2.2:=congrArg (·.2.2) d.p;have L:=H2.box 0 i5;have b:=Il m hz;unfold gE at b;rw[A,g0 rfl]at b;have hM:∀{h':f9} {As:List HP},Sp h h' As->cN h' x m:=λ{h' As} J=>d.up J.ac;refine aJ ⟨m.seq,by rw[<-d.seq];exact L.cell0 i5,m.next,by rw[<-d.next];exact L.cell i5,?_⟩;have H3:=(H2.nil 5 1 aB).aZ;refine(sO ⟨eH,0,0⟩ [] m.seq 4 i7 js H3).y0 λs4 h4 H4=>⟨s4,i5,⟨by rw[<-d.next];exact(H4.box 1 i5).cell i5,A0⟩,?_⟩;refine(sO s4 _ m.next 4 i7 pb H4).y0 λs5 h5 H5=>⟨s5,i5,A0,?_⟩;have k:=H5.box 1 i5;refine⟨m.p.1,by rw[<-ah];exact k.cell i5,m.p.2.1,by rw[<-V];exact k.um 2 1 i5,m.p.2.2,by rw[<-U];exact k.um 2 2 i5,m.extra,by rw[<-d.extra];exact k.cell i5,x.2.2.2.2.2.2.1,k.cell i5,?_⟩;have W:=d.drives.len;have X:=bM.len d.aA
 try dsimp only
 rw[fa,fa,fa,fa,fa,W];refine H5.lit ag aB gm i5 [b8 m.p.1,b8 m.p.2.1,b8 m.p.2.2,b8 m.extra,b8 (m.drives.length:Nat)] i5 (show 5*1<=2^20 by decide) i5 λa5 h6 H6=>?_;refine H6.append ag 0 i5 gm ⟨_,_,i5,i5⟩ i5 i7 (λ_=>rfl) (H6.seq 2 i5 λ_=>rfl) ib pb λs7 h7 S=>?_;have S:=S.bO [0,1];refine⟨x.2.2.2.2.2.2.1,(S.box 1 i5).cell i5,?_⟩;have ay:(([]++cb m.seq 4)++cb m.next 4++[b8 m.p.1,b8 m.p.2.1,b8 m.p.2.2,b8 m.extra,b8 (m.drives.length:Nat)]).length=13:=pb
 have a4:=hz.dr;refine Jt x.2.2.2.2.2.2.1 m.drives s7 _ S (St.mk' λh' J=>(hM J).drives) i6 i6 λs8 h8 H8=>?_
 try dsimp only
 refine⟨x.2.2.2.2.2.2.2,(H8.box 1 i5).cell i5,?_⟩
 try dsimp only
 rw[fa,X];obtain⟨a,c⟩:=z6 (([]++cb m.seq 4)++cb m.next 4++[b8 m.p.1,b8 m.p.2.1,b8 m.p.2.2,b8 m.extra,b8 (m.drives.length:Nat)]++m.drives.map b8)
 rw[<-c]at H8;have ar:a.length=13+m.drives.length:=by rw[c];simp[cK];omega
 simp only[qu,q8,yk,qp,cK]at b;refine H8.push ag 0 i5 gm i5 i7 (λ_=>rfl) ib (b8 (m.aA.length:Nat)) i5 i7 i6 λs9 h9 R=>?_;have R:Sp h h9 [aq 5 s9 1 aB (a++[b8 (m.aA.length:Nat)]),ak a1 48 (aV x)]:=R;refine⟨x.2.2.2.2.2.2.2,(R.box 1 i5).cell i5,?_⟩;obtain⟨Q,P⟩:=bM.fix d.aA;have a7:=P.2.1;refine an (λt:Sl×Nat=>(t.1,(t.2:Int))) (λt h'=>t.2<=m.aA.length/\Sp h h' [aq 5 t.1 1 aB (a++[b8 (m.aA.length:Nat)]++(m.aA.take t.2).flatMap jB),ak a1 48 (aV x)]) (λt=>m.aA.length-t.2) (s9,0) i5 ⟨js,by simpa using R⟩ ?_;rintro⟨o,i⟩ a9 ⟨hi,j⟩;dsimp only at*;refine ae (λe=>?_) (λe=>?_)
 .have s:i<m.aA.length:=i6
  have ad:=oz.up P j.ac;have al:=YN A s;have u:((m.aA.take i).flatMap jB).length<=50000:=by have h1:=Fc A i hi;have:=Ik A;have:i*4000<=12*4000:=zi _ i6;omega
  refine ad.1.dO (g:=bW) i i5 i6 (Q[i]'i6) i5 ?_;refine j.alloc ag i5 λa6 bl ao=>?_;refine ao.storeAll ag 2 i5 i5 (bW (Q[i]'i6)) i5 i5 i5 i5 λam f=>?_;have ax:=oz.up P f.ac;obtain⟨⟨y,y2,y3⟩,y4⟩:=Fix.row ax s;obtain⟨E,hE⟩:=z6 (m.aA[i])
  rw[<-hE]at y y2 y3 y4 al;have w:=f.box 2 i5;refine aJ ⟨E.name,n9,E.name,n9,?_⟩;rw[fa];refine f.nS ag aB gm i5 [b8 (E.name.size:Nat)] i5 (show 1*1<=2^20 by decide) i5 ⟨n9,n9,A0⟩ ?_;have F:(a++[b8 (m.aA.length:Nat)]++(m.aA.take i).flatMap jB).length<=160000:=by rw[qu,qu,ar];simp;simp at u;omega
  obtain⟨q,O⟩:=z6 (a++[b8 (m.aA.length:Nat)]++(m.aA.take i).flatMap jB)
  rw[<-O]at f F;refine f.push ag 0 i5 gm i5 i7 (λ_=>rfl) ib (b8 (E.name.size:Nat)) i5 i7 i6 λbk a2 G=>?_;have D:=G.box 2 i5;refine⟨⟨by rw[<-y];exact D.cell0 i5,by rw[<-y];exact D.cell0 i5,A0⟩,?_⟩;refine G.XT ag 0 i5 gm ⟨_,i5,i5⟩ i5 i7 E.name jj λZ a3 I=>?_;have z:=I.box 2 i5;refine⟨⟨by rw[<-y];exact z.cell0 i5,A0⟩,?_⟩;refine aJ ⟨E.object,by rw[<-y2];exact z.cell i5,E.length,by rw[<-y3];exact z.cell i5,?_⟩;have bd:=HO E.name;refine(sO Z _ E.object 3 i7 jj I).y0 λK bb B=>?_;have ab:=B.box 2 i5;refine⟨K,i5,⟨by rw[<-y3];exact ab.cell i5,A0⟩,?_⟩;refine(sO K _ E.length 2 i7 m9 B).y0 λN a0 H=>?_;have T:=H.box 2 i5;refine⟨N,i5,A0,(Q[i]'i6).2.2.2,T.cell i5,?_⟩;refine Jt (Q[i]'i6).2.2.2 E.tries N _ H (St.mk' λh' J=>by rw[hE];exact(Fix.row (oz.up P J.ac) s).2) m9 i6 λap a8 M=>?_
  try dsimp only
  have am:=Ik A;refine⟨(ap,i+1),j0,⟨i9,?_⟩,i9⟩
  try dsimp only
  rw[aG _ _ s,zb,<-qm,<-O,zg,wg,qI,<-hE];have e3:q++[b8 (E.name.size:Nat)]++jU E.name++cb E.object 3++cb E.length 2++E.tries.map b8=q++jB E:=by unfold jB jU;simp[qm]
  rw[e3]at M;exact M.bO [0,1]
 .rw[qh i6]at j;refine⟨o,i5,?_⟩;have e2:a++[b8 (m.aA.length:Nat)]++m.aA.flatMap jB=gE m:=by rw[c];unfold gE;rw[A,g0 rfl];simp[qm]
  rw[e2]at j;exact j.bO [0]
def jE{α:Type}(k:Nat)(f:α->aW)(L:List (Sl×List α)):HP:=⟨λh q=>∀y∈L,Seq h q y.1 k f y.2,λa c y b=>(a y b).ac c,λa d y b=>(a y b).mono d⟩
variable {α:Type} {k:Nat} {L:List (Sl×List α)} {s:Sl} {l:List α}
section
variable {f:α->aW}
theorem aa.Uf(H:aa B h0 h As)(k:Nat)(f:α->aW):aa B h0 h (jE k f []::As):=
 (H.comp (.one (A:=jE k f []) (aS.refl _ _) λy a=>u5)).aZ
theorem aa.Ug(H:aa B h0 h (jE k f L::tO s k f l::As)):aa B h0 h (jE k f ((s,l)::L)::As):=by
 have g:=H.mh;refine g.fN 0 i5 λq ⟨j,i,_,b,c,d,e⟩ y a=>?_;rcases qX.1 a with rfl|a
 .exact d.mono b
 .exact(e y a).mono c
end
theorem ahJ(n:Int):cb n 4=[b8 (zr n (2^24)),b8 (zr n (2^16)),b8 (zr n (2^8)),b8 n]:=by
 have e:zr n (2^0)=n:=js
 show[b8 (zr n (2^24)),b8 (zr n (2^16)),b8 (zr n (2^8)),b8 (zr n (2^0))]=_;rw[e]
theorem YQ(seq a c:Int)(b:Sl)(l:aL)(h:f9)(p:Rd h b 1 aB l)(x:i4 l<=2^20):ai kg 114 #[xU ka seq,xU ka a,xU ka c,b] h λv h'=>∃r:Sl,v=r/\Sp h h' [aq 5 r 1 aB (kQ seq a c l)]:=by
 refine ts Tryz.func114 ?_;refine⟨i7,i7,i7,?_⟩;have i:min (24:Int).toNat (qz ka)=24:=rfl;have j:min (16:Int).toNat (qz ka)=16:=rfl;have t:min (8:Int).toNat (qz ka)=8:=rfl;rw[i,j,t,fa,fa,fa,fa,fa,fa,fa];have d:=ahJ seq;generalize b8 (zr seq (2^24))=c1 at d⊢;generalize b8 (zr seq (2^16))=c2 at d⊢;generalize b8 (zr seq (2^8))=c3 at d⊢;generalize b8 seq=c4 at d⊢;have e:kQ seq a c l=eI 2 ([c1,c2,c3,c4]++([b8 a,b8 c,b8 (b.len:Nat)]++l)):=by unfold kQ;rw[d,p.len]
 generalize b8 a=c5 at e⊢;generalize b8 c=c6 at e⊢;generalize b8 (b.len:Nat)=c7 at e⊢;refine(Sp.refl h).lit ag aB gm i5 [c1,c2,c3,c4,c5,c6,c7] i5 (show 7*1<=2^20 by decide) j6 λu w m=>?_;refine m.append ag 0 i5 gm ⟨_,_,i5,i5⟩ i5 i7 (λ_=>rfl) (Seq.up p m.ac) ib jj λn k o=>?_;have q:Rd k n 1 aB ([c1,c2,c3,c4,c5,c6,c7]++l):=o.seq 0 i5 λ_=>rfl;have f:i4 ([c1,c2,c3,c4,c5,c6,c7]++l)<=2^40:=jj
 rw[e];have g:[c1,c2,c3,c4,c5,c6,c7]++l=[c1,c2,c3,c4]++([c5,c6,c7]++l):=rfl;rw[<-g];generalize [c1,c2,c3,c4,c5,c6,c7]++l=ll at q f⊢;refine(Fb 2 n ll k q f).y0 λr h3 s=>⟨r,i5,r,i5,(aa.comp (Sp.zip o.ac) s)⟩
theorem lm(x:bw)(m:au)(h:f9)(D:cN h x m)(A:cw m):ai kg 57 #[eO x] h λv h'=>∃r:Sl,v=r/\Sp h h' [gu r (ba m)]:=by
 refine ts Tryz.func57 ?_ (xc (xc (xc (xc (x0 [(5,cE),(16,aR)] [(5,8),(16,39)]))))) (args:=[x]);refine(Sp.refl h).boxed λJ L k=>?_;refine⟨x,(k.box 0 i5).aE _ i5,(YP x m L (D.up k.ac) A).y0 λb S N=>?_⟩;have j:=k.comp N;have q:=Il m A;obtain⟨l,w⟩:=z6 (gE m)
 rw[<-w]at j q;have H:=(j.own 1 i5).len;have p:=(j.own 1 i5).cap;refine⟨b,i5,i7,?_⟩;have f:qd ka (yp (qd ka ((qd ka (((b.len:Nat):Int)+(48:Int)))-(1:Int))) (48:Int))=(iT l:Int):=by rw[af ((b.len:Int)+48),af ((b.len:Int)+48-1),Int.tdiv_eq_ediv_of_nonneg i6];unfold iT;rw[af (((b.len:Int)+48-1)/48)];omega
 have O:iT l<=3000:=by unfold iT;omega
 rw[f];obtain⟨g,c⟩:∃g:ct,g=ba m:=⟨_,rfl⟩
 have B:i4 g=iT l:=by rw[c,w];simp[ba]
 have d:=j.ww 34 5 1 aB;refine an (λt:Sl×Nat=>(t.1,(t.2:Int))) (λt h'=>t.2<=iT l/\Sp h h' [gu t.1 (g.take t.2),ak J 48 (aV x),aq 5 b 1 aB l]) (λt=>iT l-t.2) (⟨eH,0,0⟩,0) i5 ⟨js,d⟩ ?_;rintro⟨o,i⟩ h3 ⟨U,d⟩;dsimp only at*;refine ae (λe=>?_) (λe=>?_)
 .have u:i<iT l:=i6
  have z:48*i<i4 l:=by unfold iT at u;omega
  rw[af ((i:Int)*48),af ((i:Int)+1),af (((i:Int)+1)*48)];obtain⟨a,G⟩:∃a:Nat,a=min (48*i+48) l.length:=⟨_,rfl⟩
  have s:(if((i:Int)+1)*48<((b.len:Nat):Int)then((i:Int)+1)*48 else((b.len:Nat):Int))=(a:Int):=by split<;>omega
  rw[s];refine⟨m.seq,by rw[<-D.seq];exact(d.box 1 i5).cell0 i5,⟨i6,i6,i6⟩,?_⟩;have P:((i:Int)*48).toNat=48*i:=i6
  rw[P,qj];have y:=((d.seq 2 i5 λ_=>rfl).drop (48*i) p).take (a-48*i) mn;have e2:(l.drop (48*i)).take (a-48*i)=(l.drop (48*i)).take 48:=by
   by_cases T:48*i+48<=i4 l
   .rw[show a-48*i=48 by omega]
   .rw[qh mn,qh mn]
  rw[e2,zG]at y;refine(YQ m.seq i (iT l) ⟨_,a-48*i,b.cap-48*i⟩ _ h3 (by rw[zG];exact y) jj).y0 λr R K=>?_;have E:=(d.bS K).aI 4 [1,0,2,3];refine⟨r,i5,A0,?_⟩;refine E.nS ag bx fh i5 [r] i5 (show 1*1<=2^20 by decide) i5 A0 ?_;refine E.CM ag fh jj λF Q I=>⟨A0,?_⟩
  refine⟨(F,i+1),i5,⟨i9,?_⟩,i9⟩
  try dsimp only
  rw[aG _ _ (show i<i4 g by omega)];have M:g[i]'i6=kQ m.seq i (iT l) ((l.drop (48*i)).take 48):=by subst c;subst w;simp[ba]
  rw[M];exact I
 .rw[qh i6,c]at d;exact⟨o,i5,d.bO [0]⟩
theorem RY(s:Sl)(a:List eE)(h:f9)(b:Rd h s 4 bW a)(g:i4 a<=2^30):ai kg 76 #[s] h λv h'=>∃r:Sl,v=r/\Sp h h' [aq 51 r 4 bW a]:=by
 refine ts Tryz.func76 ?_;refine aP (λe=>?_) (λe=>?_)
 .have:=b.isNil e;subst this;exact⟨⟨eH,0,0⟩,i5,(Sp.refl h).nil 51 4 bW⟩
 .refine(Sp.refl h).lit ag bW Lh i5 ([]:List eE) i5 i7 i5 λk i c=>?_;refine c.append ag 0 i5 Lh ⟨_,_,i5,i5⟩ i5 i7 (λ_=>rfl) (Seq.up b c.ac) Lg jj λd j f=>?_;exact⟨d,i5,f⟩
def Di(pool:List (Sl×av))(p:eE×Qw.bU):Prop:=(p.1.1=p.2.name/\p.1.2.1=p.2.object/\p.1.2.2.1=p.2.length)/\(p.1.2.2.2,p.2.tries)∈pool
theorem aa.Aj{B:aw}{h0 h:f9}{As:List HP}{y:bw}{m:au}{L:List (eE×Qw.bU)}{pool:List (Sl×av)}(f:y.1=m.seq/\y.2.1=m.next/\(y.2.2.1,y.2.2.2.1,y.2.2.2.2.1)=m.p/\y.2.2.2.2.2.1=m.extra)(l:L.map zw=m.aA)(s:∀p∈L,Di pool p)
  (H:aa B h0 h (jE 1 az pool::aq 3 y.2.2.2.2.2.2.1 1 az m.drives::aq 51 y.2.2.2.2.2.2.2 4 bW (L.map qD)::As)):aa B h0 h (bJ y m::As):=by
 have g:=(H.own 2 i5)
 have i:=(H.own 1 i5)
 have o:=((H.freeze 1 i5 λ_=>rfl).freeze 2 i5 λ_=>rfl).mh.mh;refine o.fN 0 i5 λq ⟨A,F,_,b,c,t,u⟩=>?_;obtain⟨D,E,_,v,c',z3,z4⟩:=u;refine⟨f.1,f.2.1,f.2.2.1,f.2.2.2,z3.mono λx k=>c x (v x k),⟨L.map qD,t.mono b,by rw[<-l];simp,λj r e a d=>?_⟩,i.cap,g.cap⟩;rw[<-l]at d;rw[qR]at a d;cases hj:L[j]? with
 |none=>rw[hj]at a;cases a
 |some p=>
  rw[hj]at a d;have z:=wj.inj (show dB p.1=dB r from a);have e2:=wj.inj (show dB p.2=dB e from d);subst z;subst e2;obtain⟨w,n⟩:=s p (yz hj);exact⟨w,(z4 _ n).mono λx k=>c x (c' x k)⟩
theorem oc(x:bw)(m:au)(h:f9)(A:cN h x m)(R:cw m):ai kg 26 #[eO x] h λv h'=>∃(y:bw) (L:List (eE×Qw.bU)) (pool:List (Sl×av)),v=eO y/\(y.1=m.seq/\y.2.1=m.next/\(y.2.2.1,y.2.2.2.1,y.2.2.2.2.1)=m.p/\y.2.2.2.2.2.1=m.extra)/\L.map zw=m.aA/\(∀p∈L,Di pool p)/\
  Sp h h' [jE 1 az pool,aq 3 y.2.2.2.2.2.2.1 1 az m.drives,aq 51 y.2.2.2.2.2.2.2 4 bW (L.map qD)]:=by
 refine ts Tryz.func26 ?_ (xc (x6 [] [(4,12)] (x0 [(15,aR)] [(3,4),(15,31)]))) [(1,(.l [0,1,3,4,2,6,5,7,8,9]))] (args:=[x]);refine(Sp.refl h).boxed λT k H1=>?_;refine H1.alloc ag i5 λU s N=>?_;have G:=N.box 0 i5;have hM:∀{h':f9} {As:List HP},Sp h h' As->cN h' x m:=λ{h' As} H'=>A.up H'.ac;obtain⟨b,H⟩:=bM.fix A.aA;have ah:=H.2.1;have X:=R.dr;have al:=R.ob;refine aJ ⟨x.2.2.2.2.2.2.1,G.cell i5,x.2.2.2.2.2.2.2,G.cell i5,?_⟩;refine(ig _ m.drives s (hM N).drives i6).y0 λd h3 R3=>?_;have J:=N.comp R3;refine⟨d,i5,⟨(J.box 0 i5).cell i5,A0⟩,?_⟩;refine(RY _ b h3 (oz.up H J.ac).1 i6).y0 λo h4 R4=>?_;have H4:=J.comp R4;refine⟨o,i5,A0,?_⟩;refine H4.store ag 0 i5 i5 6 [d] i5 i5 i5 k7 λh5 H5=>⟨A0,?_⟩
 refine H5.store ag 0 i5 i5 7 [o] i5 i5 i5 k7 λh6 w=>⟨A0,?_⟩
 obtain⟨y,u⟩:∃y:bw,y=(x.1,x.2.1,x.2.2.1,x.2.2.2.1,x.2.2.2.2.1,x.2.2.2.2.2.1,d,o):=⟨_,rfl⟩
 have w:Sp h h6 [ak T 48 (aV y),ak U 48 [xU ka 0,xU ka 0,xU ka 0,xU ka 0,xU ka 0,xU ka 0,xV eH 0 0,xV eH 0 0],aq 3 d 1 az m.drives,aq 51 o 4 bW b]:=by rw[u];exact w
 have c:y.2.2.2.2.2.2.2=o:=by rw[u]
 have O:y.2.2.2.2.2.2.1=d:=by rw[u]
 refine⟨o,by rw[<-c];exact(w.box 0 i5).cell i5,?_⟩;have ab:=(w.own 3 i5).len;have w:=w.Uf 1 az;refine an (λt:List eE×List (Sl×av)=>(t.1.length:Int)) (λt h'=>t.1.length<=m.aA.length/\(∀(j:Nat) r e,t.1[j]?=dB r->m.aA[j]?=dB e->(r.1=e.name/\r.2.1=e.object/\r.2.2.1=e.length)/\(r.2.2.2,e.tries)∈t.2)/\Sp h h' [jE 1 az t.2,ak T 48 (aV y),ak U 48 [xU ka 0,xU ka 0,xU ka 0,xU ka 0,xU ka 0,xU ka 0,xV eH 0 0,xV eH 0 0],aq 3 d 1 az m.drives,aq 51 o 4 bW (t.1++b.drop t.1.length)]) (λt=>m.aA.length-t.1.length) ([],[]) i5 ⟨js,λj r e k=>by simp at k,w⟩ ?_;rintro⟨a,pool⟩ V ⟨hi,F,q⟩;dsimp only at*;refine ae (λe=>?_) (λe=>?_)
 .have z:a.length<m.aA.length:=i6
  have F7:=oz.up H q.ac;obtain⟨⟨Y,y2,y3⟩,y4⟩:=Fix.row F7 z;have f:(a++b.drop a.length)[a.length]'(by simp;omega)=b[a.length]'i6:=js
  obtain⟨M,ha,zz,hc,rfl⟩:=(q.seq 4 rfl λ_=>rfl).dO (g:=bW) (i:=(a.length:Int)) a.length rfl jj (b[a.length]'i6) (by rw[f]) (K:=λt=>t=b[a.length]'i6) i5;refine⟨o,by rw[<-c];exact(q.box 1 i5).cell i5,o,by rw[<-c];exact(q.box 1 i5).cell i5,M,ha,_,hc.2.2.2.1,?_⟩;have ad:=(R.nm _ (qe z)).2;refine(ig _ m.aA[a.length].tries V y4 i6).y0 λt h8 R8=>?_;have B:=q.bS R8;refine⟨t,i5,⟨by rw[<-c];exact(B.box 2 i5).cell i5,by rw[<-c];exact(B.box 2 i5).cell i5,A0⟩,?_⟩;refine B.abA ag 5 i5 (λ_=>rfl) i5 a.length i5 jj 3 [t] js ((b[a.length]'i6).1,(b[a.length]'i6).2.1,(b[a.length]'i6).2.2.1,t) i5 i5 i5 (by rw[f];simp[bW]) λh9 E=>⟨A0,?_⟩
  have E:=(E.freeze 0 i5 λ_=>rfl).aI 6 [1,0,2,3,4,5];have E:=E.Ug;refine⟨(a++[((b[a.length]'i6).1,(b[a.length]'i6).2.1,(b[a.length]'i6).2.2.1,t)],(t,m.aA[a.length].tries)::pool),by simp only[qu,List.length_singleton];rw[af _];rfl,⟨jj,λj r e k s=>?_,?_⟩,jj⟩
  .dsimp only at k⊢;by_cases I:j<a.length
   .rw[qq I]at k;obtain⟨g1,W⟩:=F j r e k s;exact⟨g1,List.mem_cons_of_mem _ W⟩
   .have Q:j=a.length:=by have:=(ql.1 k).1;simp at this;omega
    subst Q;rw[qk (qi _),za]at k;simp at k;rw[qc z]at s;injection s with s
    subst k;subst s;exact⟨⟨Y,y2,y3⟩,List.mem_cons_self⟩
  .try dsimp only
   have e4:(a++b.drop a.length).set a.length ((b[a.length]'i6).1,(b[a.length]'i6).2.1,(b[a.length]'i6).2.2.1,t)=a++[((b[a.length]'i6).1,(b[a.length]'i6).2.1,(b[a.length]'i6).2.2.1,t)]++b.drop (a++[((b[a.length]'i6).1,(b[a.length]'i6).2.1,(b[a.length]'i6).2.2.1,t)]).length:=by rw[qN _ _ (qi _),za,qJ (show a.length<b.length by omega),ze];simp
   rw[<-e4];exact E
 .have Z:a.length=m.aA.length:=i6
  rw[qY i6,qI]at q;refine⟨y,(q.box 1 i5).aE _ i5,?_⟩;refine q.storeAll ag 2 i5 i5 (aV y) i5 i5 i5 i5 λh8 B=>?_;have P:(a.zip m.aA).map qD=a:=List.map_fst_zip i6;have S:(a.zip m.aA).map zw=m.aA:=List.map_snd_zip i6;refine⟨y,(B.box 2 i5).aE _ i5,y,a.zip m.aA,pool,i5,⟨by rw[u];exact A.seq,by rw[u];exact A.next,by rw[u];exact A.p,by rw[u];exact A.extra⟩,S,λp hp=>?_,?_⟩
  .obtain⟨j,I,rfl⟩:=qA hp;have D:j<a.length/\j<m.aA.length:=by simp at I;omega
   have:=F j _ _ (qc D.1) (qc D.2);rw[y8];exact this
  .rw[P,O,c];exact B.bO [0,3,4]
theorem Ju(x:bw)(m:au)(h:f9)(a:cN h x m)(c:cw m):ai kg 26 #[eO x] h λv h'=>∃y:bw,v=eO y/\Sp h h' [bJ y m]:=by refine(oc x m h a c).mono ?_;rintro _ h' ⟨y,L,pool,rfl,e,d,b,H⟩;exact⟨y,i5,aa.Aj e d b H⟩
abbrev bC:=Int×Int×Int×Int×Int×Int×Int×Sl
abbrev bZ(x:bC):aW:=[xU ka x.1,xU ka x.2.1,xU ka x.2.2.1,xU ka x.2.2.2.1,xU ka x.2.2.2.2.1,xU ka x.2.2.2.2.2.1,xU ke x.2.2.2.2.2.2.1,x.2.2.2.2.2.2.2]
abbrev recv(x:bC):Value:=xZ #[xU ka x.1,xU ka x.2.1,xU ka x.2.2.1,xU ka x.2.2.2.1,xU ka x.2.2.2.2.1,xU ka x.2.2.2.2.2.1,xU ke x.2.2.2.2.2.2.1,x.2.2.2.2.2.2.2]
theorem afB:∀x,∀c∈bZ x,c.oneCell'=eS:=by intro x c a;simp[bZ]at a;rcases a with rfl|rfl|rfl|rfl|rfl|rfl|rfl|rfl<;>rfl
def kO(x y:Int):Int:=if x<y then-1 else if x>y then 1 else 0
def my(a b:bC):Int:=if kO a.1 b.1≠0 then kO a.1 b.1 else if kO a.2.1 b.2.1≠0 then kO a.2.1 b.2.1 else kO a.2.2.1 b.2.2.1
def cA(a b:bC):Bool:=decide (my a b<=0)
theorem jV(x y:Int):(x<y/\kO x y=-1)∨(x>y/\kO x y=1)∨(x=y/\kO x y=0):=by
 unfold kO;by_cases a:x<y
 .exact .inl ⟨a,g0 a⟩
 .by_cases b:x>y
  .exact .inr (.inl ⟨b,by rw[g9 a,g0 b]⟩)
  .exact .inr (.inr ⟨i6,by rw[g9 a,g9 b]⟩)
theorem Ci(a b:bC):my a b<=0↔a.1<b.1∨(a.1=b.1/\(a.2.1<b.2.1∨(a.2.1=b.2.1/\a.2.2.1<=b.2.2.1))):=by
 unfold my;rcases jV a.1 b.1 with⟨h1,e1⟩|⟨h1,e1⟩|⟨h1,e1⟩
 .rw[e1,g0 i7];omega
 .rw[e1,g0 i7];omega
 .rw[e1,g9 i7];rcases jV a.2.1 b.2.1 with⟨h2,e2⟩|⟨h2,e2⟩|⟨h2,e2⟩
  .rw[e2,g0 i7];omega
  .rw[e2,g0 i7];omega
  .rw[e2,g9 i7];rcases jV a.2.2.1 b.2.2.1 with⟨h3,e3⟩|⟨h3,e3⟩|⟨h3,e3⟩<;>rw[e3]<;>omega
theorem se(a b:bC):my a b<0↔¬cA b a=eS:=by
 unfold cA;rw[decide_eq_true_eq,Ci];unfold my;rcases jV a.1 b.1 with⟨h1,e1⟩|⟨h1,e1⟩|⟨h1,e1⟩
 .rw[e1,g0 i7];omega
 .rw[e1,g0 i7];omega
 .rw[e1,g9 i7];rcases jV a.2.1 b.2.1 with⟨h2,e2⟩|⟨h2,e2⟩|⟨h2,e2⟩
  .rw[e2,g0 i7];omega
  .rw[e2,g0 i7];omega
  .rw[e2,g9 i7];rcases jV a.2.2.1 b.2.2.1 with⟨h3,e3⟩|⟨h3,e3⟩|⟨h3,e3⟩<;>rw[e3]<;>omega
theorem YR(a b:bC):my a b=0↔(a.1=b.1/\a.2.1=b.2.1/\a.2.2.1=b.2.2.1):=by
 unfold my;rcases jV a.1 b.1 with⟨h1,e1⟩|⟨h1,e1⟩|⟨h1,e1⟩
 .rw[e1,g0 i7];omega
 .rw[e1,g0 i7];omega
 .rw[e1,g9 i7];rcases jV a.2.1 b.2.1 with⟨h2,e2⟩|⟨h2,e2⟩|⟨h2,e2⟩
  .rw[e2,g0 i7];omega
  .rw[e2,g0 i7];omega
  .rw[e2,g9 i7];rcases jV a.2.2.1 b.2.2.1 with⟨h3,e3⟩|⟨h3,e3⟩|⟨h3,e3⟩<;>rw[e3]<;>omega
theorem eT:Ord cA:=⟨λa b c d e=>by
 unfold cA at*;rw[decide_eq_true_eq,Ci]at*;omega,λa b=>by
 unfold cA;rw[Bool.or_eq_true,decide_eq_true_eq,decide_eq_true_eq,Ci,Ci];omega⟩
theorem PC{α:Type}(A B C:List α)(x y:α){i j:Nat}(c:i=i4 A)(b:j=i4 A+1+i4 B):
  (A++x::(B++y::C))[i]?=dB x/\(A++x::(B++y::C))[j]?=dB y/\((A++x::(B++y::C)).set i y).set j x=A++y::(B++x::C)/\((A++x::(B++y::C)).set j x).set i y=A++y::(B++x::C):=by
 subst c;subst b;have a:i4 A+1+i4 B-i4 A=i4 B+1:=i6
 refine⟨by rw[qk (qi _),za];rfl,?_,?_,?_⟩
 .rw[qk i6,a,qO,qk (qi _),za];rfl
 .rw[qN _ _ (qi _),za,ze,qN _ _ i6,a,zO,qN _ _ (qi _),za,ze]
 .rw[qN _ _ (show A.length<=i4 A+1+i4 B by omega),a,zO,qN _ _ (qi _),za,ze,qN _ _ (qi _),za,ze]
abbrev ack:bV C.toBX 163 166 8 [xU ka 0,xU ka 0,xU ka 0,xU ka 0,xU ka 0,xU ka 0,xU ke 0,xV eH 0 0] 80:=⟨_,_,i5,i5,i5,i5,i5,i5⟩
theorem ua(x y:Int)(h:f9):ai kg 217 #[xU ka x,xU ka y] h λv h'=>v=xU ka (kO x y)/\h'=h:=by
 refine ts Tryz.func217 ?_;have a:∀z:Int,ai kg 245 #[xU ka z] h λv h'=>v=xY eX/\h'=h:=λz=>by
  refine ts Tryz.func245 ?_;exact⟨js,i5⟩
 refine(a x).x7 ⟨_,i5,(a y).x7 ?_⟩;refine⟨_,i5,aP (λe=>j3) λ_=>aP (λe=>j3) λ_=>?_⟩;refine ae (λe=>⟨by rw[kO,g0 e],i5⟩) λe=>ae (λe2=>⟨by rw[kO,g9 e,g0 e2],i5⟩) λe2=>⟨by rw[kO,g9 e,g9 e2],i5⟩
theorem rn(a b:bC)(h:f9):ai kg 173 #[recv a,recv b] h λv h'=>v=xU ka (my a b)/\Sp h h' []:=by
 refine ts Tryz.func173 ?_ v6 [(1,(.l [0,1,2,3,5,6,7,8,10,11,12,13,4,9,14,15,16,17]))] (args:=[a,b]);refine(Sp.refl h).boxed λA N F=>F.boxed λB f o=>?_;have w:=o.box 0 i5;have p:=o.box 1 i5;have E:f8 f (A.add 1)=dB (xU ka a.2.1):=w.cell i5;have z:f8 f (B.add 1)=dB (xU ka b.2.1):=p.cell i5;have c3:f8 f (A.add 2)=dB (xU ka a.2.2.1):=w.cell i5;have q:f8 f (B.add 2)=dB (xU ka b.2.2.1):=p.cell i5;refine⟨a.1,w.cell0 i5,b.1,p.cell0 i5,a.2.1,E,b.2.1,z,a.2.2.1,c3,b.2.2.1,q,(ua _ _ f).x7 ?_⟩;refine⟨_,i5,⟨q,c3,z,E,A0⟩,(ua _ _ _).x7 ?_⟩;refine⟨_,i5,⟨q,c3,A0⟩,(ua _ _ _).x7 ?_⟩;refine⟨_,i5,A0,?_⟩;refine o.nS ag az ⟨_,_,i5,i5,i5,i5,i5,i5⟩ i5 [kO a.1 b.1,kO a.2.1 b.2.1,kO a.2.2.1 b.2.2.1] i5 (show 3*1<=2^20 by decide) i5 A0 ?_;refine o.lit ag az ⟨_,_,i5,i5,i5,i5,i5,i5⟩ i5 [kO a.1 b.1,kO a.2.1 b.2.1,kO a.2.2.1 b.2.2.1] i5 (show 3*1<=2^20 by decide) i5 λt y r=>?_;refine(Cg t (R:=λv h'=>v=xU ka (my a b)/\h'=y) ?_).mono ?_
 .skip
  have D:=r.seq 2 i5 λ_=>rfl;have J:=(r.own 2 i5).len;obtain⟨L,d⟩:=z6 ([kO a.1 b.1,kO a.2.1 b.2.1,kO a.2.2.1 b.2.2.1])
  rw[<-d]at D J;have H:i4 L=3:=by rw[d];rfl
  refine an (λi:Nat=>(i:Int)) (λi h'=>i<=3/\(∀j,j<i->L[j]?=dB 0)/\h'=y) (λi=>3-i) 0 i5 ⟨i6,i6,i5⟩ ?_;rintro i I ⟨O,m,rfl⟩;have c:=λh0=>by have:=m 0 h0;rw[d]at this;simpa using this
  have g:=λh0=>by have:=m 1 h0;rw[d]at this;simpa using this
  have x:=λh0=>by have:=m 2 h0;rw[d]at this;simpa using this
  refine ae (λe=>?_) (λe=>?_)
  .have k:i<i4 L:=by have G:=e;omega
   refine D.bm i i5 k L[i] i5 ?_;refine bH (λe2=>⟨?_,i5⟩) (λe2=>?_)
   .congr 1;unfold my;have:i=0∨i=1∨i=2:=i6
    subst d;rcases this with rfl|rfl|rfl
    .exact(g0 (e2)).symm
    .rw[g9 (by rw[c i6];simp)];exact(g0 (e2)).symm
    .rw[g9 (by rw[c i6];simp),g9 (by rw[g i6];simp)];rfl
   .refine⟨i+1,j4,⟨i6,λj M=>?_,i5⟩,i6⟩;by_cases s:j=i
    .subst s;rw[qc k,e2]
    .exact m j i6
  .have u:i=3:=by have G:=e;omega
   subst u;refine⟨?_,i5⟩;unfold my;rw[c i6,g i6,x i6];rfl
 .rintro _ I ⟨rfl,rfl⟩;exact⟨_,i5,A0,i5,.zip r.ac⟩
abbrev cx(s:Sl)(d:List bC):HP:=aq 166 s 8 bZ d
section
variable {d:List bC}
theorem sf(X U M V Y:List bC)(n:Nat)(a b:Int)(O:i4 U=n)(R:i4 V=n)(J:a=(i4 X:Int))(K:b=(i4 X+n+i4 M:Nat))(L:i4 X+n+i4 M+n+i4 Y<=2^40)(H:aa B h0 h (cx s (X++(U++(M++(V++Y))))::As)):
  ai kg 377 #[s,xU ka a,xU ka b,xU ka n,.func (.func 173) #[] #[]] h λv h'=>v=.tuple #[]/\aa B h0 h' (cx s (X++(V++(M++(U++Y))))::As):=by
 refine ts Tryz.func377 ?_ (xc (v7 (ws [(10,aR)] [(10,38)] v6))) (args:=[s,(a:Int),(b:Int),(n:Int),(.func (.func 173) #[] #[])]);subst J;subst K;refine an (λk:Nat=>(k:Int)) (λk h'=>k<=n/\aa B h0 h' (cx s (X++(V.take k++U.drop k++(M++(U.take k++V.drop k++Y))))::As)) (λk=>n-k) 0 i5 ⟨i6,m5⟩ ?_;rintro k Q ⟨P,d⟩;refine ae (λe=>?_) (λe=>?_)
 .have I:k<n:=i6
  have l:k<i4 U:=i6
  have g:k<i4 V:=i6
  have f:X++(V.take k++U.drop k++(M++(U.take k++V.drop k++Y)))=(X++V.take k)++U[k]::((U.drop (k+1)++(M++U.take k))++V[k]::(V.drop (k+1)++Y)):=by rw[qJ l,qJ g];simp only[qm,zB,wx]
  have c:X++(V.take (k+1)++U.drop (k+1)++(M++(U.take (k+1)++V.drop (k+1)++Y)))=(X++V.take k)++V[k]::((U.drop (k+1)++(M++U.take k))++U[k]::(V.drop (k+1)++Y)):=by rw[aG V k g,aG U k l];simp only[qm,zB,wx]
  rw[f]at d;obtain⟨u,x,w,A⟩:=PC (X++V.take k) (U.drop (k+1)++(M++U.take k)) (V.drop (k+1)++Y) U[k] V[k] (i:=i4 X+k) (j:=i4 X+n+i4 M+k) jj jj;obtain⟨D,z⟩:=z6 ((X++V.take k)++U[k]::((U.drop (k+1)++(M++U.take k))++V[k]::(V.drop (k+1)++Y)))
  rw[<-z]at d u x w A;have p:=(ql.1 u)
  have q:=(ql.1 x)
  obtain⟨o,r⟩:=p;obtain⟨m,t⟩:=q;have E:qd ka ((i4 X:Int)+k)=((i4 X+k:Nat):Int):=j7
  have y:qd ka (((i4 X+n+i4 M:Nat):Int)+k)=((i4 X+n+i4 M+k:Nat):Int):=j7
  rw[E,y];refine(d.seq 0 i5 λ_=>rfl).dO _ i5 m V[k] (by rw[t]) ?_;refine(d.seq 0 i5 λ_=>rfl).dO _ i5 o U[k] (by rw[r]) ?_;refine d.set ag 0 i5 (λ_=>rfl) i5 (i4 X+k) i5 o V[k] i5 i5 i5 λN G=>⟨A0,?_⟩
  refine G.set ag 0 i5 (λ_=>rfl) i5 (i4 X+n+i4 M+k) i5 (by simpa using m) U[k] i5 i5 i5 λh3 F=>⟨A0,?_⟩
  refine⟨k+1,j4,⟨i6,?_⟩,i6⟩;rw[c,<-w];exact F
 .have:k=n:=i6
  subst this;rw[qh i6,qY i6,qh i6,qY i6]at d;refine⟨i5,?_⟩;simpa using d
theorem RZ(X U V Y:List bC)(a m b:Int)(z:0<i4 U)(I:0<i4 V)(F:a=(i4 X:Int))(y:m=(i4 X+i4 U:Nat))(J:b=(i4 X+i4 U+i4 V:Nat))(M:i4 X+i4 U+i4 V+i4 Y<=2^40)(H:aa B h0 h (cx s (X++(U++(V++Y)))::As)):
  ai kg 356 #[s,xU ka a,xU ka m,xU ka b,.func (.func 173) #[] #[]] h λv h'=>v=.tuple #[]/\aa B h0 h' (cx s (X++(V++(U++Y)))::As):=by
 refine ts Tryz.func356 ?_ (xc (xc (u9 (v7 (ws [(10,aR),(11,aR)] [(10,12),(18,50)] v6)) v6))) (args:=[s,(a:Int),(m:Int),(b:Int),(.func (.func 173) #[] #[])]);subst F;subst y;subst J;have K:qd ka (((i4 X+i4 U:Nat):Int)-i4 X)=(i4 U:Int):=j7
 have e2:qd ka (((i4 X+i4 U+i4 V:Nat):Int)-(i4 X+i4 U:Nat))=(i4 V:Int):=j7
 rw[K,e2];refine an (λt:List bC×List bC×List bC×List bC=>((i4 t.2.1:Int),(i4 t.2.2.1:Int))) (λt h'=>0<i4 t.2.1/\0<i4 t.2.2.1/\X.length+i4 t.1+i4 t.2.1=i4 X+i4 U/\V++U=t.1++((t.2.2.1++t.2.1)++t.2.2.2)/\aa B h0 h' (cx s (X++(t.1++(t.2.1++(t.2.2.1++(t.2.2.2++Y)))))::As)) (λt=>i4 t.2.1+i4 t.2.2.1) ([],U,V,[]) i5 ⟨z,I,js,js,m5⟩ ?_;rintro⟨P,A,c,Q⟩ u ⟨N,R,y,p,q⟩;dsimp only at*;have l:=congrArg vw p;simp only[qu]at l;refine bH (λe=>ae (λG=>?_) λG=>?_) (λe=>?_)
 .--the left one is longer
  have w:i4 c<i4 A:=i6
  have L:A=A.take c.length++A.drop c.length:=(qy _ _).symm;have k:i4 (A.take c.length)=i4 c:=jj
  have f:qd ka (((i4 X+i4 U:Nat):Int)-i4 A)=(i4 (X++P):Int):=by rw[af _];simp;omega
  rw[f];have d:aa B h0 u (cx s ((X++P)++(A.take c.length++(A.drop c.length++(c++(Q++Y)))))::As):=by
   have:(X++P)++(A.take c.length++(A.drop c.length++(c++(Q++Y))))=X++(P++(A++(c++(Q++Y)))):=by
    conv=>rhs;rw[L]
    simp only[qm,zB,wx]
   rw[this];exact q
  refine(sf (X++P) (A.take c.length) (A.drop c.length) c (Q++Y) c.length _ _ k i5 i5 jj jj d).x8 λx g=>⟨(),i5,(P++c,A.drop c.length,A.take c.length,Q),?_,⟨l5,i9,l5,?_,?_⟩,l5⟩
  .try dsimp only
   rw[k,af _];simp;omega
  .try dsimp only
   rw[p,qy];simp
  .try dsimp only
   have:X++((P++c)++(A.drop c.length++(A.take c.length++(Q++Y))))=(X++P)++(c++(A.drop c.length++(A.take c.length++(Q++Y)))):=js
   rw[this];exact g
 .have w:i4 A<i4 c:=i6
  obtain⟨j,O⟩:=z6 (i4 c-i4 A)
  have E:c=c.take j++c.drop j:=(qy _ _).symm;have i:i4 (c.drop j)=i4 A:=jj
  have o:i4 (c.take j)=j:=jj
  have f:qd ka (((i4 X+i4 U:Nat):Int)-i4 A)=(i4 (X++P):Int):=by rw[af _];simp;omega
  have D:qd ka ((qd ka (((i4 X+i4 U:Nat):Int)+i4 c))-i4 A)=((i4 (X++P)+i4 A+i4 (c.take j):Nat):Int):=by rw[af (((i4 X+i4 U:Nat):Int)+i4 c),af _,o];simp;omega
  rw[f,D];have d:aa B h0 u (cx s ((X++P)++(A++(c.take j++(c.drop j++(Q++Y)))))::As):=by
   have:(X++P)++(A++(c.take j++(c.drop j++(Q++Y))))=X++(P++(A++(c++(Q++Y)))):=by
    conv=>rhs;rw[E]
    simp only[qm,zB,wx]
   rw[this];exact q
  refine(sf (X++P) A (c.take j) (c.drop j) (Q++Y) A.length _ _ i5 i i5 i5 jj d).x8 λx g=>⟨(),i5,(P,c.drop j,c.take j,A++Q),?_,⟨i9,i9,i9,?_,?_⟩,i9⟩
  .try dsimp only
   rw[o,i,af _];congr 1;omega
  .try dsimp only
   rw[p,qy];simp
  .try dsimp only
   have:X++(P++(c.drop j++(c.take j++((A++Q)++Y))))=(X++P)++(c.drop j++(c.take j++(A++(Q++Y)))):=js
   rw[this];exact g
 .have r:i4 A=i4 c:=i6
  have f:qd ka (((i4 X+i4 U:Nat):Int)-i4 A)=(i4 (X++P):Int):=by rw[af _];simp;omega
  rw[f];have d:aa B h0 u (cx s ((X++P)++(A++([]++(c++(Q++Y)))))::As):=by
   have:(X++P)++(A++([]++(c++(Q++Y))))=X++(P++(A++(c++(Q++Y)))):=js
   rw[this];exact q
  refine(sf (X++P) A [] c (Q++Y) A.length _ _ i5 r.symm i5 jj jj d).x8 λx g=>⟨(),i5,i5,?_⟩;have:X++(V++(U++Y))=(X++P)++(c++([]++(A++(Q++Y)))):=by
   have:V++(U++Y)=(V++U)++Y:=js
   rw[this,p];simp
  rw[this];exact g
end
theorem VT(l:aL)(x:UInt8):dI (l++[x])=dI l*256+x.toNat:=by unfold dI;rw[zH];rfl
theorem PD:∀l:aL,i4 l<=4->0<=dI l/\dI l<4294967296/\(i4 l<=3->dI l<16777216)
 |[],_=>by simp[dI]
 |[a],_=>by have:=a.toNat_lt;simp only[dI,zA,wu];omega
 |[a,b],_=>by have:=a.toNat_lt;have:=b.toNat_lt;simp only[dI,zA,wu];omega
 |[a,b,c],_=>by have:=a.toNat_lt;have:=b.toNat_lt;have:=c.toNat_lt;simp only[dI,zA,wu];omega
 |[a,b,c,d],_=>by have:=a.toNat_lt;have:=b.toNat_lt;have:=c.toNat_lt;have:=d.toNat_lt;simp only[dI,zA,wu,q8,yk];omega
 |_::_::_::_::_::_,h=>p5
theorem ahK(n x:Nat)(f:n<2^32)(e:x<256):qd ka (((qG (qz ka) (qd ka ((n:Int)*2^min (8:Int).toNat (qz ka)))|||qG (qz ka) (qd ka (x:Int))).toNat:Nat):Int)=(n:Int)*256+x:=by
 have a:min (8:Int).toNat (qz ka)=8:=rfl;rw[a];have c:qd ka ((n:Int)*2^8)=((n*256:Nat):Int):=by rw[Qw.af _];omega
 have e2:qd ka (x:Int)=((x:Nat):Int):=Qw.af _;rw[c,e2];have d:(qG (qz ka) ((n*256:Nat):Int)|||qG (qz ka) ((x:Nat):Int)).toNat=n*256+x:=by show((qG 64 ((n*256:Nat):Int)|||qG 64 ((x:Nat):Int):BitVec 64)).toNat=n*256+x;rw[BitVec.toNat_or,w8,w8,w6,w6,wQ i6,wQ i6];have:=Nat.shiftLeft_add_eq_or_of_lt (b:=x) (i:=8) i6 n;rw[Nat.shiftLeft_eq,show(2:Nat)^8=256 from rfl]at this;omega
 rw[d,Qw.af _];omega
def fx:jm bC cH:=⟨λh q a b=>(a.1=b.object/\a.2.1=b.block/\a.2.2.1=b.id/\(a.2.2.2.1,a.2.2.2.2.1,a.2.2.2.2.2.1)=b.p/\a.2.2.2.2.2.2.1=b.seed/\0<=b.seed/\b.seed<4294967296)/\Seq h q a.2.2.2.2.2.2.2 1 aB b.data,λa c=>⟨a.1,a.2.ac c⟩,λa d=>⟨a.1,a.2.mono d⟩⟩
theorem ro{p q:aw}(a b:Sl)(d c:aL)(h:f9)(e:Seq h p a 1 aB d)(f:Seq h q b 1 aB c):
  ai kg 82 #[a,b] h λv h'=>v=xY (decide (d=c))/\h'=h:=by
 refine ts Tryz.func82 ?_;refine KS ag ⟨_,i5,i5⟩ ⟨_,i5,i5⟩ ⟨_,i5,i5⟩ e (KS ag ⟨_,i5,i5⟩ ⟨_,i5,i5⟩ ⟨_,i5,i5⟩ f ⟨?_,i5⟩);rw[ByteArray.toList_mk,ByteArray.toList_mk];have:(d==c)=decide (d=c):=by rw[Bool.eq_iff_iff];simp
 rw[this]
theorem Jv(b:Sl)(c:aL)(h:f9)(g:Rd h b 1 aB c)(y:i4 c<=2^30)(d:b.len<=b.cap):
  ai kg 66 #[b] h λv h'=>(gg c=eH->v=.tuple #[xU ka 0,xV eH 0 0,xY eX]/\Sp h h' [])/\
   ∀k x,gg c=dB (k,x)->∃r:Sl,v=.tuple #[xU ka k,r,xY eS]/\Sp h h' [aq 5 r 1 aB x]:=by
 refine ts Tryz.func66 ?_;have A:=g.len;refine bH (λe=>?_) (λe=>?_)
 .have:gg c=eH:=by unfold gg;rw[g9 λa=>e i6]
  rw[this];exact⟨λ_=>⟨i5,Sp.refl h⟩,λk x h=>j8⟩
 have o:i4 c=64:=i6
 have h3:3<i4 c:=i6
 refine g.IZ 3 i5 h3 ((c.getD 3 0).toNat:Int) (by rw[getD_lt h3];rfl) λw n=>⟨⟨i7,i7,i6⟩,?_⟩
 have f:=(g.drop 4 d).take 55 jj;have p:i4 ((c.drop 4).take 55)=55:=jj
 refine(fq ⟨_,55,b.cap-4⟩ ((c.drop 4).take 55) h f i6).y0 λr u j=>⟨r,i5,jo j.ac ⟨n,A0⟩,?_⟩;have z:=(c.getD 3 0).toNat_lt;rw[af ((c.getD 3 0).toNat:Int)];refine(Fb ((c.getD 3 0).toNat:Int) r ((c.drop 4).take 55) u (j.seq 0 i5 λ_=>rfl)).y0 λq s t=>?_;have i:=j.comp t;refine⟨q,i5,(ro b q c _ s (g.up i.ac) (i.seq 1 i5 λ_=>rfl)).x7 ?_⟩;refine⟨_,i5,aX (λe2=>?_) λe2=>?_⟩
 .have m:c≠eI ((c.getD 3 0).toNat:Int) ((c.drop 4).take 55):=of_decide_eq_false e2;have:gg c=eH:=by unfold gg;rw[g9 λa=>m a.2.symm]
  rw[this];exact⟨λ_=>⟨i5,.zip i.ac⟩,λk x h=>j8⟩
 .have l:c=eI ((c.getD 3 0).toNat:Int) ((c.drop 4).take 55):=i0 e2;have:gg c=dB (((c.getD 3 0).toNat:Int),(c.drop 4).take 55):=by unfold gg;rw[g0 ⟨o,l.symm⟩]
  rw[this];refine⟨λh=>j8,λk x a=>?_⟩;injection a with a
  injection a with hh1 hh2
  subst hh1;subst hh2;exact⟨r,i5,i.bO [0]⟩
theorem MB(b:Sl)(l:aL)(h:f9)(d:Rd h b 1 aB l)(o:i4 l<=4):ai kg 237 #[b] h λv h'=>v=xU ka (dI l)/\h'=h:=by
 refine ts Tryz.func237 ?_ (xc (xc (x0 [(3,aR),(8,aR)] [(3,4),(5,6),(8,18)])));have f:=d.len;refine an (λi:Nat=>(dI (l.take i),(i:Int))) (λi h'=>i<=i4 l/\h'=h) (λi=>i4 l-i) 0 i5 ⟨i6,i5⟩ ?_;rintro i k ⟨p,rfl⟩
 try dsimp only
 refine ae (λe=>?_) (λe=>?_)
 .have a:i<i4 l:=i6
  refine d.bm i i5 a (l[i].toNat:Int) i5 ⟨i7,?_⟩;have c:=(PD (l.take i) jj)
  have j:=c.2.2 jj;have m:=l[i].toNat_lt;obtain⟨n,g⟩:∃n:Nat,dI (l.take i)=(n:Int):=⟨(dI (l.take i)).toNat,i6⟩
  refine⟨i+1,?_,⟨i6,i5⟩,i6⟩;rw[aG _ _ a,VT,g,ahK n _ i6 i6,af ((i:Int)+1)];rfl
 .rw[qh i6];exact⟨i5,i5⟩
theorem Ha(x:bC)(r:cH)(h:f9)(H:eF fx h x r):ai kg 218 #[recv x] h λv h'=>v=xY (iQ r)/\Sp h h' []:=by
 refine ts Tryz.func218 ?_ (xc (x6 [(3,lj)] [(3,32)] v6)) (args:=[x]);obtain⟨⟨I,e2,F,q,K,_⟩,J⟩:=H;have s:x.2.2.2.1=r.p.1:=congrArg (·.1) q;have l:x.2.2.2.2.1=r.p.2.1:=congrArg (·.2.1) q;have d:x.2.2.2.2.2.1=r.p.2.2:=congrArg (·.2.2) q;have c:=Seq.len J;refine(Sp.refl h).boxed λf j m=>?_;have k:=m.box 0 i5;have y:f8 j f=dB (xU ka r.object):=by rw[<-I];exact k.cell0 i5
 have z:f8 j (f.add 1)=dB (xU ka r.block):=by rw[<-e2];exact k.cell i5
 have u:f8 j (f.add 2)=dB (xU ka r.id):=by rw[<-F];exact k.cell i5
 have w:∀{h':f9},Sp h h' [ak f 166 (bZ x)]->(iQ r=eS->False)->Value.bool eX=xY (iQ r)/\Sp h h' []:=λ{h'} H' hn=>⟨by cases hq:iQ r with|false=>rfl|true=>exact absurd hq hn,.zip H'.ac⟩
 refine bF (λb h'=>b=decide ((0<=r.object/\r.object<=16777215)/\(0<=r.block/\r.block<=7)/\(0<=r.id/\r.id<=65535))/\h'=j) ?_ ?_
 .refine⟨_,y,ae (λG=>⟨_,y,ae (λa=>⟨_,z,ae (λD=>⟨_,z,ae (λE=>⟨_,u,ae (λB=>⟨_,u,?_,i5⟩) λB=>⟨?_,i5⟩⟩) λE=>⟨?_,i5⟩⟩) λD=>⟨?_,i5⟩⟩) λa=>⟨?_,i5⟩⟩) λG=>⟨?_,i5⟩⟩
  .rw[decide_eq_decide];omega
  all_goals (symm;rw[decide_eq_false_iff_not];omega)
 .rintro _ _ ⟨rfl,rfl⟩;refine ae (λg=>?_) λg=>w m λt=>g (by have:=(jI r).1 t;omega);refine⟨r.p,by rw[<-s,<-l,<-d];exact k.GA 3 i5 i5 i5,(eN r.p _).x8 λh3 A=>?_⟩;have o:=m.up A.ac;have e:=o.box 0 i5;refine⟨_,i5,aP (λa=>?_) λa=>w o λt=>by have:=((jI r).1 t).2.2.2.1;rw[a]at this;cases this⟩;refine⟨x.2.2.2.2.2.2.2,e.cell i5,r.p.2.2,by rw[<-d];exact e.um 3 2 i5,?_,.zip o.ac⟩;congr 1;by_cases i:(r.data.length:Int)=r.p.2.2
  .have:iQ r=eS:=(jI r).2 ⟨i6,i6,i6,a,i⟩;rw[this,c];simpa using i
  .have:iQ r=eX:=by
    cases hq:iQ r with
    |false=>rfl
    |true=>exact absurd ((jI r).1 hq).2.2.2.2 i
   rw[this,c];simpa using i
theorem od(s:Sl)(l:aL)(n:Int)(k:Nat)(m:k<=4)(q:i4 l<=2^30)(H:aa B h0 h (aq 5 s 1 aB l::As)):
  ai kg 219 #[s,xU ka n,xU ka k] h λv h'=>∃r:Sl,v=r/\aa B h0 h' (aq 5 r 1 aB (l++cb n k)::As):=by
 refine ts Tryz.func219 ?_ (xc (x0 [(0,cE),(7,aR)] [(0,1),(7,8),(10,22)]));rw[af ((k:Int)-1)];refine an (λt:Sl×Nat=>(t.1,(k:Int)-1-t.2)) (λt h'=>t.2<=k/\aa B h0 h' (aq 5 t.1 1 aB (l++(cb n k).take t.2)::As)) (λt=>k-t.2) (s,0) js ⟨js,m5⟩ ?_;rintro⟨r,t⟩ p ⟨o,a⟩;dsimp only at*;refine ae (λe=>?_) (λe=>?_)
 .have b:t<k:=i6
  have i:qd ka ((8:Int)*((k:Int)-1-t))=((8*(k-1-t):Nat):Int):=by rw[af _];omega
  rw[i,qj];have e2:min (8*(k-1-t)) (qz ka)=8*(k-1-t):=by have:qz ka=64:=rfl;omega
  rw[e2,fa];refine⟨i6,?_⟩;refine a.push ag 0 i5 gm i5 i7 (λ_=>rfl) ib (b8 (zr n (2^(8*(k-1-t))))) i5 i7 m9 λg j c=>?_;refine⟨(g,t+1),?_,⟨i9,?_⟩,i9⟩
  .try dsimp only
   have f:qd ka ((k:Int)-1-t-1)=(k:Int)-1-((t+1:Nat):Int):=by rw[af _];omega
   rw[f]
  .try dsimp only
   have d:(cb n k).take t++[b8 (zr n (2^(8*(k-1-t))))]=(cb n k).take (t+1):=by rw[aG _ _ (by rw[cK];exact b)];congr 2;simp[cb]
   rw[<-d,<-qm];exact c
 .have:t=k:=i6
  subst this;rw[qh (by rw[cK];omega)]at a;exact⟨r,i5,a⟩
theorem oE(x:bC)(r:cH)(h:f9)(G:eF fx h x r):ai kg 154 #[recv x] h λv h'=>∃s:Sl,v=s/\Sp h h' [aq 5 s 1 aB (cD r)]:=by
 refine ts Tryz.func154 ?_ (args:=[x]);obtain⟨⟨V,e2,R,m,P,e7,e8⟩,W⟩:=id G;have n:x.2.2.2.1=r.p.1:=congrArg (·.1) m;have i:x.2.2.2.2.1=r.p.2.1:=congrArg (·.2.1) m;have o:x.2.2.2.2.2.1=r.p.2.2:=congrArg (·.2.2) m;refine(Sp.refl h).boxed λL N e=>?_;refine⟨x,(e.box 0 i5).aE _ i5,(Ha x r N (fx.mono (fx.loc G e.ac) λ_ Q=>qT Q e.ac.1)).x8 λh2 S=>?_⟩;have l:=e.up S.ac;refine⟨_,i5,aX (λg=>?_) λg=>?_⟩
 .unfold cD;rw[g];exact⟨⟨eH,0,0⟩,i5,(l.nil 5 1 aB).bO [1]⟩
 have O:=pm g;have k:=l.box 0 i5;refine⟨r.object,by rw[<-V];exact k.cell0 i5,(od ⟨eH,0,0⟩ [] r.object 3 i7 js (l.nil 5 1 aB).aZ).y0 λB h3 A=>?_⟩;have t:=A.box 1 i5;refine⟨B,i5,r.block,by rw[<-e2];exact t.cell i5,(od B _ r.block 1 i7 pb A).y0 λD Y H=>?_⟩;have u:=H.box 1 i5;refine⟨D,i5,r.id,by rw[<-R];exact u.cell i5,(od D _ r.id 2 i7 pb H).y0 λM X y=>?_⟩;have a:=y.box 1 i5;refine⟨M,i5,r.p.1,by rw[<-n];exact a.cell i5,r.p.2.1,by rw[<-i];exact a.um 3 1 i5,r.p.2.2,by rw[<-o];exact a.um 3 2 i5,?_⟩
 try dsimp only
 rw[fa,fa,fa];refine y.lit ag aB gm i5 [b8 r.p.1,b8 r.p.2.1,b8 r.p.2.2] i5 (show 3*1<=2^20 by decide) i5 λJ Z z=>?_;refine z.append ag 0 i5 gm ⟨_,_,i5,i5⟩ i5 i7 (λ_=>rfl) (z.seq 2 i5 λ_=>rfl) ib pb λK h7 d=>?_;have d:=d.bO [0,1];have j:=d.box 1 i5;refine⟨r.seed,by rw[<-P];exact j.cell i5,?_⟩
 try dsimp only
 rw[af r.seed];refine(od K _ r.seed 4 i7 pb d).y0 λU h8 q=>?_;have f:=q.box 1 i5;refine⟨U,i5,x.2.2.2.2.2.2.2,f.cell i5,?_⟩;refine q.append ag 0 i5 gm ⟨_,_,i5,i5⟩ i5 i7 (λ_=>rfl) (Seq.up W q.ac) ib m9 λF E c=>?_;have T:[]++cb r.object 3++cb r.block 1++cb r.id 2++[b8 r.p.1,b8 r.p.2.1,b8 r.p.2.2]++cb r.seed 4++r.data=jC r:=by unfold jC;simp[qm]
 have c:Sp h E [aq 5 F 1 aB (jC r),ak L 166 (bZ x)]:=by rw[<-T];exact c
 refine(Fb 1 F (jC r) E (c.seq 0 i5 λ_=>rfl)).y0 λb I w=>⟨b,i5,b,i5,?_⟩;unfold cD;rw[g,g0 rfl];exact(c.comp w).bO [2]
theorem PE(b:Sl)(c:aL)(h:f9)(hb:Rd h b 1 aB c)(hc:c.length<=2^30)(V:b.len<=b.cap):
  ai kg 170 #[b] h λv h'=>∃x:bC,v=.tuple #[recv x,xY (dS c).isSome]/\(dS c=eH->Sp h h' [])/\∀r,dS c=dB r->Sp h h' [EA fx x r]:=by
 refine ts Tryz.func170 ?_ (xc (xc (x6 [] [(3,4),(14,21)] (x6 [(7,(.sc .adr))] [(7,8),(21,31)] (x6 [] [(31,42)] v6))))) [(4,(.y [0,1,3,4,6,7] (.y [2] (.y [5] (.l [8,9,10,11]) (.l [10,8,9,11])) (.l [10,5,8,9,11])) (.l [10,2,5,8,9,11]))),(5,(.l [0,1,3,4,6,7,2,5,8,9,10,11]))];refine(Sp.refl h).alloc ag i5 λs h1 H1=>?_;have D:∀{h':f9} {Bs:List HP},Sp h h' (ak s 166 (bZ (0,0,0,0,0,0,0,⟨eH,0,0⟩))::Bs)->dS c=eH->
   aj kg (qF 166 (xW (dB s)) (recv (0,0,0,0,0,0,0,⟨eH,0,0⟩))) h' λ_ G=>∃P:bC,bt G s 0 (bZ P)/\∃x:bC,Value.tuple #[recv P,xY eX]=.tuple #[recv x,xY (dS c).isSome]/\(dS c=eH->Sp h G [])/\∀r,dS c=dB r->Sp h G [EA fx x r]:=λ{h' Bs} H' E=>by
  refine H'.storeAll ag 0 i5 i5 (bZ (0,0,0,0,0,0,0,⟨eH,0,0⟩)) i5 i5 i5 i5 λG H4=>?_;exact⟨(0,0,0,0,0,0,0,⟨eH,0,0⟩),(H4.box 0 i5).aE _ i5,(0,0,0,0,0,0,0,⟨eH,0,0⟩),by rw[E];rfl,λ_=>.zip H4.ac,λr N=>by rw[E]at N;cases N⟩
 refine(Jv b c h1 (hb.up H1.ac) hc V).mono ?_;rintro _ h2 ⟨Q0,Q1⟩;cases htc:gg c with
 |none=>
  obtain⟨rfl,R2⟩:=Q0 htc;have E:dS c=eH:=by unfold dS;rw[htc]
  exact⟨(0,⟨eH,0,0⟩,eX),i5,aJ (aX (λ_=>D (H1.up R2.ac) E) λe=>j3)⟩
 |some kx=>
  obtain⟨k,x⟩:=kx;obtain⟨r,rfl,R2⟩:=Q1 k x htc;have t:=H1.comp R2;have ay:x.length=55:=by
   unfold gg at htc;split at htc
   .rename_i m;injection htc with htc
    injection htc with _ htc
    rw[<-htc];simp;omega
   .cases htc
  have a6:=(t.own 1 i5).len;have S:=(t.own 1 i5).cap;refine⟨(k,r,eS),i5,aJ (aX (λe=>j3) λ_=>bH (λe=>D t ?_) λM=>?_)⟩
  .unfold dS;rw[htc];exact g9 λm=>e m.1
  try dsimp only
  have M:k=1:=M;obtain⟨R,w⟩:=z6 (uw x)
  have J:dS c=if bB R.p=eS/\cD R=c then dB R else eH:=by
   unfold dS;rw[htc]
   try dsimp only
   rw[<-w];by_cases m:bB R.p=eS/\cD R=c
   .rw[g0 m];exact g0 ⟨M,m⟩
   .rw[g9 m];exact g9 λh=>m h.2
  have tA:∀{h':f9},Rd h' r 1 aB x->ai kg 237 #[xV r.ptr 3 r.cap] h' λv L=>v=xU ka R.object/\L=h':=λ{h'} N=>by
   rw[w];exact MB ⟨r.ptr,3,r.cap⟩ (x.take 3) h' (N.take 3 i6) jj
  have O:∀{h':f9} (j n:Nat),j+n<=55->n<=4->Rd h' r 1 aB x->ai kg 237 #[.slice (if r.cap=j then r.ptr else r.ptr.map (·.add (j*1))) n (r.cap-j)] h' λv L=>v=xU ka (dI ((x.drop j).take n))/\L=h':=λ{h'} j n hjn E N=>
   MB ⟨if r.cap=j then r.ptr else r.ptr.map (·.add (j*1)),n,r.cap-j⟩ ((x.drop j).take n) h' ((N.drop j S).take n mn) jj
  have rd:∀{h':f9} {A:HP} {Bs:List HP},Sp h h' (A::aq 5 r 1 aB x::Bs)->Rd h' r 1 aB x:=λ{h' A Bs} H'=>H'.seq 1 i5 λ_=>rfl;have DJ:∀{h':f9} {A A2:HP} {Bs:List HP},Sp h h' (A::A2::aq 5 r 1 aB x::Bs)->Rd h' r 1 aB x:=λ{h' A A2 Bs} H'=>H'.seq 2 i5 λ_=>rfl;refine bF (λ(a:f7) h'=>Sp h h' [ak a 166 (bZ (R.object,R.block,R.id,0,0,0,0,⟨eH,0,0⟩)),ak s 166 (bZ (0,0,0,0,0,0,0,⟨eH,0,0⟩)),aq 5 r 1 aB x]) ?_ ?_
  .have eb:dI ((x.drop 3).take 1)=R.block:=p7
   have ei:dI ((x.drop 4).take 2)=R.id:=p7
   have fin:∀{h':f9} {a:f7},Sp h h' [ak s 166 (bZ (0,0,0,0,0,0,0,⟨eH,0,0⟩)),aq 5 r 1 aB x,ak a 166 (bZ (0,0,0,0,0,0,0,⟨eH,0,0⟩))]->
     aj kg (qF 166 (xW (dB a)) (recv (R.object,R.block,R.id,0,0,0,0,⟨eH,0,0⟩))) h' λ_ G=>bQ.ok [] G/\Sp h G [ak a 166 (bZ (R.object,R.block,R.id,0,0,0,0,⟨eH,0,0⟩)),ak s 166 (bZ (0,0,0,0,0,0,0,⟨eH,0,0⟩)),aq 5 r 1 aB x]:=λ{h' a} H'=>
    H'.storeAll ag 2 i5 i5 (bZ (R.object,R.block,R.id,0,0,0,0,⟨eH,0,0⟩)) i5 i5 i5 i5 λG H4=>⟨A0,H4.bO [2,0,1]⟩
   have A_:∀{h':f9} {Bs:List HP} {K:Int->f9->Prop},Sp h h' (ak s 166 (bZ (0,0,0,0,0,0,0,⟨eH,0,0⟩))::aq 5 r 1 aB x::Bs)->K R.object h'->pH kg 237 #[xV r.ptr 3 r.cap] (.one (.sc (.int .i64))) h' K:=λ{h' Bs K} H' hK=>by
    refine(tA (rd H')).x7 ⟨_,i5,hK⟩
   have B_:∀{h':f9} {Bs:List HP} {K:Int->f9->Prop},Sp h h' (ak s 166 (bZ (0,0,0,0,0,0,0,⟨eH,0,0⟩))::aq 5 r 1 aB x::Bs)->K R.block h'->pH kg 237 #[.slice (if r.cap=3 then r.ptr else r.ptr.map (·.add (3*1))) 1 (r.cap-3)] (.one (.sc (.int .i64))) h' K:=λ{h' Bs K} H' hK=>by
    refine(O 3 1 i7 i7 (rd H')).x7 ⟨_,i5,by rw[eb];exact hK⟩
   have C_:∀{h':f9} {Bs:List HP} {K:Int->f9->Prop},Sp h h' (ak s 166 (bZ (0,0,0,0,0,0,0,⟨eH,0,0⟩))::aq 5 r 1 aB x::Bs)->K R.id h'->pH kg 237 #[.slice (if r.cap=4 then r.ptr else r.ptr.map (·.add (4*1))) 2 (r.cap-4)] (.one (.sc (.int .i64))) h' K:=λ{h' Bs K} H' hK=>by
    refine(O 4 2 i7 i7 (rd H')).x7 ⟨_,i5,by rw[ei];exact hK⟩
   refine⟨⟨i7,i6⟩,⟨i7,i7,i6⟩,⟨i7,i7,i6⟩,A_ t ⟨A0,B_ t ⟨A0,C_ t ⟨A0,?_⟩,?_⟩,?_⟩,?_⟩
   .refine t.alloc ag i5 λa9 h9 i=>⟨A0,?_⟩
    exact fin i
   .refine t.alloc ag i5 λa9 h9 i=>⟨A0,?_⟩
    exact C_ i ⟨A0,fin i⟩
   .refine t.alloc ag i5 λa9 h9 i=>⟨A0,?_⟩
    exact B_ i ⟨A0,C_ i ⟨A0,fin i⟩⟩
   .refine t.alloc ag i5 λa9 h9 i=>⟨A0,?_⟩
    exact A_ i ⟨A0,B_ i ⟨A0,C_ i ⟨A0,fin i⟩⟩⟩
  .rintro a9 h5 H5;have I:0<=R.seed/\R.seed<4294967296:=by have:=PD ((x.drop 9).take 4) jj;rw[w];exact⟨this.1,this.2.1⟩
   have e6:dI ((x.drop 6).take 1)=R.p.1:=p7
   have e7:dI ((x.drop 7).take 1)=R.p.2.1:=p7
   have e8:dI ((x.drop 8).take 1)=R.p.2.2:=p7
   have e9:dI ((x.drop 9).take 4)=R.seed:=p7
   refine aJ ⟨⟨i7,i7,i6⟩,⟨i7,i7,i6⟩,⟨i7,i7,i6⟩,(O 6 1 i7 i7 (DJ H5)).x7 ?_⟩;refine⟨_,i5,A0,(O 7 1 i7 i7 (DJ H5)).x7 ?_⟩;refine⟨_,i5,A0,(O 8 1 i7 i7 (DJ H5)).x7 ?_⟩;refine⟨_,i5,A0,?_⟩
   try dsimp only
   rw[e6,e7,e8];refine H5.store ag 0 i5 i5 3 [xU ka R.p.1,xU ka R.p.2.1,xU ka R.p.2.2] i5 i5 i5 js λa0 T=>⟨A0,?_⟩
   refine⟨⟨i7,i7,i6⟩,(O 9 4 i7 i7 (DJ T)).x7 ?_⟩;refine⟨_,i5,?_⟩
   try dsimp only
   have ew:qd ke (dI ((x.drop 9).take 4))=R.seed:=by rw[e9];unfold qd;simp[qz,vp];omega
   rw[ew];refine T.store ag 0 i5 i5 6 [xU ke R.seed] i5 i5 i5 js λao W=>?_;refine⟨R.p,(W.box 0 i5).GA 3 i5 i5 i5,(eN R.p ao).x8 λah ad=>?_⟩;have B:=W.up ad.ac;refine⟨_,i5,aX (λg=>D (B.aI 2 [1,0]) (by rw[J,g9 λm=>by rw[g]at m;cases m.1])) λg=>?_⟩;have a2:=(bK R.p).1 g;refine⟨R.p.2.2,(B.box 0 i5).um 3 2 i5,?_⟩
   try dsimp only
   rw[af ((13:Int)+R.p.2.2)];refine⟨⟨i7,i6,i6⟩,?_⟩;have ax:((13:Int)+R.p.2.2).toNat-(13:Int).toNat=R.p.2.2.toNat:=i6
   rw[ax];have H:(x.drop 13).take R.p.2.2.toNat=R.data:=p7
   have F:=((DJ B).drop 13 S).take R.p.2.2.toNat mn;rw[H]at F;have a4:R.data.length=R.p.2.2.toNat:=by rw[<-H];simp;omega
   refine(fq ⟨if r.cap=13 then r.ptr else r.ptr.map (·.add (13*1)),R.p.2.2.toNat,r.cap-13⟩ R.data ah F i6).y0 λu a7 am=>?_;have ab:=B.comp am;refine⟨u,i5,?_⟩;refine ab.store ag 0 i5 i5 7 [u] i5 i5 i5 js λU f=>?_;have f:Sp h U [ak a9 166 (bZ (R.object,R.block,R.id,R.p.1,R.p.2.1,R.p.2.2,R.seed,u)),ak s 166 (bZ (0,0,0,0,0,0,0,⟨eH,0,0⟩)),aq 5 r 1 aB x,aq 5 u 1 aB R.data]:=f;obtain⟨X,hX⟩:∃X:bC,X=(R.object,R.block,R.id,R.p.1,R.p.2.1,R.p.2.2,R.seed,u):=⟨_,rfl⟩
   rw[<-hX]at f;have Z:∀{h':f9} {q:aw},Seq h' q u 1 aB R.data->fx.p h' q X R:=λ{h' q} hs=>by rw[hX];exact⟨⟨i5,i5,i5,i5,i5,I⟩,hs⟩
   refine⟨X,(f.box 0 i5).aE _ i5,(oE X R U (Z (f.seq 3 i5 λ_=>rfl))).y0 λs5 ar al=>?_⟩;have o:=f.comp al;refine⟨s5,i5,(ro b s5 c (cD R) ar (hb.up o.ac) (o.seq 4 i5 λ_=>rfl)).x7 ?_⟩;refine⟨_,i5,aX (λQ=>D (o.aI 2 [1,0]) (by rw[J,g9 λm=>(of_decide_eq_false Q) m.2.symm])) λQ=>?_⟩;have Q:c=cD R:=i0 Q;refine⟨X,(o.box 0 i5).aE _ i5,?_⟩;refine o.storeAll ag 1 i5 i5 (bZ X) i5 i5 i5 i5 λbb Y=>?_;have d:dS c=dB R:=by rw[J,g0 ⟨g,Q.symm⟩]
   refine⟨X,(Y.box 1 i5).aE _ i5,X,by rw[d];rfl,λE=>(by rw[d]at E;cases E),λr' z=>?_⟩;rw[d]at z;injection z with z
   subst z;have ap:=Y.bO [3];exact ap.fN 0 i5 λq hq=>Z (hq.1.seq (λ_=>rfl) hq.2)
variable {X Y Z:HP}
section
variable {L:List HP}
theorem aa.aiX(H:aa B h0 h (X::Y::(L++As))):aa B h0 h (L++(X::Y::As)):=
 H.pick (λi=>if i<i4 L then i+2 else if i=i4 L then 0 else if i=i4 L+1 then 1 else i) (λa b c=>j1) λi A d=>j1
theorem aa.Uh(n:Nat)(b:L[n]?=dB X)(H:aa B h0 h (Y::Z::(L++As))):aa B h0 h (X::Z::Y::(L.set n emp++As)):=by
 have a:=H.cons (n+2) (A:=X) j1;have e:(Y::Z::(L++As)).set (n+2) emp=Y::Z::(L.set n emp++As):=j1
 rw[e]at a;exact a.aI 3 [0,2,1]
theorem aa.GB(n:Nat)(e:n<i4 L)(H:aa B h0 h (X::Z::Y::(L.set n emp++As))):aa B h0 h (Y::Z::(L.set n X++As)):=
 H.pick (λi=>if i=0 then 2 else if i=1 then 1 else if i=n+2 then 0 else i+1) (λa b d=>j1) λi A c=>by
  match i,c with
  |0,c=>exact c
  |1,c=>exact c
  |i+2,c=>
   grind
end
structure Kit where
 tS:Nat
 tP:Nat
 tD:Nat
 f:f7->be->Sl->Sl->aW
def ahL(k:Kit)(pw:f7)(a:bL)(d:Option be):HP:=match a,d with
 |some a,dB d=>iS k.tD (k.f pw) a d
 |_,_=>emp
abbrev cU(b:aW)(pw:f7)(offs:Int)(a:List bL):aW:=b++(xW (dB pw)::xU ka offs::a.map .pointer)
structure gN (mc:aW) (da:List bL) (ds:aD):Prop where
 l8:i4 mc=8
 la:i4 da=64
 ls:i4 ds=64
 same:∀i:Nat,(da.getD i eH).isSome=(ds.getD i eH).isSome
abbrev gH(k:Kit)(pw:f7)(a:List bL)(ds:aD):List HP:=List.zipWith (ahL k pw) a ds
def bc(k:Kit)(a pw:f7)(c:aW)(offs:Int)(b:List bL)(w:Pow)(ds:aD):HP:=
 (HP.all (ak a k.tS (cU c pw offs b)::dM k.tP pw w::gH k pw b ds)).and (gN c b ds)
variable {mc:aW} {offs:Int} {da:List bL} {w':Pow} {ds:aD} {d':be} {n:Nat}
section
variable {k:Kit} {pw:f7}
theorem Dj(ok:gN mc da ds):i4 (gH k pw da ds)=64:=by simp[gH,ok.la,ok.ls]
theorem aa.oZ(H:aa B h0 h (bc k a pw mc offs da w ds::As)):gN mc da ds/\aa B h0 h (ak a k.tS (cU mc pw offs da)::dM k.tP pw w::(gH k pw da ds++As)):=by obtain⟨H,ok⟩:=H.HE;exact⟨ok,H.pk⟩
theorem aa.pv(ok:gN mc da ds)(H:aa B h0 h (ak a k.tS (cU mc pw offs da)::dM k.tP pw w::(gH k pw da ds++As))):aa B h0 h (bc k a pw mc offs da w ds::As):=
 (aa.closeAll (ak a k.tS (cU mc pw offs da)::dM k.tP pw w::gH k pw da ds) H).toHE ok
theorem gN.addr(ok:gN mc da ds)(c:ds[n]?=dB (dB d)):∃b,da[n]?=dB (dB b):=by
 have g:n<64:=by have:=(ql.1 c).1;rw[ok.ls]at this;exact this
 have a:=ok.same n;rw[qg,qg,c]at a;have e:n<i4 da:=by rw[ok.la];exact g
 rw[qc e]at a⊢;simp at a;obtain⟨b,f⟩:=yX.1 a;exact⟨b,by rw[f]⟩
theorem gN.YS(ok:gN mc da ds)(d:n<64)(c:ds[n]?=dB eH):da[n]?=dB eH:=by
 have a:=ok.same n;rw[qg,qg,c]at a;have b:n<i4 da:=by rw[ok.la];exact d
 rw[qc b]at a⊢;simp at a;rw[a]
theorem gN.set(ok:gN mc da ds){b:f7}(c:da[n]?=dB (dB b)):gN mc da (ds.set n (dB d')):=by
 refine⟨ok.l8,ok.la,by rw[zf];exact ok.ls,λi=>?_⟩;by_cases a:n=i
 .subst a;have d:n<i4 ds:=by have:=(ql.1 c).1;rw[ok.la]at this;rw[ok.ls];exact this
  rw[qg,c,qg,List.getElem?_set_self d];rfl
 .rw[qg (l:=ds.set n _),wk a,<-qg];exact ok.same i
theorem acl{b:f7}(c:da[n]?=dB (dB b))(e:n<i4 ds):(gH k pw da ds).set n (iS k.tD (k.f pw) b d')=gH k pw da (ds.set n (dB d')):=by
 apply zp;intro j;have d:n<i4 da:=(ql.1 c).1;simp only[gH,qV,wc,y6];by_cases a:n=j
 .subst a;rw[g0 i5,g0 i6,g0 i5,g0 e,c];rfl
 .simp[a]
def NZ(k:Kit)(a pw:f7)(c:aW)(offs:Int)(b:List bL)(ds:aD)(n:Nat):HP:=
 (HP.all (ak a k.tS (cU c pw offs b)::(gH k pw b ds).set n emp)).and (gN c b ds)
theorem aa.iM(H:aa B h0 h (bc k a pw mc offs da w ds::As))(e:ds[n]?=dB (dB d)):∃b,da[n]?=dB (dB b)/\aa B h0 h (iS k.tD (k.f pw) b d::dM k.tP pw w::NZ k a pw mc offs da ds n::As):=by
 obtain⟨ok,i⟩:=H.oZ;obtain⟨b,c⟩:=ok.addr e;refine⟨b,c,?_⟩;have g:(gH k pw da ds)[n]?=dB (iS k.tD (k.f pw) b d):=by simp only[gH,wc,c,e];rfl
 have l:=i.Uh n g;have j:aa B h0 h (iS k.tD (k.f pw) b d::dM k.tP pw w::((ak a k.tS (cU mc pw offs da)::(gH k pw da ds).set n emp)++As)):=l;exact(((aa.closeAll _ j.aiX).toHE ok).aI 3 [1,2,0]:aa B h0 h (iS k.tD (k.f pw) b d::dM k.tP pw w::NZ k a pw mc offs da ds n::As))
theorem aa.nz{b:f7}(l:da[n]?=dB (dB b))(H:aa B h0 h (iS k.tD (k.f pw) b d'::dM k.tP pw w'::NZ k a pw mc offs da ds n::As)):aa B h0 h (bc k a pw mc offs da w' (ds.set n (dB d'))::As):=by
 have j:aa B h0 h (NZ k a pw mc offs da ds n::dM k.tP pw w'::iS k.tD (k.f pw) b d'::As):=H.aI 3 [2,1,0];obtain⟨j,ok⟩:=j.HE;have q:=j.pk;have p:n<i4 ds:=by have:=(ql.1 l).1;rw[ok.la]at this;rw[ok.ls];exact this
 have t:=Dj (k:=k) (pw:=pw) ok;have g:n<i4 (gH k pw da ds):=by rw[t,<-ok.ls];exact p
 obtain⟨L,o⟩:=z6 (gH k pw da ds)
 rw[<-o]at q g;have s:aa B h0 h (iS k.tD (k.f pw) b d'::dM k.tP pw w'::ak a k.tS (cU mc pw offs da)::(L.set n emp++As)):=by
  refine q.pick (λi=>if i=0 then 1+i4 L+1 else if i=1 then 1+i4 L else if i=2 then 0 else if i<3+i4 L then i-2 else i) (λx y c=>by(try dsimp only at c);split at c<;>split at c<;>(try split at c)<;>(try split at c)<;>(try split at c)<;>(try split at c)<;>(try split at c)<;>(try split at c)<;>omega) λi A e=>?_
  try dsimp only
  have d:i4 (ak a k.tS (cU mc pw offs da)::L.set n emp)=1+i4 L:=jj
  match i,e with
  |0,e=>rw[g0 i5,qk i6,d,show 1+i4 L+1-(1+i4 L)=1 by omega];exact e
  |1,e=>rw[g9 i6,g0 i5,qk i6,d,za];exact e
  |2,e=>rw[g9 i6,g9 i6,g0 rfl];exact e
  |i+3,e=>
   rw[g9 i6,g9 i6,g9 i6];rw[qO,qO,qO]at e;by_cases m:i<i4 L
   .rw[g0 i6,show i+3-2=i+1 by omega,qq t8,qO];rw[qq (by simpa using m)]at e;exact e
   .rw[g9 i6,qk t8,d,show i+3-(1+i4 L)=(i-i4 L)+2 by omega,qO,qO];rw[qk jj,zf]at e;exact e
 have r:=aa.GB n g s;rw[o,acl l p]at r;exact r.pv (ok.set l)
end
def iC:jm (Int×Sl) (Int×aL):=⟨λh q a b=>a.1=b.1/\Seq h q a.2 1 aB b.2,λa c=>⟨a.1,a.2.ac c⟩,λa d=>⟨a.1,a.2.mono d⟩⟩
def piv(x:Int×Sl):aW:=[xU ka x.1,x.2]
theorem GC:∀x,∀c∈piv x,c.oneCell'=eS:=by intro x c a;simp[piv]at a;rcases a with rfl|rfl<;>rfl
def gc(a:List bL)(slot:Int):bL:=if 0<=slot/\slot<64 then(a[slot.toNat]?).join else eH
theorem mz{g:aW}{c:List bL}{ds:aD}(ok:gN g c ds)(slot:Int):
  (aT ds slot=eH/\gc c slot=eH)∨∃(n:Nat) (d:be) (b:f7),slot=n/\n<64/\ds[n]?=dB (dB d)/\aT ds slot=dB d/\c[n]?=dB (dB b)/\gc c slot=dB b:=by
 unfold aT gc;by_cases h:0<=slot/\slot<64
 .rw[g0 h,g0 h];have f:slot.toNat<i4 ds:=by rw[ok.ls];omega
  cases hd:ds[slot.toNat]with
  |none=>
   have a:ds[slot.toNat]?=dB eH:=by rw[qc f,hd]
   exact .inl ⟨sp,by rw[ok.YS i6 a];rfl⟩
  |some d=>
   have a:ds[slot.toNat]?=dB (dB d):=by rw[qc f,hd]
   obtain⟨b,e⟩:=ok.addr a;exact .inr ⟨slot.toNat,d,b,i6,i6,a,sp,e,m7⟩
 .rw[g9 h,g9 h];exact .inl ⟨i5,i5⟩
theorem px{a:aW}{pw:f7}{offs:Int}{b:List bL}(h8:i4 a=8)(n:Nat):(cU a pw offs b)[10+n]?=(b[n]?).map .pointer:=by unfold cU;rw[qk i6,h8,show 10+n-8=n+1+1 by omega,qO,qO,qR]
theorem PF{a:aW}{pw:f7}{offs:Int}{b:List bL}(h8:i4 a=8):(cU a pw offs b)[8]?=dB (xW (dB pw)):=by unfold cU;rw[qk i6,h8];rfl
theorem VU{a:aW}{pw:f7}{offs:Int}{b:List bL}(h8:i4 a=8):(cU a pw offs b)[9]?=dB (xU ka offs):=by unfold cU;rw[qk i6,h8];rfl
abbrev bi:Qw.Kit:=⟨75,126,168,λpw=>fQ pw⟩
theorem PG{e:TypeId}(s:Sl)(l:av)(h:f9)(c:Own h e s 1 az l)(a:i4 l<2^40):ai kg 195 #[s] h λv h'=>v=xV s.ptr (Lib.compact l).length s.cap/\Own h' e ⟨s.ptr,i4 (Lib.compact l),s.cap⟩ 1 az (Lib.compact l)/\aS (λb=>¬s.on b) h h':=
 Je Tryz.slices_Compact_int Tryz.slices_Compact_int_empty c a
section
variable {pw:f7}
theorem lC(slot:Int)(ok:gN mc da ds)(d:bN h a 75 (cU mc pw offs da)):ai kg 29 #[xW (dB a),xU ka slot] h λv h'=>v=.pointer (gc da slot)/\h'=h:=by
 refine ts Tryz.func29 ?_ (xc (x6 [] [(4,15)] v6));have b:¬(0<=slot/\slot<64)->Value.pointer eH=.pointer (gc da slot)/\h=h:=λe=>by unfold gc;rw[g9 e];exact⟨i5,i5⟩
 refine aJ (aP (λe=>j3) λ_=>ae (λe=>b i6) λf=>ae (λe=>b i6) λe2=>?_);have c:slot.toNat<i4 da:=o8
 refine⟨a,i5,⟨i6,i6⟩,da[slot.toNat],?_,?_,i5⟩
 .rw[zG];refine d.um 10 slot.toNat ?_;rw[px ok.l8,qc c];rfl
 .unfold gc;rw[g0 i6,qc c];rfl
theorem aa.cj(H:aa B h0 h (bc bi a pw mc offs da w ds::As)):gN mc da ds/\bN h a 75 (cU mc pw offs da):=by obtain⟨ok,b⟩:=Qw.aa.oZ H;exact⟨ok,b.box 0 i5⟩
theorem Jw(s:Sl)(l:av)(x:Rd h s 1 az l)(L:i4 l<=2^30)(H:aa B h0 h (bc bi a pw mc offs da w ds::As)):
  ai kg 77 #[.func (.func 29) #[xW (dB a)] #[],s] h λv h'=>∃r:Sl,v=r/\Sp h h' [aq 3 r 1 az (aK ds l)]:=by
 refine ts Tryz.func77 ?_ (xc (xc (x0 [(5,cE),(11,aR)] [(5,6),(7,9),(11,30)]))) (args:=[(.func (.func 29) #[xW (dB a)] #[]),s]);have D:=x.len;obtain⟨ok,u⟩:=aa.cj H;refine an (λt:Sl×Nat=>(t.1,(t.2:Int))) (λt h'=>t.2<=i4 l/\Sp h h' [aq 3 t.1 1 az (aK ds (l.take t.2))]) (λt=>i4 l-t.2) (⟨eH,0,0⟩,0) i5 ⟨js,by simpa[aK]using(Sp.refl h).nil 3 1 az⟩ ?_;rintro⟨o,i⟩ K ⟨M,j⟩;dsimp only at*;refine ae (λe=>?_) (λe=>?_)
 .have p:i<i4 l:=i6
  have c:aK ds (l.take (i+1))=aK ds (l.take i)++(if isLive ds l[i]then[l[i]]else[]):=by unfold aK;rw[aG _ _ p,zk,zN,vN]
  have A:i4 (aK ds (l.take i))<=i4 l:=by have:=qE (isLive ds) (l.take i);unfold aK;simp at this⊢;omega
  have next:∀{h':f9} {k:Sl},Sp h h' [aq 3 k 1 az (aK ds (l.take (i+1)))]->∃m:Sl×Nat,((⟨k.ptr,k.len,k.cap⟩:Sl),qd ka ((i:Int)+1))=(m.1,(m.2:Int))/\(m.2<=i4 l/\Sp h h' [aq 3 m.1 1 az (aK ds (l.take m.2))])/\l.length-m.2<i4 l-i:=λ{h' k} H'=>
   ⟨(k,i+1),j0,⟨i9,H'⟩,i9⟩
  refine(Seq.up x j.ac).bm i i5 p l[i] i5 (eJ k8 ?_);refine(lC l[i] ok (u.ac j.ac u.lt)).x7 ⟨_,i5,?_⟩;rcases mz ok l[i]with⟨c1,c2⟩|⟨n,d,b,c0,c1,c2,c3,c4,c5⟩
  .rw[c2];have g:isLive ds l[i]=eX:=by unfold isLive;rw[c1]
   rw[g]at c;refine aX (λe=>j3) λ_=>next (by rw[c];simpa using j)
  .rw[c5];have g:isLive ds l[i]=!d.lost:=by unfold isLive;rw[c3]
   refine aX (λ_=>?_) λe=>j3
   obtain⟨J,f,z⟩:=Qw.aa.iM (aa.up H j.ac) c2;rw[c4]at f;injection f with f
   injection f with f
   subst f;obtain⟨y,F,q,_,_⟩:=jJ.box z;refine(Bd y F q).x7 ⟨_,i5,aX (λe=>?_) λe=>?_⟩
   .rw[g,e]at c;refine j.push ag 0 i5 gz i5 i7 (λ_=>rfl) eZ l[i] i5 i7 i6 λk G E=>next ?_
    rw[c];exact E
   .rw[g,e]at c;exact next (by rw[c];simpa using j)
 .rw[qh i6]at j;exact⟨o,i5,j⟩
theorem Jx(s:Sl)(l:av)(R:St B h0 As λh=>Rd h s 1 az l)(hl:i4 l<=2^30)(A:∀x∈l,0<=x/\x<64)(H:aa B h0 h (bc bi a pw mc offs da w ds::As)):
  ai kg 127 #[.func (.func 29) #[xW (dB a)] #[],s] h λv h'=>v=xU ka (fp (cL l) w ds).1/\aa B h0 h' (bc bi a pw mc offs da (fp (cL l) w ds).2.1 (fp (cL l) w ds).2.2::As):=by
 refine ts Tryz.func127 ?_ (xc (xc (xc (x0 [(15,aR)] [(4,5),(6,8),(15,27)])))) (args:=[(.func (.func 29) #[xW (dB a)] #[]),s]);refine(ig s l h (R.at [_] H) i6).y0 λr W N=>?_;have K:=H.bS N;refine⟨r,i5,(EZ r l W (K.own 0 i5) i6).x8 λQ ⟨I,X⟩=>?_⟩;have V:=K.nQ 0 i5 X I;refine⟨(),i5,(PG r (gC l) Q I (by rw[Ew];omega)).x8 λh3 ⟨Y,L⟩=>?_⟩;have z:=V.step (D:=aq 3 ⟨r.ptr,i4 (Lib.compact (gC l)),r.cap⟩ 1 az (Lib.compact (gC l))) 0 i5 λq E F=>⟨L.mono λb _ m y=>m (E.2 b y),Y,λb m=>⟨qT (F b (E.2 b m)) L.1,.inl (E.2 b m)⟩⟩
 rw[Vr l A]at z⊢;obtain⟨u,M⟩:=z6 (cL l)
 rw[<-M]at z⊢;have U:i4 u<=64:=by have:=qE (λi=>decide (i∈l)) ((qn 64).map λi:Nat=>(i:Int));rw[M];unfold cL;simpa using this
 refine⟨⟨r.ptr,i4 u,r.cap⟩,i5,?_⟩;refine an (λt:Nat×Pow×aD=>(t.1:Int)) (λt h'=>t.1<=i4 u/\fp u w ds=fp (u.drop t.1) t.2.1 t.2.2/\aa B h0 h' (aq 3 ⟨r.ptr,i4 u,r.cap⟩ 1 az u::bc bi a pw mc offs da t.2.1 t.2.2::As)) (λt=>i4 u-t.1) (0,w,ds) i5 ⟨js,i5,z⟩ ?_;rintro⟨i,j,f⟩ Z ⟨hi,c,p⟩;dsimp only at*;refine ae (λe=>?_) (λe=>?_)
 .have o:i<i4 u:=i6
  obtain⟨ok,m⟩:=aa.cj p.rest;rw[qJ o,ut]at c;refine(p.seq 0 i5 λ_=>rfl).bm i i5 o u[i] i5 (eJ k8 ?_);refine(lC u[i] ok m).mono ?_;rintro _ O ⟨rfl,rfl⟩;refine⟨_,i5,?_⟩;rcases mz ok u[i]with⟨c1,c2⟩|⟨n,d,b,c0,c1,c2,c3,c4,c5⟩
  .rw[c2];refine(PB O).mono ?_;rintro _ P ⟨rfl,rfl⟩;have G:ic j f u[i]=(5,j,f):=by unfold ic;rw[c1]
   rw[G]at c;refine⟨5,i5,bH (λ_=>?_) λe=>absurd e i7⟩;have:fp u w ds=(5,j,f):=c;rw[this];exact⟨i5,p.rest⟩
  .rw[c5];obtain⟨b',g,S⟩:=Qw.aa.iM (p.aI 2 [1,0]) c2;rw[c4]at g;injection g with g
   injection g with g
   subst g;refine(YJ S).x8 λP T=>?_;have J:=Qw.aa.nz (k:=bi) (n:=n) c4 T;have G:ic j f u[i]=((d.sync j).1,(d.sync j).2.1,f.set n (dB (d.sync j).2.2)):=by unfold ic;rw[c3];simp only[ck,c0,qj]
   rw[G]at c;refine⟨_,i5,bH (λe2=>?_) λe2=>?_⟩
   .have:fp u w ds=((d.sync j).1,(d.sync j).2.1,f.set n (dB (d.sync j).2.2)):=by rw[c];exact g9 e2
    rw[this];exact⟨i5,J.pL⟩
   .refine⟨(i+1,(d.sync j).2.1,f.set n (dB (d.sync j).2.2)),j0,⟨i9,?_,J.aI 2 [1,0]⟩,i9⟩;rw[c];exact g0 e2
 .rw[qY i6]at c;rw[c];exact⟨i5,p.rest⟩
end
theorem HP.Cj{h:f9}:∀{L:List HP} {q:aw} {i:Nat} {A:HP},(HP.all L).p h q->L[i]?=dB A->A.p h q
 |A::L,q,0,A',⟨q1,q2,_,b,_,d,_⟩,hi=>by simp at hi;subst hi;exact A.mono d b
 |A::L,q,i+1,A',⟨q1,q2,_,_,c,_,e⟩,hi=>A'.mono (HP.Cj e (by simpa using hi)) c
 |[],_,i,_,_,hi=>by simp at hi
variable {β:Type} {e e2:Nat} {ll:List (List α)}
section
variable {f:α->aW}
theorem aa.VV(H:aa B h0 h (fC e s e2 k f ll::As))(m:∀x,i4 (f x)=k):∃rs,aa B h0 h (dn (cG k f) 1 bx s rs ll::As):=by
 obtain⟨rs,H⟩:=H.sI;obtain⟨H,d⟩:=H.HE;refine⟨rs,H.fN 0 i5 λq c=>⟨?_,d,λi r l b a=>?_⟩⟩
 .have:=HP.Cj (i:=0) c i5;exact this.1.seq (λ_=>rfl) this.2
 .have g:i<i4 ll:=(ql.1 a).1;have j:=fo (e:=e2) (k:=k) (f:=f) d i g;have:=HP.Cj (i:=i+1) c (by simpa using j);have n:rs[i]'i6=r:=by rw[qc i6]at b;simpa using b
  have e2:ll[i]=l:=by rw[qc g]at a;simpa using a
  rw[n,e2]at this;exact this.1.seq m this.2
end
def bA(m:au)(a:av):List (Int×aL):=a.flatMap λn=>(ba m).map λc=>(n,c)
theorem jg{m:au}{a:av}{x:Int×aL}(h:x∈bA m a):x.1∈a/\x.2.length=64:=by unfold bA at h;obtain⟨n,e,b⟩:=zM.1 h;obtain⟨c,d,rfl⟩:=qo.1 b;exact⟨e,uv d⟩
theorem iN(m:au)(a:cw m):i4 (ba m)<=3000:=by have:=Il m a;unfold ba iT;simp;omega
abbrev Fe:bV C.toBX 107 153 2 [xU ka 0,xV eH 0 0] 32:=⟨_,_,i5,i5,i5,i5,i5,i5⟩
section
variable {pw:f7}
theorem tp(s:Sl)(u:List (Int×Sl))(P:List (Int×aL))(I:St B h0 As λh=>oz iC 2 piv h s u P)(hl:i4 P<=2^30)(E:∀x∈P,(0<=x.1/\x.1<64)/\x.2.length<=2^20)(H:aa B h0 h (bc bi a pw mc offs da w ds::As)):
  ai kg 60 #[.func (.func 29) #[xW (dB a)] #[],s] h λv h'=>v=xU ka (layAll P w ds).1/\aa B h0 h' (bc bi a pw mc offs da (layAll P w ds).2.1 (layAll P w ds).2.2::As):=by
 refine ts Tryz.func60 ?_ (xc (xc (u9 (xc (v7 (ws [(5,cE),(11,aR)] [(4,6),(7,9),(11,31)] (xc (xc (u9 (v7 (xc (u9 (xa [] [(4,5),(8,9),(15,25)] (x6 [(8,aR)] [(8,9),(15,22)] v6)) v6))) v6)))))) v6))) [(5,(.l [0,1,2,4,5,3,6,7]))] (args:=[(.func (.func 29) #[xW (dB a)] #[]),s]);have ab:=(I.at [_] H).1.len;have ad:=(I.at [_] H).2.1;have Y:=(H.nil 3 1 az).aZ;refine an (λt:Sl×Nat×Pow×aD=>(t.1,(t.2.1:Int))) (λt h'=>t.2.1<=i4 P/\lM P w ds=lM (P.drop t.2.1) t.2.2.1 t.2.2.2/\aa B h0 h' (aq 3 t.1 1 az ((P.take t.2.1).map qD)::bc bi a pw mc offs da t.2.2.1 t.2.2.2::As)) (λt=>i4 P-t.2.1) (⟨eH,0,0⟩,0,w,ds) i5 ⟨js,i5,by simpa using Y⟩ ?_;rintro⟨o,i,z,r⟩ h1 ⟨hi,f,J⟩;dsimp only at*;refine ae (λe=>?_) (λe=>?_)
 .have q:i<i4 P:=i6
  rw[qJ q,xg]at f;have S:=I.at [_,_] J;have N:=E _ (qe q);refine S.1.dO (g:=piv) i i5 i6 (u[i]'i6) i5 ?_;refine J.alloc ag i5 λa4 U D=>?_;have D:=D.aZ;refine D.storeAll ag 0 i5 i5 (piv (u[i]'i6)) i5 i5 i5 i5 λh3 m=>?_;obtain⟨Q,O⟩:=Fix.row (I.at [_,_,_] m) q;have m:=m.aI 3 [2,0,1];obtain⟨ok,hb⟩:=aa.cj m;obtain⟨c,p⟩:=z6 (gv z r P[i].1 P[i].2)
  rw[<-p]at f;refine bF (λ_ h'=>c.1=0/\aa B h0 h' (bc bi a pw mc offs da c.2.1 c.2.2::ak a4 153 (piv (u[i]'i6))::aq 3 o 1 az ((P.take i).map qD)::As)) ?_ ?_
  .refine bF (λe h'=>e=c.1/\aa B h0 h' (bc bi a pw mc offs da c.2.1 c.2.2::ak a4 153 (piv (u[i]'i6))::aq 3 o 1 az ((P.take i).map qD)::As)) ?_ ?_
   .refine⟨P[i].1,by rw[<-Q];exact(m.box 1 i5).cell0 i5,(u[i]'i6).2,(m.box 1 i5).cell i5,eJ k8 ?_⟩;refine(lC P[i].1 ok hb).mono ?_;rintro _ K ⟨rfl,rfl⟩;refine⟨_,i5,⟨(m.box 1 i5).cell i5,A0⟩,?_⟩;rcases mz ok P[i].1 with⟨c1,c2⟩|⟨n,d,b,c0,c1,c2,c3,c4,c5⟩
    .rw[c2];refine(Lf (u[i]'i6).2 P[i].2 K O).mono ?_;rintro _ R ⟨rfl,rfl⟩;have F:c=(if P[i].2.length≠64 then 1 else 5,z,r):=by rw[p];unfold gv;rw[c1]
     refine⟨_,i5,A0,by rw[F],?_⟩;rw[F];exact m
    .rw[c5];obtain⟨b',j,M⟩:=Qw.aa.iM m c2;rw[c4]at j;injection j with j
     injection j with j
     subst j;refine(GZ (u[i]'i6).2 P[i].2 M O N.2).x8 λh6 W=>?_;have V:=Qw.aa.nz (k:=bi) (n:=n) c4 W;have F:c=((d.append z P[i].2).1,(d.append z P[i].2).2.1,r.set n (dB (d.append z P[i].2).2.2)):=by rw[p];unfold gv;rw[c3];simp only[ck,c0,qj]
     refine⟨_,i5,A0,by rw[F],?_⟩;rw[F];exact V
   .rintro e4 K ⟨rfl,G⟩;refine bH (λe2=>?_) λe2=>⟨e2,G⟩
    rw[g9 e2]at f;have:layAll P w ds=c:=by unfold layAll;rw[f];exact g9 e2
    rw[this];exact⟨i5,G.pL.pL⟩
  .rintro _ K ⟨e2,G⟩;rw[g0 e2]at f;refine⟨P[i].1,by rw[<-Q];exact(G.box 1 i5).cell0 i5,?_⟩;refine G.push ag 2 i5 gz i5 i7 (λ_=>rfl) eZ P[i].1 i5 i7 jj λT R M=>?_;refine⟨(T,i+1,c.2.1,c.2.2),j0,⟨i9,f,?_⟩,i9⟩
   try dsimp only
   rw[aG _ _ q,qP];exact M.aI 3 [2,0]
 .have L:i=i4 P:=i6
  subst L;rw[List.drop_length]at f;rw[qL]at J;have D:=(J.freeze 0 i5 λ_=>rfl).aI 2 [1,0];have A:layAll P w ds=fp (cL (P.map qD)) z r:=by unfold layAll;rw[f];rfl
  refine(Jx o (P.map qD) (St.cR 0 i5 λh' Z=>Z) jj (λx hx=>?_) D).mono ?_
  .obtain⟨y,X,rfl⟩:=qo.1 hx;exact(E y X).1
  .rintro _ U ⟨rfl,m⟩;refine⟨_,i5,by rw[A],?_⟩;rw[A];exact m.pL
theorem BD(x:bw)(m:au)(s:Sl)(a:av)(h:f9)(Z:cN h x m)(I:cw m)(W:Rd h s 1 az a)(al:i4 a<=2^10):
  ai kg 61 #[eO x,s] h λv h'=>∃(r:Sl) (Y:List (Int×Sl)),v=r/\Sp h h' [dn iC 2 piv r Y (bA m a)]:=by
 refine ts Tryz.func61 ?_ (xc (xc (xc (u9 (xc (v7 (ws [(6,cE),(15,aR)] [(6,7),(8,9),(10,11),(15,33)] (xc (xc (u9 (v7 (xc (xc (v7 (ws [(6,cE),(21,aR)] [(6,7),(10,11),(21,32)] v6))))) v6)))))) v6)))) (args:=[x,s]);refine(Sp.refl h).boxed λa1 V O=>?_;refine⟨x,(O.box 0 i5).aE _ i5,(lm x m V (Z.up O.ac) I).y0 λr h2 R2=>?_⟩;have D:=O.bS R2;refine⟨r,i5,?_⟩;obtain⟨rs,D⟩:=D.VV λ_=>rfl;have N:=iN m I;obtain⟨d,A⟩:=z6 (ba m)
 rw[<-A]at D N;have U:=D.dZ 0 i5;have ah:=U.1.len;have ad:=U.2.1;have ab:=W.len;obtain⟨T,H⟩:∃T:Int->List ((Int×Sl)×(Int×aL)),T=λn=>(rs.zip d).map λz=>((n,z.1),(n,z.2)):=⟨_,rfl⟩
 have f:∀n,i4 (T n)=i4 d:=λn=>by rw[H];simp;omega
 have L:∀n,(T n).map zw=d.map λc=>(n,c):=λn=>by
  have I:=List.map_snd_zip (l₁:=rs) (l₂:=d) i6
  conv=>rhs;rw[<-I]
  rw[H];simp[yf,Function.comp_def]
 have Q:∀n j (M:j<i4 d),(T n)[j]'(by rw[f];exact M)=((n,rs[j]'i6),(n,d[j])):=λn j M=>by subst H;simp
 have g:=(D.nil 153 2 piv).bO [2,0];have F:∀i,i<=i4 a->i4 ((a.take i).flatMap T)<=i*3000:=λi=>by
  induction i with
  |zero=>simp
  |succ i ih=>
   intro S;rw[aG _ _ (show i<i4 a by omega),zb,qu];have V:=ih i6;have h2:i4 ([a[i]].flatMap T)=i4 d:=by rw[zg,wg,qI,f]
   omega
 refine an (λt:Sl×Nat=>(t.1,(t.2:Int))) (λt h'=>t.2<=i4 a/\Sp h h' [aq 153 t.1 2 piv (((a.take t.2).flatMap T).map qD),dn (cG 1 aB) 1 bx r rs d]) (λt=>i4 a-t.2) (⟨eH,0,0⟩,0) i5 ⟨js,g⟩ ?_;rintro⟨o,i⟩ h3 ⟨S,g⟩;dsimp only at*;refine ae (λe=>?_) (λe=>?_)
 .have E:i<i4 a:=i6
  have ht:=F i S;have hb:i*3000<=2^10*3000:=zi _ i6;refine(Seq.up W g.ac).bm i i5 E a[i] i5 ?_;refine an (λt:Sl×Nat=>(t.1,(t.2:Int))) (λt h'=>t.2<=i4 d/\Sp h h' [aq 153 t.1 2 piv (((a.take i).flatMap T).map qD++((T a[i]).take t.2).map qD),dn (cG 1 aB) 1 bx r rs d]) (λt=>i4 d-t.2) (o,0) i5 ⟨js,tg⟩ ?_;rintro⟨u,j⟩ h4 ⟨M,w⟩;dsimp only at*;refine ae (λe2=>?_) (λe2=>?_)
  .have y:j<i4 d:=i6
   refine(w.dZ 1 i5).1.mi j i5 i6 ?_;refine w.push ag 0 i5 Fe i5 i7 (λ_=>rfl) GC (a[i],rs[j]'i6) i5 i7 (by simp only[qu,qp,qH,f];omega) λu' h5 H5=>?_;refine⟨(u',j+1),j0,⟨i9,?_⟩,i9⟩
   try dsimp only
   rw[aG (T a[i]) j (by rw[f];exact y),qP,Q _ _ y,<-qm];exact H5
  .have P:j=i4 d:=i6
   subst P;rw[qh (l:=T a[i]) (by rw[f];exact qi _)]at w;refine⟨(u,i+1),j0,⟨i9,?_⟩,i9⟩
   try dsimp only
   rw[aG _ _ E,zb,qP,zg,wg,qI];exact w
 .have J:i=i4 a:=i6
  subst J;rw[qL]at g;refine⟨o,(a.flatMap T).map qD,i5,?_⟩;have w:=(g.freeze 0 i5 λ_=>rfl).mh;refine w.fN 0 i5 λq ⟨q1,q2,_,b,c,X,z2⟩=>?_;have B:(a.flatMap T).map zw=bA m a:=by unfold bA;rw[List.map_flatMap,<-A];congr 1;funext n;exact L n
  rw[<-B];refine⟨z2.mono c,js,λj r' l' p G=>?_⟩;rw[qR]at p G;cases g3:(a.flatMap T)[j]? with
  |none=>rw[g3]at p;cases p
  |some t=>
   rw[g3]at p G;simp at p G;subst p;subst G;obtain⟨n,_,R⟩:=zM.1 (yz g3);rw[H]at R;obtain⟨z,K,rfl⟩:=qo.1 R;obtain⟨k,hk,rfl⟩:=List.mem_iff_getElem.1 K;rw[y8];exact⟨i5,(X.2.2 k _ _ (qc _) (qc _)).mono b⟩
end
section
variable {d:List bC}
theorem VW{b c:List bC}{y:bC}(d:Sd cA (b++c))(f:∀z∈b,cA z y=eS)(g:∀z∈c,¬cA z y=eS):Sd cA (b++y::c):=
 Sd.app eT d.left (zu.2 ⟨λz a=>eT.Ez (g z a),d.right⟩) λx e z a=>by
  rcases qX.1 a with rfl|a
  .exact f x e
  .exact d.Gn x e z a
theorem Ck(X M Y:List bC)(a b:Int)(ha:a=(i4 X:Int))(hb:b=(i4 X+i4 M:Nat))(al:i4 X+i4 M+i4 Y<=2^40)(H:aa B h0 h (cx s (X++(M++Y))::As)):
  ai kg 303 #[s,xU ka a,xU ka b,.func (.func 173) #[] #[]] h λv h'=>v=.tuple #[]/\∃M',Sd cA M'/\cC cA M M'/\aa B h0 h' (cx s (X++(M'++Y))::As):=by
 refine ts Tryz.func303 ?_ (xc (v7 (ws [(8,aR)] [(8,10),(12,53)] (xc (u9 (v7 (xc (v7 (ws [(9,aR)] [(9,10),(18,53)] (x6 [] [(18,35)] v6))))) v6))))) (args:=[s,(a:Int),(b:Int),(.func (.func 173) #[] #[])]);subst ha;subst hb;rw[af ((i4 X:Int)+1)];refine an (λt:Nat×List bC=>((i4 X+1+t.1:Nat):Int)) (λt h'=>(t.1+1<=i4 M∨t.1=0)/\Sd cA t.2/\cC cA (M.take (t.1+1)) t.2/\t.2.length=i4 (M.take (t.1+1))/\aa B h0 h' (cx s (X++(t.2++(M.drop (t.1+1)++Y)))::As)) (λt=>i4 M-t.1) (0,M.take 1) i5 ?_ ?_
 .refine⟨.inr i5,?_,cC.refl _,i5,?_⟩
  .cases M with
   |nil=>exact List.Pairwise.nil
   |cons x M=>exact zu.2 ⟨λ_ h=>p5,js⟩
  .rw[<-qm (M.take (0+1)),qy];exact H
 rintro⟨t,P⟩ h1 ⟨ht,r,E,ad,O⟩;dsimp only at*;refine ae (λe=>?_) (λe=>?_)
 .have J:t+1<i4 M:=i6
  obtain⟨y,hy⟩:=z6 (M[t+1])
  have I:i4 P=t+1:=by rw[ad];simp;omega
  have eD:M.drop (t+1)=y::M.drop (t+1+1):=by rw[qJ J,hy]
  rw[eD]at O;refine an (λu:List bC×List bC=>((i4 X+i4 u.1:Nat):Int)) (λu h'=>u.1++u.2=P/\(∀z∈u.2,¬cA z y=eS)/\aa B h0 h' (cx s (X++(u.1++(y::(u.2++(M.drop (t+1+1)++Y)))))::As)) (λu=>i4 u.1) (P,[]) (by dsimp only;rw[I];congr 1;omega) ⟨js,js,by simpa using O⟩ ?_;rintro⟨c,d⟩ Z ⟨L,f,N⟩;dsimp only at*;have ah:i4 c+i4 d=t+1:=by rw[<-I,<-L,qu]
  have l:∀{h':f9},(∀z∈c,cA z y=eS)->aa B h0 h' (cx s (X++(c++(y::(d++(M.drop (t+1+1)++Y)))))::As)->
    ∃k:Nat×List bC,qd ka (((i4 X+1+t:Nat):Int)+1)=((i4 X+1+k.1:Nat):Int)/\((k.1+1<=i4 M∨k.1=0)/\Sd cA k.2/\cC cA (M.take (k.1+1)) k.2/\k.2.length=i4 (M.take (k.1+1))/\aa B h0 h' (cx s (X++(k.2++(M.drop (k.1+1)++Y)))::As))/\M.length-k.1<i4 M-t:=λ{h'} hle H'=>by
   refine⟨(t+1,c++y::d),by dsimp only;rw[af _];omega,⟨.inl i9,?_,?_,?_,?_⟩,i9⟩
   .exact VW q0 hle f
   .try dsimp only
    rw[aG M (t+1) J,<-hy];have h1:cC cA (M.take (t+1)++[y]) (P++[y]):=E.app (cC.refl _);refine h1.trans ?_;rw[<-L,qm];have Z:cC cA (d++[y]) ([y]++d):=cC.XX eT λx hx z U=>by rw[qw.1 U];exact f x hx
    exact(cC.refl _).app Z
   ·(try dsimp only);simp;omega
   .try dsimp only
    have:X++((c++y::d)++(M.drop (t+1+1)++Y))=X++(c++(y::(d++(M.drop (t+1+1)++Y)))):=js
    rw[this];exact H'
  obtain⟨D,R⟩:=z6 (X++(c++(y::(d++(M.drop (t+1+1)++Y)))))
  refine bF (λ_ h'=>∃(Q:List bC) (z:bC),c=Q++[z]/\¬cA z y=eS/\aa B h0 h' (cx s D::As)) ?_ ?_
  .rw[<-R]at N l;refine ae (λe2=>?_) (λe2=>⟨A0,l (λz U=>?_) N⟩)
   .have K:c≠[]:=λh=>by rw[h]at e2;simp at e2
    obtain⟨Q,z,o⟩:∃(Q:List bC) (z:bC),c=Q++[z]:=⟨c.dropLast,c.getLast K,(List.dropLast_concat_getLast K).symm⟩
    have ab:i4 c=i4 Q+1:=by rw[o];simp
    have g1:D[i4 X+i4 c]?=dB y:=by rw[R,qk i6,show X.length+i4 c-i4 X=i4 c by omega,qk i6,za];rfl
    have g2:D[i4 X+i4 c-1]?=dB z:=by rw[R,qk i6,show X.length+i4 c-1-i4 X=i4 Q by omega,o,qm,qk (qi _),za];rfl
    obtain⟨S,F⟩:=ql.1 g1;obtain⟨T,q⟩:=ql.1 g2;refine(N.seq 0 i5 λ_=>rfl).dO (g:=bZ) _ i5 S y (by rw[F]) ?_;have V:qd ka (((i4 X+i4 c:Nat):Int)-1)=((i4 X+i4 c-1:Nat):Int):=j7
    rw[V];refine(N.seq 0 i5 λ_=>rfl).dO (g:=bZ) _ i5 T z (by rw[q]) (eJ k8 ?_);refine(rn y z Z).x8 λh3 R3=>?_;have G:=N.up R3.ac;refine⟨_,i5,A0,ae (λW=>⟨Q,z,o,(se y z).1 W,G⟩) λW=>l (λw m=>?_) G⟩;have p:cA z y=eS:=by
     by_cases hc:cA z y=eS
     .exact hc
     .exact absurd ((se y z).2 hc) W
    rw[o]at m;rcases qt.1 m with m|m
    .refine eT.trans _ _ _ ?_ p;have:Sd cA (Q++[z]):=by rw[<-o];exact Sd.left (v:=d) q0
     exact this.Gn w m z js
    .rw[qw.1 m];exact p
   .have:c=[]:=by
     cases c with
     |nil=>rfl
     |cons x P=>exfalso;simp only[q8]at e2;omega
    rw[this]at U;cases U
  .rintro _ h3 ⟨Q,z,o,p,G⟩;have ab:i4 c=i4 Q+1:=by rw[o];simp
   have A:D=(X++Q)++z::([]++y::(d++(M.drop (t+1+1)++Y))):=by rw[R,o];simp
   obtain⟨q1,q2,q3,q4⟩:=PC (X++Q) [] (d++(M.drop (t+1+1)++Y)) z y (i:=i4 X+i4 c-1) (j:=i4 X+i4 c) jj jj;rw[<-A]at q1 q2 q3 q4;obtain⟨T,q⟩:=ql.1 q1;obtain⟨S,F⟩:=ql.1 q2;have V:qd ka (((i4 X+i4 c:Nat):Int)-1)=((i4 X+i4 c-1:Nat):Int):=j7
   rw[V];refine(G.seq 0 i5 λ_=>rfl).dO (g:=bZ) _ i5 T z (by rw[q]) ?_;refine(G.seq 0 i5 λ_=>rfl).dO (g:=bZ) _ i5 S y (by rw[F]) ?_;refine G.set ag 0 i5 (λ_=>rfl) i5 (i4 X+i4 c) i5 S z i5 i5 i5 λh4 H4=>⟨A0,?_⟩
   refine H4.set ag 0 i5 (λ_=>rfl) i5 (i4 X+i4 c-1) i5 (by simpa using T) y i5 i5 i5 λh5 H5=>⟨A0,?_⟩
   refine⟨(Q,z::d),by dsimp only;congr 1;omega,⟨by dsimp only;rw[<-L,o];simp,?_,?_⟩,i9⟩
   .try dsimp only
    intro w m;rcases qX.1 m with rfl|m
    .exact p
    .exact f w m
   .try dsimp only
    have:X++(Q++(y::(z::d++(M.drop (t+1+1)++Y))))=(X++Q)++y::([]++z::(d++(M.drop (t+1+1)++Y))):=js
    rw[this,<-q4];exact H5
 .refine⟨i5,P,r,?_,?_⟩
  .rw[qh i6]at E;exact E
  .rw[qY i6]at O;simpa using O
end
theorem GD(x y:Nat)(h:x+y<=2^62:=by omega):qd ka (zr (qd kf (qd ka ((x:Int)+(y:Int)))) (2^min (1:Int).toNat (qz kf)))=(((x+y)/2:Nat):Int):=by
 rw[af ((x:Int)+y)];have e:qd kf ((x:Int)+(y:Int))=(x:Int)+y:=by unfold qd;simp[qz,vp];omega
 rw[e,show min (1:Int).toNat (qz kf)=1 from i5,Int.fdiv_eq_ediv_of_nonneg _ i7,af _];omega
section
variable {d:List bC}
theorem BE{x y:bC}(h:¬my x y<0):cA y x=eS:=by
 by_cases a:cA y x=eS
 .exact a
 .exact absurd ((se x y).2 a) h
theorem kR{K:bC->Prop}(H:aa B h0 h (cx s d::As)){i:Int}(n:Nat)(j:i=n){x:bC}(c:d[n]?=dB x)(f:K x):
  ∃a:f7,(s.ptr=dB a/\0<=i/\i<((s.len:Nat):Int))/\∃x:bC,bt h (a.add (i.toNat*8)) 0 (bZ x)/\K x:=by
 obtain⟨b,e⟩:=ql.1 c;exact(H.seq 0 i5 λ_=>rfl).dO (g:=bZ) n j b x (by rw[e]) f
theorem Li(x:bC)(X R Y:List bC)(ad:i4 X+1+i4 R+i4 Y<=2^40)(F:Sd cA R)(H:aa B h0 h (cx s (X++(x::(R++Y)))::As)){K:tJ}
  (f:∀h',(∃M,Sd cA M/\cC cA (x::R) M/\aa B h0 h' (cx s (X++(M++Y))::As))->K (.tuple #[]) h') (a m b:Int) (ha:a=(i4 X:Int)) (hm:m=(i4 X+1:Nat)) (hb:b=(i4 X+1+i4 R:Nat)):
  iu (σ:=Int×Int) (λc K1 g=>
   Br (decide (c.1<c.2))
   ((0<=(1:Int))/\
   ∃a2:f7,(s.ptr=dB a2/\0<=(qd ka (zr (qd kf (qd ka (c.1+c.2))) (2^min (1:Int).toNat (qz kf))))/\(qd ka (zr (qd kf (qd ka (c.1+c.2))) (2^min (1:Int).toNat (qz kf))))<((s.len:Nat):Int))/\
   ∃x3:bC,bt g (a2.add ((qd ka (zr (qd kf (qd ka (c.1+c.2))) (2^min (1:Int).toNat (qz kf)))).toNat*8)) 0 (bZ x3)/\
   ∃a4:f7,(s.ptr=dB a4/\0<=a/\a<((s.len:Nat):Int))/\
   ∃x5:bC,bt g (a4.add (a.toNat*8)) 0 (bZ x5)/\
   tI C 173 ((#[]:Array Value).toList++[recv x3,recv x5]++(#[]:Array Value).toList) (.one (.sc (.int .i64))) g λr6 n=>
   (bQ.ok [] n)/\
   Br (decide (r6<(0:Int)))
   (K1 (qd ka ((qd ka (zr (qd kf (qd ka (c.1+c.2))) (2^min (1:Int).toNat (qz kf))))+(1:Int)),c.2) n)
   (K1 (c.1,qd ka (zr (qd kf (qd ka (c.1+c.2))) (2^min (1:Int).toNat (qz kf)))) n))
   (iu (σ:=Int) (λd K2 h3=>
   Br (decide (d<(qd ka (c.1-(1:Int)))))
   (∃a8:f7,(s.ptr=dB a8/\0<=(qd ka (d+(1:Int)))/\(qd ka (d+(1:Int)))<((s.len:Nat):Int))/\
   ∃x9:bC,bt h3 (a8.add ((qd ka (d+(1:Int))).toNat*8)) 0 (bZ x9)/\
   ∃I:f7,(s.ptr=dB I/\0<=d/\d<((s.len:Nat):Int))/\
   ∃D:bC,bt h3 (I.add (d.toNat*8)) 0 (bZ D)/\
   ∃A:f7,(s.ptr=dB A/\0<=d/\d<((s.len:Nat):Int))/\
   aj kg (qF 166 (xW (dB (A.add (d.toNat*8)))) (recv x9)) h3 λ_ V=>
   (bQ.ok [] V)/\
   ∃r:f7,(s.ptr=dB r/\0<=(qd ka (d+(1:Int)))/\(qd ka (d+(1:Int)))<((s.len:Nat):Int))/\
   aj kg (qF 166 (xW (dB (r.add ((qd ka (d+(1:Int))).toNat*8)))) (recv D)) V λ_ U=>
   (bQ.ok [] U)/\
   K2 (qd ka (d+(1:Int))) U)
   (K (.tuple #[]) h3)) a g)) (m,b) h:=by
 subst ha;subst hm;subst hb;refine an (λt:Nat×Nat=>(((i4 X+1+t.1:Nat):Int),((i4 X+1+t.2:Nat):Int))) (λt h'=>t.1<=t.2/\t.2<=i4 R/\(∀k (f:k<i4 R),k<t.1->¬cA x R[k]=eS)/\(∀k (f:k<i4 R),t.2<=k->cA x R[k]=eS)/\aa B h0 h' (cx s (X++(x::(R++Y)))::As)) (λt=>t.2-t.1) (0,i4 R) i5 ⟨js,js,λ_ _ h=>p5,λ_ g n=>absurd g (by simpa using n),H⟩ ?_;rintro⟨i,j⟩ g ⟨ah,hj,q,G,O⟩;dsimp only at*;refine ae (λe=>?_) (λe=>?_)
 .have o:i<j:=i6
  rw[GD _ _];have eh:((i4 X+1+i)+(i4 X+1+j))/2=i4 X+1+(i+j)/2:=i6
  rw[eh];have f:(i+j)/2<i4 R:=i6
  refine⟨i7,kR O _ i5 (x:=R[(i+j)/2]) ?_ (kR O X.length i5 (x:=x) ?_ (eJ k8 ?_))⟩
  .rw[qk i6,show X.length+1+(i+j)/2-i4 X=(i+j)/2+1 by omega,qO,qq f,qc f]
  .rw[qk (qi _),za];rfl
  refine(rn R[(i+j)/2] x g).x8 λn R2=>?_;have H2:=O.up R2.ac;refine⟨_,i5,A0,ae (λe2=>?_) λe2=>?_⟩
  .have Q:=(se _ _).1 e2;refine⟨((i+j)/2+1,j),j0,⟨i9,hj,λk y Z=>?_,G,H2⟩,i9⟩;intro hc;exact Q (eT.trans _ _ _ hc (F.at_ eT (i:=k) (j:=(i+j)/2) (by dsimp only at Z;omega) f))
  .refine⟨(i,(i+j)/2),i5,⟨i9,i9,q,λk y W=>?_,H2⟩,i9⟩;exact eT.trans _ _ _ (BE e2) (F.at_ eT (by dsimp only at W;omega) y)
 .have o:i=j:=i6
  subst o;have hM:Sd cA (R.take i++x::R.drop i):=by
   refine Sd.app eT (Sd.left (v:=R.drop i) (by rw[qy];exact F)) (zu.2 ⟨λz J=>?_,Sd.right (u:=R.take i) (by rw[qy];exact F)⟩) λz J w L=>?_
   .obtain⟨k,f,rfl⟩:=qA J;rw[z8];exact G _ _ i6
   .obtain⟨k,f,rfl⟩:=qA J;rw[yi];have S:k<i:=p8
    have g:=eT.Ez (q k p8 S);rcases qX.1 L with rfl|L
    .exact g
    .obtain⟨l,hl,rfl⟩:=qA L;rw[z8];exact F.at_ eT i6 (by simp at hl;omega)
  have hE:cC cA (x::R) (R.take i++x::R.drop i):=by
   have g:cC cA ([x]++R.take i) (R.take i++[x]):=cC.XX eT λz J w L=>by
    rw[qw.1 J];obtain⟨k,f,rfl⟩:=qA L;rw[yi];exact q k p8 p8
   have n:=g.app (cC.refl (le:=cA) (R.drop i));have e1:([x]++R.take i)++R.drop i=x::R:=by rw[qm,qy];rfl
   have e2:(R.take i++[x])++R.drop i=R.take i++x::R.drop i:=js
   rw[e1,e2]at n;exact n
  have el:qd ka (((i4 X+1+i:Nat):Int)-1)=((i4 X+i:Nat):Int):=j7
  rw[el];refine an (λt:Nat=>((i4 X+t:Nat):Int)) (λt h'=>t<=i/\aa B h0 h' (cx s (X++(R.take t++(x::(R.drop t++Y))))::As)) (λt=>i-t) 0 i5 ⟨i6,by simpa using O⟩ ?_;rintro t h3 ⟨ht,N⟩;refine ae (λe2=>?_) (λe2=>?_)
  .have ab:t<i:=i6
   have E:t<i4 R:=i6
   have p:X++(R.take t++(x::(R.drop t++Y)))=(X++R.take t)++x::([]++R[t]::(R.drop (t+1)++Y)):=by rw[qJ E];simp only[qm,zB,wx]
   obtain⟨P,T,q3,q4⟩:=PC (X++R.take t) [] (R.drop (t+1)++Y) x R[t] (i:=i4 X+t) (j:=i4 X+t+1) jj jj;rw[<-p]at P T q3 q4;have ek:qd ka (((i4 X+t:Nat):Int)+1)=((i4 X+t+1:Nat):Int):=j7
   rw[ek];refine kR N _ i5 T (kR N _ i5 P ?_);refine N.set ag 0 i5 (λ_=>rfl) i5 (i4 X+t) i5 (ql.1 P).1 R[t] i5 i5 i5 λV H4=>⟨A0,?_⟩
   refine H4.set ag 0 i5 (λ_=>rfl) i5 (i4 X+t+1) i5 (by rw[zf];exact(ql.1 T).1) x i5 i5 i5 λU H5=>⟨A0,?_⟩
   refine⟨t+1,i5,⟨i6,?_⟩,i6⟩;have e3:X++(R.take (t+1)++(x::(R.drop (t+1)++Y)))=(X++R.take t)++R[t]::([]++x::(R.drop (t+1)++Y)):=by rw[aG R t E];simp only[qm,zB,wx]
   rw[e3,<-q3];exact H5
  .have:t=i:=i6
   subst this;refine f h3 ⟨R.take t++x::R.drop t,hM,hE,?_⟩;have:X++((R.take t++x::R.drop t)++Y)=X++(R.take t++(x::(R.drop t++Y))):=js
   rw[this];exact N
theorem Jy(y:bC)(X L Y:List bC)(ap:i4 X+i4 L+1+i4 Y<=2^40)(q:Sd cA L)(H:aa B h0 h (cx s (X++(L++(y::Y)))::As)){K:tJ}
  (d:∀h',(∃M,Sd cA M/\cC cA (L++[y]) M/\aa B h0 h' (cx s (X++(M++Y))::As))->K (.tuple #[]) h') (a m:Int) (ha:a=(i4 X:Int)) (hm:m=(i4 X+i4 L:Nat)):
  iu (σ:=Int×Int) (λb K3 W=>
   Br (decide (b.1<b.2))
   ((0<=(1:Int))/\
   ∃G:f7,(s.ptr=dB G/\0<=m/\m<((s.len:Nat):Int))/\
   ∃p:bC,bt W (G.add (m.toNat*8)) 0 (bZ p)/\
   ∃P:f7,(s.ptr=dB P/\0<=(qd ka (zr (qd kf (qd ka (b.1+b.2))) (2^min (1:Int).toNat (qz kf))))/\(qd ka (zr (qd kf (qd ka (b.1+b.2))) (2^min (1:Int).toNat (qz kf))))<((s.len:Nat):Int))/\
   ∃O:bC,bt W (P.add ((qd ka (zr (qd kf (qd ka (b.1+b.2))) (2^min (1:Int).toNat (qz kf)))).toNat*8)) 0 (bZ O)/\
   tI C 173 ((#[]:Array Value).toList++[recv p,recv O]++(#[]:Array Value).toList) (.one (.sc (.int .i64))) W λah h7=>
   (bQ.ok [] h7)/\
   Br (!(decide (ah<(0:Int))))
   (K3 (qd ka ((qd ka (zr (qd kf (qd ka (b.1+b.2))) (2^min (1:Int).toNat (qz kf))))+(1:Int)),b.2) h7)
   (K3 (b.1,qd ka (zr (qd kf (qd ka (b.1+b.2))) (2^min (1:Int).toNat (qz kf)))) h7))
   (iu (σ:=Int) (λc K4 h8=>
   Br (decide (c>b.1))
   (∃F:f7,(s.ptr=dB F/\0<=(qd ka (c-(1:Int)))/\(qd ka (c-(1:Int)))<((s.len:Nat):Int))/\
   ∃r:bC,bt h8 (F.add ((qd ka (c-(1:Int))).toNat*8)) 0 (bZ r)/\
   ∃I:f7,(s.ptr=dB I/\0<=c/\c<((s.len:Nat):Int))/\
   ∃T:bC,bt h8 (I.add (c.toNat*8)) 0 (bZ T)/\
   ∃a25:f7,(s.ptr=dB a25/\0<=c/\c<((s.len:Nat):Int))/\
   aj kg (qF 166 (xW (dB (a25.add (c.toNat*8)))) (recv r)) h8 λ_ h9=>
   (bQ.ok [] h9)/\
   ∃J:f7,(s.ptr=dB J/\0<=(qd ka (c-(1:Int)))/\(qd ka (c-(1:Int)))<((s.len:Nat):Int))/\
   aj kg (qF 166 (xW (dB (J.add ((qd ka (c-(1:Int))).toNat*8)))) (recv T)) h9 λ_ Q=>
   (bQ.ok [] Q)/\
   K4 (qd ka (c-(1:Int))) Q)
   (K (.tuple #[]) h8)) m W)) (a,m) h:=by
 subst ha;subst hm;refine an (λt:Nat×Nat=>(((i4 X+t.1:Nat):Int),((i4 X+t.2:Nat):Int))) (λt h'=>t.1<=t.2/\t.2<=i4 L/\(∀k (d:k<i4 L),k<t.1->cA L[k] y=eS)/\(∀k (d:k<i4 L),t.2<=k->¬cA L[k] y=eS)/\aa B h0 h' (cx s (X++(L++(y::Y)))::As)) (λt=>t.2-t.1) (0,i4 L) i5 ⟨js,js,λ_ _ h=>p5,λ_ n N=>absurd n (by simpa using N),H⟩ ?_;rintro⟨i,j⟩ n ⟨ar,hj,U,o,Z⟩;dsimp only at*;refine ae (λe=>?_) (λe=>?_)
 .have f:i<j:=i6
  rw[GD _ _];have eh:((i4 X+i)+(i4 X+j))/2=i4 X+(i+j)/2:=i6
  rw[eh];have d:(i+j)/2<i4 L:=i6
  refine⟨i7,kR Z (i4 X+i4 L) i5 (x:=y) ?_ (kR Z _ i5 (x:=L[(i+j)/2]) ?_ (eJ k8 ?_))⟩
  .rw[qk i6,show X.length+i4 L-i4 X=i4 L by omega,qk (qi _),za];rfl
  .rw[qk i6,show X.length+(i+j)/2-i4 X=(i+j)/2 by omega,qq d,qc d]
  refine(rn y L[(i+j)/2] n).x8 λN R2=>?_;have H2:=Z.up R2.ac;refine⟨_,i5,A0,?_⟩;by_cases e2:my y L[(i+j)/2]<0
  .have ab:=(se _ _).1 e2;refine aX (λE=>absurd E oo) λ_=>?_;refine⟨(i,(i+j)/2),i5,⟨i9,i9,U,λk D al=>?_,H2⟩,i9⟩;intro hc;exact ab (eT.trans _ _ _ (q.at_ eT (i:=(i+j)/2) (j:=k) (by dsimp only at al;omega) D) hc)
  .refine aX (λ_=>?_) λE=>absurd E oo;refine⟨((i+j)/2+1,j),j0,⟨i9,hj,λk D am=>?_,o,H2⟩,i9⟩;exact eT.trans _ _ _ (q.at_ eT (by dsimp only at am;omega) d) (BE e2)
 .have f:i=j:=i6
  subst f;have hM:Sd cA (L.take i++y::L.drop i):=by
   refine Sd.app eT (Sd.left (v:=L.drop i) (by rw[qy];exact q)) (zu.2 ⟨λz R=>?_,Sd.right (u:=L.take i) (by rw[qy];exact q)⟩) λz R w S=>?_
   .obtain⟨k,d,rfl⟩:=qA R;rw[z8];exact eT.Ez (o _ n7 i6)
   .obtain⟨k,d,rfl⟩:=qA R;rw[yi];have ad:k<i:=n7
    have n:=U k n7 ad;rcases qX.1 S with rfl|S
    .exact n
    .obtain⟨l,hl,rfl⟩:=qA S;rw[z8];exact q.at_ eT i6 (by simp at hl;omega)
  have hE:cC cA (L++[y]) (L.take i++y::L.drop i):=by
   have n:cC cA (L.drop i++[y]) ([y]++L.drop i):=cC.XX eT λz R w S=>by
    rw[qw.1 S];obtain⟨k,d,rfl⟩:=qA R;rw[z8];exact o _ n7 i6
   have N:=(cC.refl (le:=cA) (L.take i)).app n;have e1:L.take i++(L.drop i++[y])=L++[y]:=by rw[<-qm,qy]
   rw[e1]at N;exact N
  refine an (λt:Nat=>((i4 X+t:Nat):Int)) (λt h'=>i<=t/\t<=i4 L/\aa B h0 h' (cx s (X++(L.take t++(y::(L.drop t++Y))))::As)) (λt=>t-i) L.length i5 ⟨i6,i6,by simpa using Z⟩ ?_;rintro t h3 ⟨ht,ao,V⟩;refine ae (λe2=>?_) (λe2=>?_)
  .obtain⟨u,rfl⟩:∃u,t=u+1:=⟨t-1,i6⟩
   have A:u<i4 L:=i6
   have g:X++(L.take (u+1)++(y::(L.drop (u+1)++Y)))=(X++L.take u)++L[u]::([]++y::(L.drop (u+1)++Y)):=by rw[aG L u A];simp only[qm,zB,wx]
   obtain⟨q1,q2,q3,q4⟩:=PC (X++L.take u) [] (L.drop (u+1)++Y) L[u] y (i:=i4 X+u) (j:=i4 X+(u+1)) jj jj;rw[<-g]at q1 q2 q3 q4;have ek:qd ka (((i4 X+(u+1):Nat):Int)-1)=((i4 X+u:Nat):Int):=j7
   rw[ek];refine kR V _ i5 q1 (kR V _ i5 q2 ?_);refine V.set ag 0 i5 (λ_=>rfl) i5 (i4 X+(u+1)) i5 (ql.1 q2).1 L[u] i5 i5 i5 λh4 H4=>⟨A0,?_⟩
   refine H4.set ag 0 i5 (λ_=>rfl) i5 (i4 X+u) i5 (by rw[zf];exact(ql.1 q1).1) y i5 i5 i5 λh5 H5=>⟨A0,?_⟩
   refine⟨u,i5,⟨i6,i6,?_⟩,i6⟩;have E:X++(L.take u++(y::(L.drop u++Y)))=(X++L.take u)++y::([]++L[u]::(L.drop (u+1)++Y)):=by rw[qJ A];simp only[qm,zB,wx]
   rw[E,<-q4];exact H5
  .have:t=i:=i6
   subst this;refine d h3 ⟨L.take t++y::L.drop t,hM,hE,?_⟩;have:X++((L.take t++y::L.drop t)++Y)=X++(L.take t++(y::(L.drop t++Y))):=js
   rw[this];exact V
end
theorem YT{L R:List bC}(h:Sd cA L)(l:Sd cA R)(p q:Nat)(s:p<=i4 L)(r:q<=i4 R)
  (o:∀i j (d:i<i4 L) (b:j<i4 R),i+1=p->j=q->cA L[i] R[j]=eS)
  (n:∀i j (d:i<i4 L) (b:j<i4 R),i=p->j+1=q->¬cA L[i] R[j]=eS):
  (∀x∈L.take p,∀y∈R.drop q,cA x y=eS)/\(∀x∈L.drop p,∀y∈R.take q,¬cA x y=eS):=by
 constructor
 .intro x g y e;obtain⟨i,d,rfl⟩:=qA g;obtain⟨j,b,rfl⟩:=qA e;rw[yi,z8];have c:i<p:=n7
  have a:q+j<i4 R:=by simp at b;omega
  have f:=h.at_ eT (i:=i) (j:=p-1) i6 i6;have m:=o (p-1) q i6 i6 i6 i5;have h3:=l.at_ eT (i:=q) (j:=q+j) i6 a;exact eT.trans _ _ _ f (eT.trans _ _ _ m h3)
 .intro x g y e k;obtain⟨i,d,rfl⟩:=qA g;obtain⟨j,b,rfl⟩:=qA e;rw[yi,z8]at k;have a:j<q:=by simp at b;omega
  have c:p+i<i4 L:=n7
  have f:=h.at_ eT (i:=p) (j:=p+i) i6 c;have h3:=l.at_ eT (i:=j) (j:=q-1) i6 i6;exact n p (q-1) i6 i6 i5 i6 (eT.trans _ _ _ f (eT.trans _ _ _ k h3))
theorem DS:∀(N:Nat) {B:aw} {h0 h:f9} {As:List HP} {s:Sl} (X L R Y:List bC) (a m b:Int),0<i4 L->0<i4 R->i4 L+i4 R<=N->a=(i4 X:Int)->m=(i4 X+i4 L:Nat)->b=(i4 X+i4 L+i4 R:Nat)->i4 X+i4 L+i4 R+i4 Y<=2^40->Sd cA L->Sd cA R->
  aa B h0 h (cx s (X++(L++(R++Y)))::As)->
  ai kg 304 #[s,xU ka a,xU ka m,xU ka b,.func (.func 173) #[] #[]] h λv h'=>v=.tuple #[]/\∃M,Sd cA M/\cC cA (L++R) M/\aa B h0 h' (cx s (X++(M++Y))::As):=by
 intro N
 induction N with
 |zero=>intro B h0 h As s X L R Y a m b hL hR hN;omega
 |succ N ih=>
  intro B h0 h As s X L R Y a m b hL hR hN ha hm hb ah U sR H;refine ts Tryz.func304 ?_ (u9 (xc (u9 (xc (xc (u9 (v7 (ws [(10,aR),(11,aR)] [(10,13),(31,54)] v6)) (x0 [(13,aR)] [(13,14),(55,77)])))) v6)) (u9 (xc (u9 (xc (xc (u9 (v7 (ws [(14,aR),(15,aR)] [(14,17),(83,107)] v6)) (x0 [(17,aR)] [(17,18),(108,129)])))) v6)) (xc (xc (xc (x6 [(20,aR),(21,aR)] [(20,22),(138,147)] (xc (u9 (v7 (ws [(20,aR),(21,aR)] [(20,22),(23,24),(149,175)] v6)) (xc (x6 [] [(178,192)] (x6 [] [(192,206)] v6))))))))))) (args:=[s,(a:Int),(m:Int),(b:Int),(.func (.func 173) #[] #[])]);have e1:qd ka (m-a)=(i4 L:Int):=j7
  have e2:qd ka (b-m)=(i4 R:Int):=j7
  rw[e1,e2];refine aY (λc=>?_) λc=>aY (λc2=>?_) λc2=>?_
  .obtain⟨x,hx⟩:∃x,L=[x]:=by
    match L,hL,c with
    |[x],_,_=>exact⟨x,i5⟩
    |x::y::L,_,c=>simp at c;omega
   subst hx;exact Li (K:=λv h'=>v=.tuple #[]/\∃M,Sd cA M/\cC cA ([x]++R) M/\aa B h0 h' (cx s (X++(M++Y))::As)) x X R Y (by simp at ah⊢;omega) sR H (λh' ⟨M,Q,P,T⟩=>⟨i5,M,Q,P,T⟩) a m b ha (by rw[hm];simp) (by rw[hb];simp)
  .obtain⟨y,hy⟩:∃y,R=[y]:=by
    match R,hR,c2 with
    |[x],_,_=>exact⟨x,i5⟩
    |x::y::L,_,c=>simp at c;omega
   subst hy;exact Jy (K:=λv h'=>v=.tuple #[]/\∃M,Sd cA M/\cC cA (L++[y]) M/\aa B h0 h' (cx s (X++(M++Y))::As)) y X L Y (by simp at ah⊢;omega) U H (λh' ⟨M,Q,P,T⟩=>⟨i5,M,Q,P,T⟩) a m ha hm
  .refine⟨i7,?_⟩;subst ha;subst hm;subst hb;have c':i4 L≠1:=λE=>c i6;have bl:i4 R≠1:=λE=>c2 i6;rw[GD X.length (i4 X+i4 L+i4 R)];obtain⟨DM,W⟩:=z6 ((i4 X+(i4 X+i4 L+i4 R))/2)
   rw[<-W];have en:qd ka ((DM:Int)+((i4 X+i4 L:Nat):Int))=((DM+(i4 X+i4 L):Nat):Int):=j7
   rw[en];obtain⟨n,hn⟩:=z6 (DM+(i4 X+i4 L))
   rw[<-hn];have ep:qd ka ((n:Int)-1)=((n-1:Nat):Int):=j7
   rw[ep];obtain⟨D,hD⟩:=z6 (X++(L++(R++Y)))
   have gL:∀i (f:i<i4 L),D[i4 X+i]?=dB L[i]:=λi f=>by
    rw[hD,qk i6,wG,qq f,qc f]
   have gR:∀i (f:i<i4 R),D[i4 X+i4 L+i]?=dB R[i]:=λi f=>by
    rw[hD,qk i6,show X.length+i4 L+i-i4 X=i4 L+i by omega,qk i6,wG,qq f,qc f]
   rw[<-hD]at H;refine bF (λ(g:Int×Int) h'=>h'=h/\∃o f:Nat,g=((o:Int),(f:Int))/\o<=f/\X.length<=o/\f<=i4 X+i4 L/\f<=DM/\n<=o+(i4 X+i4 L+i4 R)/\(o=i4 X∨n=o+(i4 X+i4 L+i4 R))/\(f=i4 X+i4 L∨f=DM)) ?_ ?_
   .refine ae (λe=>⟨i5,n-(i4 X+i4 L+i4 R),DM,?_,i6,i6,i6,i6,i6,i6,i6⟩) λe=>⟨i5,i4 X,i4 X+i4 L,i5,i6,i6,i6,i6,i6,i6,i6⟩
    have:qd ka ((n:Int)-((i4 X+i4 L+i4 R:Nat):Int))=((n-(i4 X+i4 L+i4 R):Nat):Int):=j7
    rw[this]
   .rintro⟨bk,bd⟩ _ ⟨rfl,o,f,ar,b1,b2,b3,b4,b5,b6,b7⟩;injection ar with est1 est2
    subst est1;subst est2
    try dsimp only
    refine an (λt:Nat×Nat=>((t.1:Int),(t.2:Int))) (λt h'=>o<=t.1/\t.1<=t.2/\t.2<=f/\
     (∀i j (l:i<i4 L) (Z:j<i4 R),i4 X+i+1=t.1->i4 X+i+(i4 X+i4 L+j)=n-1->o<t.1->cA L[i] R[j]=eS)/\
     (∀i j (l:i<i4 L) (Z:j<i4 R),i4 X+i=t.2->i4 X+i+(i4 X+i4 L+j)=n-1->t.2<f->¬cA L[i] R[j]=eS)/\
     aa B h0 h' (cx s D::As)) (λt=>t.2-t.1) (o,f) i5 ⟨js,by simpa using b1,js,λ_ _ _ _ _ _ F=>absurd F js,λ_ _ _ _ _ _ F=>absurd F js,H⟩ ?_
    rintro⟨g,r⟩ h1 ⟨t1,t2,t3,F1,F2,H1⟩;dsimp only at*;refine ae (λe=>?_) (λe=>?_)
    .have F:g<r:=i6
     rw[GD _ _];obtain⟨G,a4⟩:=z6 ((g+r)/2)
     rw[<-a4];have ax:qd ka (((n-1:Nat):Int)-(G:Int))=((n-1-G:Nat):Int):=j7
     rw[ax];obtain⟨i,l⟩:∃i,G=i4 X+i:=⟨G-i4 X,i6⟩
     obtain⟨j,al⟩:∃j,n-1-G=i4 X+i4 L+j:=⟨n-1-G-(i4 X+i4 L),i6⟩
     have ao:i<i4 L:=i6
     have a8:j<i4 R:=i6
     rw[al,l];refine⟨i7,kR H1 _ i5 (gR j a8) (kR H1 _ i5 (gL i ao) (eJ k8 ?_))⟩;refine(rn R[j] L[i] h1).x8 λh2 R2=>?_;have I:=H1.up R2.ac;refine⟨_,i5,A0,?_⟩;by_cases e2:my R[j] L[i]<0
     .have ap:=(se _ _).1 e2;refine aX (λe3=>absurd e3 oo) λ_=>?_;refine⟨(g,i4 X+i),i5,⟨t1,i9,i9,F1,λi2 j2 a9 ay w A _=>?_,I⟩,i9⟩;dsimp only at w;have:i2=i:=i6
      subst this;have:j2=j:=i6
      subst this;exact ap
     .refine aX (λ_=>?_) λe3=>absurd e3 oo;refine⟨(i4 X+i+1,r),j0,⟨i9,i9,t3,λi2 j2 a9 ay w A _=>?_,F2,I⟩,i9⟩;dsimp only at w;have:i2=i:=i6
      subst this;have:j2=j:=i6
      subst this;exact BE e2
    .have a0:g=r:=i6
     subst a0;have a7:qd ka ((n:Int)-(g:Int))=((n-g:Nat):Int):=j7
     rw[a7];obtain⟨p,hp⟩:∃p,g=i4 X+p:=⟨g-i4 X,i6⟩
     obtain⟨q,hq⟩:∃q,n-g=i4 X+i4 L+q:=⟨n-g-(i4 X+i4 L),i6⟩
     have a1:p<=i4 L:=i6
     have a6:q<=i4 R:=i6
     obtain⟨a3,am⟩:=YT U sR p q a1 a6 (λi j l Z w A=>F1 i j l Z i6 i6 (by
      by_cases bb:o<g
      .exact bb
      .exfalso;have:g=o:=i6
       omega)) (λi j l Z w A=>F2 i j l Z i6 i6 (by
      by_cases a5:g<f
      .exact a5
      .exfalso;have:g=f:=i6
       omega))
     have eL:L.take p++L.drop p=L:=qy _ _;have eR:R.take q++R.drop q=R:=qy _ _;have l1:i4 (L.take p)=p:=jj
     have l2:i4 (L.drop p)=i4 L-p:=js
     have r1:i4 (R.take q)=q:=jj
     have r2:i4 (R.drop q)=i4 R-q:=js
     have ab:Sd cA (L.take p):=Sd.left (v:=L.drop p) (by rw[eL];exact U);have S:Sd cA (L.drop p):=Sd.right (u:=L.take p) (by rw[eL];exact U);have ad:Sd cA (R.take q):=Sd.left (v:=R.drop q) (by rw[eR];exact sR);have V:Sd cA (R.drop q):=Sd.right (u:=R.take q) (by rw[eR];exact sR);rw[hq,hp];refine bF (λ_ h'=>aa B h0 h' (cx s (X++(L.take p++(R.take q++(L.drop p++(R.drop q++Y)))))::As)) ?_ ?_
     .have z:aa B h0 h1 (cx s ((X++L.take p)++(L.drop p++(R.take q++(R.drop q++Y))))::As):=by
       have:(X++L.take p)++(L.drop p++(R.take q++(R.drop q++Y)))=D:=by
        rw[hD]
        conv=>rhs;rw[<-eL,<-eR]
        simp only[qm,zB,wx]
       rw[this];exact H1
      refine ae (λw=>ae (λA=>?_) λA=>?_) λw=>?_
      .refine(RZ (X++L.take p) (L.drop p) (R.take q) (R.drop q++Y) _ _ _ i6 i6 jj jj jj jj z).x8 λh2 I=>⟨(),i5,?_⟩;rw[qm]at I;exact I
      .have:R.take q=[]:=qU i6;rw[this]at z⊢;simpa using z
      .have:L.drop p=[]:=qU i6;rw[this]at z⊢;simpa using z
     .rintro _ h2 I;refine bF (λ_ h'=>∃k,Sd cA k/\cC cA (L.take p++R.take q) k/\k.length=p+q/\aa B h0 h' (cx s (X++(k++(L.drop p++(R.drop q++Y))))::As)) ?_ ?_
      .have d:(L.take p=[]∨R.take q=[])->∃k,Sd cA k/\cC cA (L.take p++R.take q) k/\k.length=p+q/\aa B h0 h2 (cx s (X++(k++(L.drop p++(R.drop q++Y))))::As):=λJ=>by
        refine⟨L.take p++R.take q,?_,cC.refl _,jj,by rw[qm];exact I⟩;rcases J with E|E
        .rw[E];exact ad
        .rw[E,qI];exact ab
       refine ae (λw=>ae (λA=>?_) λA=>d (.inr (qU i6))) λw=>d (.inl (qU i6));refine(ih X (L.take p) (R.take q) (L.drop p++(R.drop q++Y)) _ _ _ i6 i6 i6 i5 (by rw[l1]) (by rw[l1,r1];omega) jj ab ad I).x8 λh3 ⟨k,Q,P,T⟩=>⟨(),i5,k,Q,P,?_,T⟩;have O:=uT eT P;rw[<-O];simp;omega
      .rintro _ h3 ⟨k,m1,m2,m3,H3⟩;have fin:∀{h':f9} {M2:List bC},Sd cA M2->cC cA (L.drop p++R.drop q) M2->aa B h0 h' (cx s (X++(k++(M2++Y)))::As)->(Value.tuple #[]=.tuple #[]/\∃M,Sd cA M/\cC cA (L++R) M/\aa B h0 h' (cx s (X++(M++Y))::As)):=λ{h' M2} k1 k2 k3=>by
        obtain⟨f1,f2⟩:=XY eT (by rw[eL];exact U) (by rw[eR];exact sR) a3 am m2 m1 k2 k1;rw[eL,eR]at f2;exact⟨i5,k++M2,f1,f2,by rw[qm];exact k3⟩
       have d:(L.drop p=[]∨R.drop q=[])->(Value.tuple #[]=.tuple #[]/\∃M,Sd cA M/\cC cA (L++R) M/\aa B h0 h3 (cx s (X++(M++Y))::As)):=λJ=>by
        refine fin (M2:=L.drop p++R.drop q) ?_ (cC.refl _) (by rw[qm];exact H3);rcases J with E|E
        .rw[E];exact V
        .rw[E,qI];exact S
       refine ae (λw=>ae (λA=>?_) λA=>d (.inr (qU i6))) λw=>d (.inl (qU i6));have a2:aa B h0 h3 (cx s ((X++k)++(L.drop p++(R.drop q++Y)))::As):=by rw[qm];exact H3
       refine(ih (X++k) (L.drop p) (R.drop q) Y _ _ _ i6 i6 i6 jj jj jj jj S V a2).x8 λh4 ⟨M2,k1,k2,k3⟩=>⟨(),i5,fin k1 k2 (by rw[qm]at k3;exact k3)⟩
def Bs(k:Nat)(l:List bC):Prop:=∀q,Sd cA ((l.drop (q*k)).take k)
theorem Bs.nil(k:Nat):Bs k []:=λq=>by simp[Sd]
theorem Bs.first{k:Nat}{l:List bC}(h:Bs k l):Sd cA (l.take k):=by have:=h 0;simpa using this
theorem Bs.rest{k:Nat}{l:List bC}(h:Bs k l):Bs k (l.drop k):=λq=>by
 have:=h (q+1);rw[zD,show k+q*k=(q+1)*k by rw[zW,Nat.add_comm]];exact this
theorem Bs.snoc{k t:Nat}{l M:List bC}(h:Bs k l)(c:i4 l=t*k)(b:Sd cA M)(d:i4 M<=k:=by omega):Bs k (l++M):=λq=>by
 rcases Nat.lt_trichotomy q t with hq|hq|hq
 .have a:(q+1)*k<=t*k:=zi _ hq;rw[zW]at a;rw[List.drop_append_of_le_length i6,wm mn];exact h q
 .subst hq;rw[<-c,List.drop_left,qh d];exact b
 .have a:(t+1)*k<=q*k:=zi _ hq;rw[zW]at a;rw[qY (by rw[qu];omega)];simp[Sd]
theorem Bs.whole{k:Nat}{l:List bC}(h:Bs k l)(a:i4 l<=k):Sd cA l:=by have:=h.first;rw[qh a]at this;exact this
section
variable {d:List bC}
theorem Sa(d:List bC)(n:Int)(X:n=i4 d)(hd:i4 d<=2^30)(H:aa B h0 h (cx s d::As)):
  ai kg 239 #[s,xU ka n,.func (.func 173) #[] #[]] h λv h'=>v=.tuple #[]/\aa B h0 h' (cx s (d.mergeSort cA)::As):=by
 subst X;refine ts Tryz.func239 ?_ (xc (xc (u9 (v7 (ws [(7,aR),(8,aR)] [(7,9),(11,23)] v6)) (xc (v7 (ws [(6,aR)] [(6,10),(28,63)] (xc (v7 (xc (u9 (v7 (ws [(7,aR),(8,aR)] [(7,9),(33,49)] v6)) v6)))))))))) (args:=[s,(i4 d:Int),(.func (.func 173) #[] #[])]);refine an (λP:List bC=>((i4 P:Int),((i4 P+20:Nat):Int))) (λP h'=>i4 P<=i4 d/\(∃t,i4 P=t*20)/\Bs 20 P/\cC cA (d.take P.length) P/\aa B h0 h' (cx s (P++d.drop P.length)::As)) (λP=>i4 d-i4 P) [] i5 ⟨js,⟨0,js⟩,Bs.nil _,by simpa using cC.refl _,m5⟩ ?_;rintro P h1 ⟨hP,⟨t,N⟩,S,V,I⟩
 try dsimp only
 refine ae (λe=>?_) (λe=>?_)
 .have al:i4 P+20<=i4 d:=i6
  have eY:(d.drop P.length).take 20++d.drop (i4 P+20)=d.drop P.length:=by rw[<-zD];exact qy _ _
  have U:i4 ((d.drop P.length).take 20)=20:=jj
  rw[<-eY]at I;refine(Ck P ((d.drop P.length).take 20) (d.drop (i4 P+20)) _ _ i5 (by rw[U]) jj I).x8 λh2 ⟨o,m,b,H2⟩=>?_;have r:i4 o=20:=by rw[<-uT eT b,U]
  have f:i4 (P++o)=i4 P+20:=by rw[qu,r]
  refine⟨(),i5,P++o,?_,⟨i6,⟨t+1,by rw[f,N,zW]⟩,S.snoc N m,?_,?_⟩,i6⟩
  .rw[f,af _];congr 1
  .rw[f];have:d.take (i4 P+20)=d.take P.length++(d.drop P.length).take 20:=by rw[List.take_add]
   rw[this];exact V.app b
  .rw[f,qm];exact H2
 .have J:aa B h0 h1 (cx s (P++(d.drop P.length++[]))::As):=by rw[qI];exact I
  refine(Ck P (d.drop P.length) [] _ _ i5 mn jj J).x8 λh3 ⟨o,m,b,R⟩=>?_;have r:i4 o=i4 d-i4 P:=by rw[<-uT eT b,q9]
  have E:=S.snoc N m;have c:cC cA d (P++o):=by have:=V.app b;rw[qy]at this;exact this
  refine⟨(),i5,?_⟩;refine an (λt:Nat×List bC=>(t.1:Int)) (λt h'=>0<t.1/\t.1<=2^32/\t.2.length=i4 d/\Bs t.1 t.2/\cC cA d t.2/\aa B h0 h' (cx s t.2::As)) (λt=>2^32-t.1) (20,P++o) i5 ⟨i9,i9,by dsimp only;rw[qu];omega,E,c,by rw[qI]at R;exact R⟩ ?_;rintro⟨k,l⟩ h4 ⟨am,hk,hl,W,y,O⟩;dsimp only at*;refine ae (λe2=>?_) (λe2=>?_)
  .have Y:k<i4 d:=i6
   have K:qd ka ((2:Int)*k)=((2*k:Nat):Int):=j7
   have D:qd ka ((k:Int)*2)=((2*k:Nat):Int):=j7
   rw[K];have next:∀{h':f9} (l':List bC),i4 l'=i4 d->Bs (2*k) l'->cC cA l l'->aa B h0 h' (cx s l'::As)->∃g:Nat×List bC,qd ka ((k:Int)*2)=(g.1:Int)/\(0<g.1/\g.1<=2^32/\g.2.length=i4 d/\Bs g.1 g.2/\cC cA d g.2/\aa B h0 h' (cx s g.2::As))/\2^32-g.1<2^32-k:=λ{h'} l' q1 q2 q3 q4=>
    ⟨(2*k,l'),D,⟨i9,i9,q1,q2,y.trans q3,q4⟩,i9⟩
   refine an (λt:List bC×List bC=>((i4 t.1:Int),((i4 t.1+2*k:Nat):Int))) (λt h'=>(∃u,i4 t.1=u*(2*k))/\t.1.length+i4 t.2=i4 d/\Bs (2*k) t.1/\Bs k t.2/\cC cA l (t.1++t.2)/\aa B h0 h' (cx s (t.1++t.2)::As)) (λt=>i4 t.2) ([],l) (by dsimp only;rw[yk,Nat.zero_add];rfl) ⟨⟨0,js⟩,by simpa using hl,Bs.nil _,W,by simpa using cC.refl _,by simpa using O⟩ ?_;rintro⟨P,Q⟩ T ⟨⟨u,A⟩,ah,p,a,c,L⟩;dsimp only at*;have F:qd ka ((i4 P:Int)+k)=((i4 P+k:Nat):Int):=j7
   rw[F];have eQ:Q.take k++Q.drop k=Q:=qy _ _;refine ae (λZ=>?_) (λZ=>ae (λe4=>?_) λe4=>?_)
   .have ad:2*k<=i4 Q:=i6
    have q:Q.take k++((Q.drop k).take k++Q.drop (2*k))=Q:=by
     have:Q.drop (2*k)=(Q.drop k).drop k:=by rw[zD];congr 1;omega
     rw[this,qy,eQ]
    have l1:i4 (Q.take k)=k:=jj
    have l2:i4 ((Q.drop k).take k)=k:=jj
    have i:aa B h0 T (cx s (P++(Q.take k++((Q.drop k).take k++Q.drop (2*k))))::As):=by rw[q];exact L
    refine(DS _ P (Q.take k) ((Q.drop k).take k) (Q.drop (2*k)) _ _ _ i6 i6 (qi _) i5 (by rw[l1]) (by rw[l1,l2];omega) jj a.first a.rest.first i).x8 λh6 ⟨M,m,b,z⟩=>?_;have w:i4 M=2*k:=by rw[<-uT eT b,qu,l1,l2];omega
    have j:i4 (P++M)=i4 P+2*k:=by rw[qu,w]
    refine⟨(),i5,(P++M,Q.drop (2*k)),?_,⟨⟨u+1,by dsimp only;rw[j,A];exact(zW u (2*k)).symm⟩,by dsimp only;rw[j,q9];omega,p.snoc A m,?_,?_,?_⟩,by dsimp only;rw[q9];omega⟩
    .try dsimp only
     rw[j,af _];congr 1
    .try dsimp only
     have:Q.drop (2*k)=(Q.drop k).drop k:=by rw[zD];congr 1;omega
     rw[this];exact a.rest.rest
    .try dsimp only
     refine c.trans ?_
     conv=>arg 2;rw[<-q]
     rw[qm];have:=(cC.refl P).app (b.app (cC.refl (Q.drop (2*k))));rw[qm]at this;exact this
    .try dsimp only
     rw[qm];exact z
   .have x:k<i4 Q:=i6
    have ab:i4 Q<2*k:=i6
    have l1:i4 (Q.take k)=k:=jj
    have l2:i4 (Q.drop k)=i4 Q-k:=js
    have G:Sd cA (Q.drop k):=by have:=a.rest.first;rw[qh i6]at this;exact this
    have i:aa B h0 T (cx s (P++(Q.take k++(Q.drop k++[])))::As):=by rw[qI,eQ];exact L
    refine(DS _ P (Q.take k) (Q.drop k) [] _ _ _ i6 i6 (qi _) i5 (by rw[l1]) (by rw[l1,l2];omega) jj a.first G i).x8 λh6 ⟨M,m,b,z⟩=>?_;have w:i4 M=i4 Q:=by rw[<-uT eT b,eQ]
    rw[eQ]at b;rw[qI]at z;exact⟨(),i5,next (P++M) (by rw[qu];omega) (p.snoc A m) (c.trans ((cC.refl _).app b)) z⟩
   .have x:i4 Q<=k:=i6
    exact next (P++Q) (by rw[qu];omega) (p.snoc A (a.whole x)) c L
  .have hs:=W.whole i6;rw[aed eT hs y]at O;exact⟨i5,O⟩
theorem Be(d:List bC)(b:i4 d<=2^30)(H:aa B h0 h (cx s d::As)):
  ai kg 172 #[s,.func (.func 173) #[] #[]] h λv h'=>v=.tuple #[]/\aa B h0 h' (cx s (d.mergeSort cA)::As):=by
 refine ts Tryz.func172 ?_ (args:=[s,(.func (.func 173) #[] #[])]);refine(Sa d _ (by rw[(H.own 0 i5).len]) b H).x8 λc a=>⟨(),i5,i5,a⟩
def kL:bC:=(0,0,0,0,0,0,0,⟨eH,0,0⟩)
end
def lS(l:List bC)(k:Nat):Bool:=decide (k=0)||decide (my (l.getD k kL) (l.getD (k-1) kL)≠0)
def kM(l:List bC)(k:Nat):List bC:=((qn k).filter (lS l)).map λi=>l.getD i kL
def PH(l:List bC):List bC:=kM l l.length
theorem oe(l:List bC)(k:Nat):kM l (k+1)=kM l k++if lS l k then[l.getD k kL]else[]:=by unfold kM;rw[zt,zk,qP,zN,vN];split<;>rfl
section
variable {d:List bC}
theorem Jz(a b:bC)(h:f9):ai kg 175 #[recv a,recv b] h λv h'=>v=xY (decide (my a b=0))/\Sp h h' []:=by refine ts Tryz.func175 ?_ (args:=[a,b]);refine(Sp.refl h).boxed λj g f=>f.boxed λi d c=>?_;refine⟨a,(c.box 0 i5).aE _ i5,b,(c.box 1 i5).aE _ i5,(rn a b d).x8 λh3 e=>?_⟩;refine⟨_,i5,?_,.zip (aa.up c e.ac).ac⟩;congr 1
theorem Ak(l:List bC)(hd:i4 l<=2^30)(H:aa B h0 h (cx s l::As)):
  ai kg 174 #[s,.func (.func 175) #[] #[]] h λv h'=>∃r:Sl,v=r/\aa B h0 h' (cx r (PH l)::As):=by
 refine ts Tryz.func174 ?_ (xc (xc (u9 (xc (v7 (ws [(5,aR)] [(4,8),(12,65)] (xc (u9 (v7 (xc (u9 (xc (x0 [(5,aR),(7,aR)] [(5,6),(7,8),(32,59)])) v6))) v6))))) v6))) (args:=[s,(.func (.func 175) #[] #[])]);have al:=(H.own 0 i5).len;have z:=(H.own 0 i5).cap;have f:(∀j,j<i4 l->lS l j=eS)->PH l=l:=λF=>by
  have:∀k,k<=i4 l->kM l k=l.take k:=λk=>by
   induction k with
   |zero=>simp[kM]
   |succ k ih=>
    intro P;rw[oe,ih i6,g0 (F k i6),aG l k,getD_lt (show k<i4 l by omega)]
  unfold PH;rw[this _ (qi _),qL]
 refine ae (λe=>⟨s,i5,?_⟩) (λe=>?_)
 .rw[f λj g=>by unfold lS;rw[hU (show j=0 by omega)];rfl];exact H
 refine an (λi:Nat=>(i:Int)) (λi h'=>1<=i/\i<=i4 l/\(∀j,j<i->lS l j=eS)/\aa B h0 h' (cx s l::As)) (λi=>i4 l-i) 1 i5 ⟨i6,i6,λj g=>by unfold lS;rw[hU (show j=0 by omega)];rfl,H⟩ ?_;rintro i h1 ⟨ah,hi,F,I⟩;refine ae (λK=>?_) (λK=>?_)
 .have A:i<i4 l:=by have e':=K;omega
  have ei:qd ka ((i:Int)-1)=((i-1:Nat):Int):=j7
  rw[ei];refine kR I i i5 (x:=l.getD i kL) (by rw[getD_lt A,qc A]) (kR I (i-1) i5 (x:=l.getD (i-1) kL) (by rw[getD_lt (show i-1<i4 l by omega),qc]) (eJ k8 ?_));refine(Jz _ _ h1).x8 λh2 R2=>?_;have W:=I.up R2.ac;refine⟨_,i5,A0,aP (λe2=>?_) λe2=>?_⟩
  .have m:lS l i=eX:=by unfold lS;rw[ii (show¬i=0 by omega)];simpa using e2
   have q:kM l i=l.take i:=by
    have:∀k,k<=i->kM l k=l.take k:=λk=>by
     induction k with
     |zero=>simp[kM]
     |succ k ih=>
      intro P;rw[oe,ih i6,g0 (F k i6),aG l k,getD_lt (show k<i4 l by omega)]
    exact this i (qi _)
   refine⟨⟨i6,i6⟩,?_⟩;rw[qj];refine an (λt:Nat×List bC=>((i4 (kM l (i+t.1)):Int),(t.1:Int))) (λt h'=>1<=t.1/\i+t.1<=i4 l/\t.2.length=i4 l/\(kM l (i+t.1)).length+1<=i+t.1/\t.2.take (kM l (i+t.1)).length=kM l (i+t.1)/\(∀j,i+t.1-1<=j->t.2[j]?=l[j]?)/\aa B h0 h' (cx s t.2::As)) (λt=>i4 l-t.1) (1,l) ?_ ⟨js,i9,i5,?_,?_,λ_ _=>rfl,W⟩ ?_
   .try dsimp only
    rw[oe,m,q];simp;omega
   .try dsimp only
    rw[oe,m,q];simp;omega
   .try dsimp only
    rw[oe,m,q];simp
   rintro⟨k,D⟩ h3 ⟨am,ab,E,Q,d,p,G⟩;dsimp only at*;obtain⟨c,N⟩:=z6 (i4 (kM l (i+k)))
   rw[<-N]at Q d⊢;have ad:=(G.own 0 i5).len;have y:=(G.seq 0 i5 λ_=>rfl).drop i z;refine ae (λe3=>?_) (λe3=>?_)
   .have S:i+k<i4 l:=i6
    have ek:qd ka ((k:Int)-1)=((k-1:Nat):Int):=j7
    rw[ek];have X:∀j,k-1<=j->(g:i+j<i4 l)->(D.drop i)[j]?=dB (l.getD (i+j) kL):=λj g u=>by
     rw[wZ,p _ i6,getD_lt u,qc u]
    have gk:=X k i6 S;have R:=X (k-1) i6 i6;obtain⟨U,Y⟩:=ql.1 gk;obtain⟨Z,q2⟩:=ql.1 R;refine Seq.dO y k i5 U (l.getD (i+k) kL) (by rw[Y]) ?_;refine Seq.dO y (k-1) i5 Z (l.getD (i+(k-1)) kL) (by rw[q2]) (eJ k8 ?_);refine(Jz _ _ h3).x8 λh4 R4=>?_;have T:=G.up R4.ac;have o:lS l (i+k)=!decide (my (l.getD (i+k) kL) (l.getD (i+(k-1)) kL)=0):=by unfold lS;rw[ii (show¬i+k=0 by omega),show i+k-1=i+(k-1)by omega];simp
    have b:=oe l (i+k);rw[o]at b;refine⟨_,i5,A0,aX (λO=>?_) λO=>?_⟩
    .rw[O]at b;have a:i4 (kM l (i+(k+1)))=c+1:=by rw[<-wX,b];simp[N]
     have w:=(T.seq 0 i5 λ_=>rfl).drop i z;refine Seq.dO w k i5 U (l.getD (i+k) kL) (by rw[Y]) ?_;refine T.set ag 0 i5 (λ_=>rfl) i5 c i5 i6 (l.getD (i+k) kL) i5 i5 i5 λh5 H5=>?_;refine⟨(k+1,D.set c (l.getD (i+k) kL)),?_,⟨i9,i9,by dsimp only;rw[zf];exact E,by dsimp only;rw[a];omega,?_,λj g=>?_,H5⟩,i9⟩
     .try dsimp only
      rw[a,af _,af _];rfl
     .try dsimp only
      rw[a,aG _ c (by rw[zf];omega),List.getElem_set_self,List.take_set_of_le (qi _),d,<-wX,b];simp
     .dsimp only at g⊢;rw[wk i6];exact p j i6
    .rw[O]at b;have a:i4 (kM l (i+(k+1)))=c:=by rw[<-wX,b];simp[N]
     refine⟨(k+1,D),?_,⟨i9,i9,E,by dsimp only;rw[a];omega,?_,λj g=>p j (by dsimp only at g;omega),T⟩,i9⟩
     .try dsimp only
      rw[a,af _];rfl
     .try dsimp only
      rw[a,d,<-wX,b];simp
   .have J:i+k=i4 l:=i6
    refine⟨⟨i6,i6⟩,?_⟩;rw[qj];refine G.nk ag 0 i5 ack (λ_=>rfl) i5 i7 c i6 λh6 V=>⟨⟨i6,i6⟩,⟨s.ptr,c,s.cap⟩,i5,?_⟩
    rw[d,J]at V;exact V
  .refine⟨i+1,j4,⟨i6,i6,λj g=>?_,W⟩,i6⟩;by_cases M:j=i
   .subst M;unfold lS;rw[hU (show my (l.getD j kL) (l.getD (j-1) kL)≠0 by simpa using e2)];simp
   .exact F j i6
 .have L:i=i4 l:=by have e':=K;omega
  subst L;rw[f F];exact⟨s,i5,I⟩
end
def fieldsOf(d:Option TypeDesc):List (Bool×TypeId×Nat):=match d with|some (.struct fs)=>fs.toList.map (λf=>(f.name== "_",f.type,f.offset))|_=>[]
theorem YU:fieldsOf (Tryz.prog.underlying 25)=[(eX,3,0),(eX,3,1),(eX,3,2)]:=j6
theorem acm:Tryz.prog.stoodInHeld 25=eX:=j6
theorem acn:Tryz.prog.eqGuardType Tryz.prog.depth 25=eX:=j6
theorem PI{P:Program}{t:TypeId}{a b c:TypeId×Nat}(h:fieldsOf (P.underlying t)=[(eX,a.1,a.2),(eX,b.1,b.2),(eX,c.1,c.2)]):
  ∃f g e:Field,P.underlying t=dB (.struct #[f,g,e])/\(f.name≠ "_" /\f.type=a.1/\f.offset=a.2)/\(g.name≠ "_" /\g.type=b.1/\g.offset=b.2)/\(e.name≠ "_" /\e.type=c.1/\e.offset=c.2):=by
 cases hu:P.underlying t with
 |none=>rw[hu]at h;cases h
 |some d=>
  rw[hu]at h;cases d with
  |struct fs=>
   simp only[fieldsOf]at h;obtain⟨l⟩:=fs;have i:i4 l=3:=by simpa using congrArg vw h
   obtain⟨f,r,rfl⟩:=yF i;obtain⟨g,j,rfl⟩:=yF (by simpa using i:i4 r=1+1);obtain⟨e,k,rfl⟩:=yF (by simpa using i:i4 j=0+1);obtain rfl:k=[]:=by simpa using i
   simp at h;exact⟨f,g,e,i5,⟨h.1.1,h.1.2.1,h.1.2.2⟩,⟨h.2.1.1,h.2.1.2.1,h.2.1.2.2⟩,⟨h.2.2.1,h.2.2.2.1,h.2.2.2.2⟩⟩
  |_=>cases h
theorem jW{P:Program}{d:Nat}{t:TypeId}{k:IntKind}(h:∃c,P.underlying t=dB (.int c))(a b:Int):aH P (Op.equalIn (d+1) t (.int k a) (.int k b)) (a==b):=by obtain⟨c,h⟩:=h;unfold Op.equalIn;refine(aF h).bind ?_;simp only[if_true];exact .pure
theorem mR{P:Program}{t:TypeId}{k:IntKind}(h:P.underlying t=dB (.int k)){a:Array Value}{i:Nat}{v:Value}(b:a[i]?=dB v):aH P (part t a i) v:=by unfold part isAgg;refine aH.bind (v:=eX) ((aF h).bind .pure) ?_;simp only[zh,if_false,b];exact .pure
theorem aiY(p q:Pm):aH kg (Op.equal 25 (xZ #[xU ka p.1,xU ka p.2.1,xU ka p.2.2]) (xZ #[xU ka q.1,xU ka q.2.1,xU ka q.2.2])) (decide (p=q)):=by
 obtain⟨f,g,u,G,⟨D,z,F⟩,⟨B,x,y⟩,⟨A,E,u3⟩⟩:=PI (a:=(3,0)) (b:=(3,1)) (c:=(3,2)) YU;have H:∃k,Tryz.prog.underlying 3=dB (.int k):=⟨.i64,j6⟩
 obtain⟨k,d⟩:=H;unfold Op.equal;rw[show Op.maxDepth=9998+1+1 from i5,Op.equalIn];refine(aF G).bind ?_;refine aH.bind (v:=kg) (λw=>rfl) ?_;simp only[acm,zh,if_false,List.forIn_toArray,List.forIn_cons,List.forIn_nil,ne_eq,D,B,A,not_false_eq_true,if_true,z,F,x,y,E,u3];obtain⟨a,b,c⟩:=p;obtain⟨h,i,c'⟩:=q
 try dsimp only
 have m:aH kg (part 3 #[Value.int ka a,Value.int ka b,Value.int ka c] 0) _:=mR d i5;have n:aH kg (part 3 #[Value.int ka h,Value.int ka i,Value.int ka c'] 0) _:=mR d i5;have r:aH kg (part 3 #[Value.int ka a,Value.int ka b,Value.int ka c] 1) _:=mR d i5;have o:aH kg (part 3 #[Value.int ka h,Value.int ka i,Value.int ka c'] 1) _:=mR d i5;have t:aH kg (part 3 #[Value.int ka a,Value.int ka b,Value.int ka c] 2) _:=mR d i5;have s:aH kg (part 3 #[Value.int ka h,Value.int ka i,Value.int ka c'] 2) _:=mR d i5;by_cases j:a=h
 .by_cases l:b=i
  .by_cases h3:c=c'
   .have e:decide ((a,b,c)=(h,i,c'))=eS:=by simp[j,l,h3]
    rw[e];refine aH.bind (v:=(eH,())) (aH.bind (v:=ForInStep.yield (eH,())) (m.bind (n.bind ((jW ⟨k,d⟩ a h).bind ?_))) (aH.bind (v:=ForInStep.yield (eH,())) (r.bind (o.bind ((jW ⟨k,d⟩ b i).bind ?_))) (aH.bind (v:=ForInStep.yield (eH,())) (t.bind (s.bind ((jW ⟨k,d⟩ c c').bind ?_))) .pure))) .pure
    .simp only[j,beq_self_eq_true,yw,zh,if_false];exact .pure
    .simp only[l,beq_self_eq_true,yw,zh,if_false];exact .pure
    .simp only[h3,beq_self_eq_true,yw,zh,if_false];exact .pure
   .have e:decide ((a,b,c)=(h,i,c'))=eX:=by simp[h3]
    rw[e];refine aH.bind (v:=(dB eX,())) (aH.bind (v:=ForInStep.yield (eH,())) (m.bind (n.bind ((jW ⟨k,d⟩ a h).bind ?_))) (aH.bind (v:=ForInStep.yield (eH,())) (r.bind (o.bind ((jW ⟨k,d⟩ b i).bind ?_))) (aH.bind (v:=ForInStep.done (dB eX,())) (t.bind (s.bind ((jW ⟨k,d⟩ c c').bind ?_))) .pure))) .pure
    .simp only[j,beq_self_eq_true,yw,zh,if_false];exact .pure
    .simp only[l,beq_self_eq_true,yw,zh,if_false];exact .pure
    .rw[show(c==c')=eX by simpa using h3];simp only[yb,if_true];exact .pure
  .have e:decide ((a,b,c)=(h,i,c'))=eX:=by simp[l]
   rw[e];refine aH.bind (v:=(dB eX,())) (aH.bind (v:=ForInStep.yield (eH,())) (m.bind (n.bind ((jW ⟨k,d⟩ a h).bind ?_))) (aH.bind (v:=ForInStep.done (dB eX,())) (r.bind (o.bind ((jW ⟨k,d⟩ b i).bind ?_))) .pure)) .pure
   .simp only[j,beq_self_eq_true,yw,zh,if_false];exact .pure
   .rw[show(b==i)=eX by simpa using l];simp only[yb,if_true];exact .pure
 .have e:decide ((a,b,c)=(h,i,c'))=eX:=by simp[j]
  rw[e];refine aH.bind (v:=(dB eX,())) (aH.bind (v:=ForInStep.done (dB eX,())) (m.bind (n.bind ((jW ⟨k,d⟩ a h).bind ?_))) .pure) .pure;rw[show(a==h)=eX by simpa using j];simp only[yb,if_true];exact .pure
theorem ahM(x y:Operand)(p q:Pm):kU kg .neq 25 x y (xZ #[xU ka p.1,xU ka p.2.1,xU ka p.2.2]) (xZ #[xU ka q.1,xU ka q.2.1,xU ka q.2.2]) (xY (!decide (p=q))):=by
 unfold kU eqGuard;refine aH.bind (v:=()) ?_ ?_
 .simp only[yw,zh,if_false];refine aH.bind (v:=kg) (λw=>rfl) ?_;refine aH.bind (v:=kg) (λw=>rfl) ?_;simp only[acn,yb,if_true];exact .pure
 .exact(aiY p q).bind .pure
def VX(P:bU->Bool)(l:List bU)(i:Int):Prop:=(i=-1/\l.any P=eX)∨∃n:Nat,∃h:n<i4 l,i=n/\P l[n]=eS/\(l.take n).any P=eX
theorem PJ{P:bU->Bool}{l:List bU}{i:Int}(h:VX P l i):decide (i>=0)=l.any P:=by
 rcases h with⟨rfl,h⟩|⟨n,hn,rfl,h,_⟩
 .rw[h];rfl
 .rw[zT.2 ⟨_,qe hn,h⟩];exact hU i6
theorem Hb(f:FuncId)(pre post:Array Value)(P:Qw.bU->Bool)(l:Sl)(a:List Qw.bU)(h:f9)(w:C.fns[f]?=dB eS)(m:eF vk h l a)(B:i4 a<=2^30)
  (q:∀(u:eE) (E:Qw.bU) (h':f9),Sp h h' []->eF kF h' u E->E∈a->ai kg f (pre.toList++[Value.agg #[xX u.1,xU ka u.2.1,xU ka u.2.2.1,u.2.2.2]]++post.toList).toArray h' λv e=>v=xY (P E)/\Sp h' e []):
  ai kg 159 #[l,.func (.func f) pre post] h λv h'=>(∃i:Int,v=xU ka i/\VX P a i)/\Sp h h' []:=by
 refine iA l (f,pre,post) ?_;obtain⟨k,n,A,o⟩:=bM.kI m;have s:=bM.len m;refine an (λi:Nat=>(i:Int)) (λi h'=>i<=i4 a/\(a.take i).any P=eX/\Sp h h' []) (λi=>i4 a-i) 0 i5 ⟨i6,js,Sp.refl h⟩ ?_;rintro i r ⟨D,b,d⟩;refine ae (λg=>?_) (λg=>?_)
 .have c:i<i4 a:=by have p:=g;omega
  have x:=kF.mono (kF.loc (o i i6 c) d.ac) λ_ t=>qT t d.ac.1;refine(Seq.up n d.ac).dO i i5 i6 (k[i]'i6) i5 (eJ w ?_);refine(q (k[i]'i6) a[i] r d x (qe c)).x8 λz y=>?_;have j:=d.up y.ac;refine⟨_,i5,aP (λe2=>⟨⟨i,i5,.inr ⟨i,c,i5,e2,b⟩⟩,j⟩) λe2=>?_⟩;refine⟨i+1,j4,⟨i6,?_,j⟩,i6⟩;rw[aG _ _ c,yI,b,List.any_cons,List.any_nil,e2];rfl
 .have p:=g;rw[qh i6]at b;exact⟨⟨-1,i5,.inl ⟨i5,b⟩⟩,d⟩
theorem Lj(f:FuncId)(pre post:Array Value)(P:Qw.bU->Bool)(l:Sl)(a:List Qw.bU)(h:f9)(g:C.fns[f]?=dB eS)(j:eF vk h l a)(e:i4 a<=2^30)
  (d:∀(u:eE) (E:Qw.bU) (h':f9),Sp h h' []->eF kF h' u E->E∈a->ai kg f (pre.toList++[Value.agg #[xX u.1,xU ka u.2.1,xU ka u.2.2.1,u.2.2.2]]++post.toList).toArray h' λv b=>v=xY (P E)/\Sp h' b []):
  ai kg 140 #[l,.func (.func f) pre post] h λv h'=>v=xY (a.any P)/\Sp h h' []:=by
 refine ts Tryz.func140 ?_ (args:=[l,(.func (.func f) pre post)]);refine(Hb f pre post P l a h g j e d).mono ?_;rintro _ m ⟨⟨i,rfl,k⟩,c⟩;exact⟨i,i5,by rw[PJ k],c⟩
theorem rp(o b t:Int)(h:f9):ai kg 103 #[xU ka o,xU ka b,xU ka t] h λv h'=>v=xU ke (cg o b t)/\h'=h:=by
 refine ts Tryz.func103 ?_;refine⟨?_,i5⟩;have:qd ke ((qd ke ((qd ke ((128:Int)*(qd ke o)))+(qd ke ((16:Int)*(qd ke b)))))+(qd ke t))=cg o b t:=by unfold cg qd;simp[qz,vp];omega
 rw[this]
theorem Sb(x:bw)(m:au)(y:bC)(r:cH)(h:f9)(q:cN h x m)(V:cw m)(K:eF fx h y r):
  ai kg 171 #[eO x,recv y] h λv h'=>v=xY (eu m r)/\Sp h h' []:=by
 refine ts Tryz.func171 ?_ (xc (x6 [] [(4,15)] v6)) (args:=[x,y]);refine(Sp.refl h).boxed λa1 h1 U=>U.boxed λi S l=>?_;obtain⟨⟨e1,e2,e3,B,Z,e7,e8⟩,e6⟩:=id K;have D:=congrArg (·.1) q.p;have t:=congrArg (·.2.1) q.p;have F:=congrArg (·.2.2) q.p;have H:=congrArg (·.1) B;have I:=congrArg (·.2.1) B;have G:=congrArg (·.2.2) B;have ab:=V.ob;refine aJ ⟨y,(l.box 1 i5).aE _ i5,(Ha y r S (fx.mono (fx.loc K l.ac) λ_ hb=>qT hb l.ac.1)).x8 λh3 T=>?_⟩;have d:=l.up T.ac;have Q:=d.box 0 i5;have s:=d.box 1 i5;refine⟨_,i5,aX (λg=>⟨by unfold eu;rw[g];rfl,.zip d.ac⟩) λg=>?_⟩;obtain⟨_,g2,_⟩:=(jI r).1 g;refine⟨r.p,by rw[<-H,<-I,<-G];exact s.GA 3 i5 i5 i5,m.p,by rw[<-D,<-t,<-F];exact Q.GA 2 i5 i5 i5,_,ahM _ _ r.p m.p,aX (λA=>⟨?_,.zip d.ac⟩) λA=>?_⟩
 .unfold eu;rw[g,A];rfl
 obtain⟨P,M⟩:∃P:Qw.bU->Bool,P=λx=>decide (x.object=r.object)&&(decide (r.block<(x.tries.length:Int))&&decide (r.seed=cg r.object r.block (x.tries.getD r.block.toNat 0))):=⟨_,rfl⟩
 have z:eu m r=m.aA.any P:=by unfold eu;rw[g,A,M];rfl
 refine⟨x.2.2.2.2.2.2.2,Q.cell i5,?_⟩;refine(Lj 238 #[] #[xW (dB i)] P x.2.2.2.2.2.2.2 m.aA h3 k8 (q.up d.ac).aA i6 λu E R H4 he _=>?_).mono ?_
 .obtain⟨⟨y1,y2,y3⟩,L⟩:=he;have W:=Seq.len L;have j:=s.ac H4.ac s.lt;refine ts Tryz.func238 ?_ (args:=[u,i]);refine(Sp.refl R).boxed λa5 a c=>?_;have O:=c.box 0 i5;have b:=j.ac c.ac j.lt;have o:f8 a (a5.add 1)=dB (xU ka E.object):=by rw[<-y2];exact O.cell i5
  have k:f8 a (a5.add 3)=dB (xV u.2.2.2.ptr u.2.2.2.len u.2.2.2.cap):=O.cell i5;have f:f8 a i=dB (xU ka r.object):=by rw[<-e1];exact b.cell0 i5
  have e:f8 a (i.add 1)=dB (xU ka r.block):=by rw[<-e2];exact b.cell i5
  have N:f8 a (i.add 6)=dB (xU ke r.seed):=by rw[<-Z];exact b.cell i5
  rw[M];refine⟨E.object,o,r.object,f,aY (λw=>?_) λw=>⟨⟨f,o,A0⟩,?_,.zip c.ac⟩⟩
  .refine⟨u.2.2.2,k,r.block,e,ae (λX=>?_) λX=>⟨⟨e,k,f,o,A0⟩,?_,.zip c.ac⟩⟩
   .have J:r.block.toNat<E.tries.length:=i6
    refine⟨r.seed,N,r.object,f,r.block,e,u.2.2.2,k,r.block,e,?_⟩;refine Seq.bm (Seq.up L c.ac) r.block.toNat i6 J (E.tries.getD r.block.toNat 0) (by rw[getD_lt J];rfl) ?_;refine(rp _ _ _ a).x7 ⟨_,i5,⟨e,k,N,e,k,f,o,A0⟩,?_,.zip c.ac⟩
    try dsimp only
    rw[hU w,hU (show r.block<(E.tries.length:Int)by omega),wP,wP];congr 1
   .try dsimp only
    rw[ii (show¬r.block<(E.tries.length:Int)by omega)];simp
  .try dsimp only
   rw[ii w];rfl
 .rintro _ a ⟨rfl,Y⟩;exact⟨_,i5,by rw[z],.zip (aa.up d Y.ac).ac⟩
def Bf(k:Nat)(f:α->aW):jm Sl (List α):=⟨λh q s l=>Seq h q s k f l/\s.len<=s.cap,λa b=>⟨a.1.ac b,a.2⟩,λa c=>⟨a.1.mono c,a.2⟩⟩
theorem aa.aeN{B:aw}{h0 h:f9}{As:List HP}{e a k:Nat}{s:Sl}{f:α->aW}{b:List (List α)}(H:aa B h0 h (fC e s a k f b::As))(o:∀x,i4 (f x)=k):∃rs,aa B h0 h (dn (Bf k f) 1 bx s rs b::As):=by
 obtain⟨rs,H⟩:=H.sI;obtain⟨H,j⟩:=H.HE;refine⟨rs,H.fN 0 i5 λq g=>⟨?_,j,λi r l d c=>?_⟩⟩
 .have:=HP.Cj (i:=0) g i5;exact this.1.seq (λ_=>rfl) this.2
 .have m:=(ql.1 c).1;have n:=fo (e:=a) (k:=k) (f:=f) j i m;have:=HP.Cj (i:=i+1) g (by simpa using n);have p:rs[i]'i6=r:=by rw[qc i6]at d;simpa using d
  have a:b[i]=l:=by rw[qc m]at c;simpa using c
  rw[p,a]at this;exact⟨this.1.seq o this.2,this.1.cap⟩
def jX(T:List (bC×cH)):HP:=⟨λh q=>∀t∈T,fx.p h q t.1 t.2,λa c t b=>fx.loc (a t b) c,λa d t b=>fx.mono (a t b) d⟩
def Keyed(T:List (bC×cH)):Prop:=∀t∈T,t.1.1=t.2.object/\t.1.2.1=t.2.block/\t.1.2.2.1=t.2.id
def PK(a b:bC×cH):Bool:=rK a.2 b.2
theorem aco{T:List (bC×cH)}(k:Keyed T):∀a∈T,∀b∈T,PK a b=cA a.1 b.1:=λa e b f=>by
 obtain⟨g,d,a3⟩:=k a e;obtain⟨i,c,h⟩:=k b f;unfold PK rK cA;rw[decide_eq_decide,Ci,g,d,a3,i,c,h]
theorem VY{T:List (bC×cH)}(k:Keyed T):(T.mergeSort PK).map qD=(T.map qD).mergeSort cA/\(T.mergeSort PK).map zw=(T.map zw).mergeSort rK/\Keyed (T.mergeSort PK):=
 ⟨vS (aco k),vS λa _ b _=>rfl,λt c=>k t (vg.1 c)⟩
def JA:bC×cH:=(kL,Jf)
def Ff(T:List (bC×cH)):List (bC×cH):=((qn T.length).filter (ux (T.map zw))).map λi=>T.getD i JA
theorem getD_map{α β:Type}(f:α->β)(l:List α)(i:Nat)(d:α):(l.map f).getD i (f d)=f (l.getD i d):=by rw[qg,qg,qR];cases l[i]?<;>rfl
theorem YV{T:List (bC×cH)}(k:Keyed T):(Ff T).map qD=PH (T.map qD)/\(Ff T).map zw=tU (T.map zw)/\∀t∈Ff T,t∈T:=by
 have m:∀i,i<i4 T->lS (T.map qD) i=ux (T.map zw) i:=λi a=>by
  unfold lS ux;have g:∀j,j<i4 T->(T.map qD).getD j kL=(T[j]?.getD JA).1/\(T.map zw).getD j Jf=(T[j]?.getD JA).2:=λj l=>by
   rw[qg,qg,qR,qR,qc l];exact⟨i5,i5⟩
  by_cases h0:i=0
  .rw[hU h0];rfl
  .rw[ii h0,xx,xx,(g i a).1,(g i a).2,(g (i-1) i6).1,(g (i-1) i6).2];rw[qc a,qc (show i-1<i4 T by omega)];obtain⟨f,o,a3⟩:=k _ (qe a);obtain⟨r,e,q⟩:=k _ (qe (show i-1<i4 T by omega));unfold nU;simp only[xp];have c:=YR T[i].1 (T[i-1]'i6).1;rw[f,o,a3,r,e,q]at c;by_cases b:my T[i].1 (T[i-1]'i6).1=0
   .rw[ii λh=>h b,hU (c.1 b)];rfl
   .rw[hU b,ii λn=>b (c.2 n)];rfl
 have p:=List.filter_congr λi a=>m i (qK.1 a);refine⟨?_,?_,λt d=>?_⟩
 .unfold Ff PH kM;rw[qp,p,yf];congr 1;funext i;exact(getD_map qD T i JA).symm
 .unfold Ff tU;rw[qp,yf];congr 1;funext i;exact(getD_map zw T i JA).symm
 .unfold Ff at d;obtain⟨i,a,rfl⟩:=qo.1 d;have:=qK.1 (qB.1 a).1;rw[getD_lt this];exact qe this
theorem DT(a pw:f7)(d:be)(s b:Sl)(x:bw)(m:au)(h:f9)(F:bN h a 168 (fQ pw d s b))(hl:fm h s 1 aB d.l)(ok:iB d)(hx:cN h x m)(hz:cw m):
  ai kg 107 #[xW (dB a),eO x] h λv h'=>∃(r:Sl) (T:List (bC×cH)),v=r/\T.map zw=dJ m d.l/\Keyed T/\Sp h h' [cx r (T.map qD),jX T]:=by
 refine ts Tryz.func107 ?_ (xc (.scope 0 [(6,cE),(7,aR)] [(4,5),(6,10),(12,40)] [v6,v6,v6] [(.two v6 (.two v6 (.two (.join [(6,cE)] [(6,7),(8,10),(18,36)] v6) v6)))] [(1,[v6])])) (args:=[(dB a),x]);have ab:=ok.len;have Q:=ok.room;refine(Sp.refl h).boxed λG h1 W=>?_;refine(Ii s b (F.ac W.ac F.lt) (hl.up W.ac) ok).y0 λH h2 R2=>?_;have L:=W.bS R2;obtain⟨rs,L⟩:=aa.aeN L λ_=>rfl;refine⟨H,i5,?_⟩;have F2:=L.dZ 0 i5;have ah:=F2.1.len;have ad:=F2.2.1;have w:Sp h h2 [cx ⟨eH,0,0⟩ [],jX [],dn (Bf 1 aB) 1 bx H rs d.l,ak G 48 (aV x)]:=
  ((L.comp (.one (aS.refl _ _) λt f=>(by cases f))).nil 166 8 bZ).bO [3,2,0,1]
 refine an (λt:Sl×Nat×List (bC×cH)=>(t.1,(t.2.1:Int)-1)) (λt h'=>t.2.1<=i4 d.l/\t.2.2.length<=t.2.1/\Keyed t.2.2/\t.2.2.map zw=(d.l.take t.2.1).filterMap (kJ m)/\Sp h h' [cx t.1 (t.2.2.map qD),jX t.2.2,dn (Bf 1 aB) 1 bx H rs d.l,ak G 48 (aV x)]) (λt=>i4 d.l-t.2.1) (⟨eH,0,0⟩,0,[]) i5 ⟨js,js,(λt f=>(by cases f)),js,w⟩ ?_;rintro⟨o,i,T⟩ h3 ⟨hi,am,K,k,w⟩;dsimp only at*;have ei:qd ka ((i:Int)-1+1)=(i:Int):=j7
 rw[ei];refine ae (λe=>?_) (λe=>?_)
 .have N:i=i4 d.l:=i6
  subst N;rw[qL]at k;refine(Be (T.map qD) nq w).x8 λh4 H4=>?_;obtain⟨s1,s2,s3⟩:=VY K;rw[<-s1]at H4;refine⟨(),i5,(Ak _ (by rw[qp,List.length_mergeSort];omega) H4).y0 λr5 h5 H5=>?_⟩;obtain⟨c1,c2,c3⟩:=YV s3;rw[<-c1]at H5;refine⟨r5,i5,r5,Ff (T.mergeSort PK),i5,?_,λt f=>s3 t (c3 t f),?_⟩
  .have hr:dJ m d.l=(Ff (T.mergeSort PK)).map zw:=by unfold dJ;rw[<-k,c2,s2]
   exact hr.symm
  .exact(H5.fN 1 i5 λq z t f=>z t (vg.1 (c3 t f))).bO [0,1]
 .have B:i<i4 d.l:=i6
  have g:=Vs m d.l i B;have next:∀{h':f9} {u:Sl} {T':List (bC×cH)},i4 T'<=i+1->Keyed T'->T'.map zw=(d.l.take (i+1)).filterMap (kJ m)->Sp h h' [cx u (T'.map qD),jX T',dn (Bf 1 aB) 1 bx H rs d.l,ak G 48 (aV x)]->
    ∃j:Sl×Nat×List (bC×cH),((⟨u.ptr,u.len,u.cap⟩:Sl),(i:Int))=(j.1,(j.2.1:Int)-1)/\(j.2.1<=i4 d.l/\j.2.2.length<=j.2.1/\Keyed j.2.2/\j.2.2.map zw=(d.l.take j.2.1).filterMap (kJ m)/\Sp h h' [cx j.1 (j.2.2.map qD),jX j.2.2,dn (Bf 1 aB) 1 bx H rs d.l,ak G 48 (aV x)])/\d.l.length-j.2.1<i4 d.l-i:=λ{h' u T'} Z q2 q3 q4=>
   ⟨(u,i+1,T'),by dsimp only;congr 1;omega,⟨i9,Z,q2,q3,q4⟩,i9⟩
  refine aJ ?_;refine(w.dZ 2 i5).1.mi i i5 i6 ?_;obtain⟨p,O⟩:=Fix.row (w.dZ 2 rfl) B;obtain⟨c,hc⟩:=z6 (d.l[i])
  rw[<-hc]at p g;have al:i4 c=64:=by rw[hc];exact ok.cell _ (qe B)
  refine(PE (rs[i]'i6) c h3 p i6 O).y0 λy h6 ⟨Q0,Q1⟩=>⟨(y,(dS c).isSome),i5,?_⟩
  try dsimp only
  cases htr:dS c with
  |none=>
   have J:kJ m c=eH:=by unfold kJ;rw[htr]
   rw[J,Option.toList_none,qI]at g;have X:=w.up (Q0 htr).ac;refine X.alloc ag i5 λa9 h7 V=>?_;refine V.storeAll ag 4 i5 i5 (bZ y) i5 i5 i5 i5 λh8 E=>aP (λe=>j3) λ_=>?_;exact next i6 K (by rw[k,g]) (E.bO [0,1,2,3])
  |some r=>
   have X:=w.bS (Q1 r htr);refine X.alloc ag i5 λa9 h7 V=>?_;refine V.storeAll ag 5 i5 i5 (bZ y) i5 i5 i5 i5 λh8 E=>aP (λ_=>?_) λe=>j3
   have Y:=E.eAt 0 i5;have P:bt h8 G 0 (aV x):=(E.box 4 i5).aE _ i5;have S:bt h8 a9 0 (bZ y):=(E.box 5 i5).aE _ i5;have R:=Sb x m y r h8 (hx.up E.ac) hz Y;refine⟨x,P,y,S,R.mono ?_⟩;rintro _ h9 ⟨rfl,R9⟩;have U:=E.up R9.ac;refine⟨_,i5,aP (λe2=>?_) λe2=>?_⟩
   .have J:kJ m c=dB r:=by unfold kJ;rw[htr];exact g0 e2
    rw[J,Option.toList_some]at g;refine⟨y,(U.box 5 i5).aE _ i5,?_⟩;refine U.push ag 1 i5 ack i5 i7 (λ_=>rfl) afB y j6 i7 nq λu ao I=>?_;have A:=(I.eAt 0 i5).1;have M:=I.merge 2 0 i7 i5 i5 (D:=jX (T++[(y,r)])) (λZ q2 _ p1 p2 t f=>by
     rcases qt.1 f with f|f
     .exact fx.mono (p1 t f) λ_ F=>.inl F
     .rw[qw.1 f];exact fx.mono p2 λ_ F=>.inr F)
    refine next (T':=T++[(y,r)]) jj (λt f=>?_) (by rw[qP,k,g];rfl) ?_
    .rcases qt.1 f with f|f
     .exact K t f
     .rw[qw.1 f];exact⟨A.1,A.2.1,A.2.2.1⟩
    .rw[qP];exact M.bO [1,2,3,4]
   .have J:kJ m c=eH:=by unfold kJ;rw[htr];exact g9 (by rw[e2];simp)
    rw[J,Option.toList_none,qI]at g;exact next i6 K (by rw[k,g]) (U.bO [1,2,3,4])
theorem rq(a pw:f7)(d:be)(s b:Sl)(x:bw)(m:au)(h:f9)(w:bN h a 168 (fQ pw d s b))(z:fm h s 1 aB d.l)(ok:iB d)(y:cN h x m)(p:cw m):
  ai kg 107 #[xW (dB a),eO x] h λv h'=>∃(r:Sl) (u:List bC),v=r/\Sp h h' [dn fx 8 bZ r u (dJ m d.l)]:=by
 refine(DT a pw d s b x m h w z ok y p).mono ?_;rintro _ h' ⟨r,T,rfl,g,_,H⟩;refine⟨r,T.map qD,i5,?_⟩;have n:=(H.freeze 0 i5 λ_=>rfl).mh;have i:aa _ _ _ (dn fx 8 bZ r (T.map qD) (dJ m d.l)::_):=n.fN 0 i5 λq ⟨A,B,_,b,c,k,o⟩=>by
  rw[<-g];refine⟨Seq.mono o c,js,λj D l' e f=>?_⟩;rw[qR]at e f;cases g3:T[j]? with
  |none=>rw[g3]at e;cases e
  |some t=>
   rw[g3]at e f;simp at e f;subst e;subst f;exact fx.mono (k t (yz g3)) b
 exact i.bO [0]
def bz(l:av)(k:Nat):av:=((qn k).map λi:Nat=>(i:Int)).filter λi=>decide (0<l.getD i.toNat 0)
def fZ(l:av):av×Bool:=
 if l.all (ga · 0 512)then(bz l l.length,decide (i4 l<=64)&&decide (0<i4 (bz l l.length)))else([],eX)
theorem DU(l:av)(k:Nat)(a:k<i4 l):bz l (k+1)=bz l k++if 0<l[k]then[(k:Int)]else[]:=by unfold bz;rw[zt,qP,zk];congr 1;simp only[List.map_cons,List.map_nil,zN,vN,qj,qg,qc a,xp];by_cases h:0<l[k]<;>simp[h]
theorem rv(l:av)(k:Nat):i4 (bz l k)<=k:=by unfold bz;exact qM (qE _ _) js
theorem Se(s:Sl)(l:av)(h:f9)(m:Rd h s 1 az l)(F:i4 l<=2^20):
  ai kg 87 #[s] h λv h'=>∃r:Sl,v=.tuple #[r,xY (fZ l).2]/\Sp h h' [aq 3 r 1 az (fZ l).1]:=by
 refine ts Tryz.func87 ?_ (xc (xc (u9 (xc (v7 (ws [(4,cE),(9,aR)] [(2,7),(9,27)] (xc (xc (u9 (v7 (xc (x6 [] [(2,4),(14,20)] v6))) v6)))))) v6)));have z:=m.len;have u:=(Sp.refl h).nil 3 1 az;refine an (λt:Sl×Nat=>(t.1,(t.2:Int))) (λt h'=>t.2<=i4 l/\(l.take t.2).all (ga · 0 512)=eS/\Sp h h' [aq 3 t.1 1 az (bz l t.2)]) (λt=>i4 l-t.2) (⟨eH,0,0⟩,0) i5 ⟨js,js,u⟩ ?_;rintro⟨o,i⟩ E ⟨G,b,d⟩;dsimp only at*;have f:∀(a:i<i4 l),ga l[i] 0 512=eX->fZ l=([],eX):=λa g=>by
  unfold fZ;rw[g9];intro q;have:=qS.1 q _ (qe a);rw[g]at this;cases this
 refine ae (λe=>?_) (λe=>?_)
 .have a:i<i4 l:=i6
  have w:=rv l i;refine(Seq.up m d.ac).bm i i5 a l[i] i5 ?_;refine aJ (ae (λk=>?_) λk=>ae (λe2=>?_) λe2=>?_)
  .have g:=f a o7;rw[g];exact⟨⟨eH,0,0⟩,i5,(d.bO []).nil 3 1 az⟩
  .have g:=f a o7;rw[g];exact⟨⟨eH,0,0⟩,i5,(d.bO []).nil 3 1 az⟩
  .have c:(l.take (i+1)).all (ga · 0 512)=eS:=by rw[aG l i a,yH,b,wP,List.all_cons,List.all_nil,Bool.and_true];unfold ga;simp;omega
   refine ae (λx=>?_) (λx=>?_)
   .refine d.push ag 0 i5 gz i5 i7 (λ_=>rfl) eZ (i:Int) i5 i7 i6 λp D B=>?_;refine⟨(p,i+1),j0,⟨i9,c,?_⟩,i9⟩
    try dsimp only
    rw[DU l i a,g0 i6];exact B
   .refine⟨(o,i+1),j0,⟨i9,c,?_⟩,i9⟩
    try dsimp only
    rw[DU l i a,g9 i6,qI];exact d
 .have j:i=i4 l:=i6
  subst j;rw[qL]at b;have y:=(d.own 0 i5).len;have A:fZ l=(bz l l.length,decide (i4 l<=64)&&decide (0<i4 (bz l l.length))):=by unfold fZ;rw[g0 b]
  rw[A];refine ae (λk=>⟨o,?_,d⟩) (λk=>⟨o,?_,d⟩)
  .try dsimp only
   rw[hU (show l.length<=64 by omega),wP];congr 4;refine congrArg Value.bool ?_;rw[decide_eq_decide];omega
  .try dsimp only
   rw[ii (show¬i4 l<=64 by omega),Bool.false_and]
section
variable {pw:f7}
theorem dt(x:bw)(m:au)(d:cN h x m)(f:cw m)(H:aa B h0 h (bc bi a pw (aV x) offs da w ds::As)):
  ai kg 27 #[xW (dB a)] h λv h'=>∃r:Sl,v=r/\Sp h h' [aq 3 r 1 az (aK ds m.drives)]:=by
 refine ts Tryz.func27 ?_;obtain⟨ok,g⟩:=aa.cj H;have c:=f.dr;refine aP (λe=>j3) λ_=>⟨a,i5,x.2.2.2.2.2.2.1,g.cell i5,(Jw _ m.drives d.drives i6 H).y0 λr i b=>?_⟩;exact⟨r,i5,r,i5,b⟩
theorem lT(x:bw)(m:au)(l:cN h x m)(g:cw m)(H:aa B h0 h (bc bi a pw (aV x) offs da w ds::As)):
  ai kg 9 #[xW (dB a)] h λv h'=>∃y:bw,v=eO y/\Sp h h' [bJ y m]:=by
 refine ts Tryz.func9 ?_;obtain⟨ok,f⟩:=aa.cj H;refine(Sp.refl h).alloc ag i5 λo j b=>?_;have c:=f.ac b.ac f.lt;refine aP (λe=>j3) λ_=>⟨a,i5,x,c.aE _ i5,(Ju x m j (l.up b.ac) g).y0 λy n k=>?_⟩;have i:=b.comp k;refine⟨y,i5,?_⟩;refine i.store ag 0 i5 i5 0 (aV y) i5 i5 i5 k7 λh3 d=>?_;exact⟨y,(d.box 0 i5).aE _ i5,y,i5,d.bO [1]⟩
end
def cF(w:Pow)(offs:Int):Bool:=w.off||w.offs !=offs
section
variable {pw:f7}
theorem aa.afC(H:aa B h0 h (bc bi a pw mc offs da w ds::As)):∃l,Js w l/\bN h pw 126 (powC w l):=by obtain⟨ok,c⟩:=Qw.aa.oZ H;have e:=c.rest;obtain⟨l,b,d⟩:=aa.Ch e;exact⟨l,b,d.box 0 i5⟩
theorem sg(H:aa B h0 h (bc bi a pw mc offs da w ds::As)):
  ai kg 43 #[xW (dB a)] h λv h'=>v=xY (cF w offs)/\h'=h:=by
 refine ts Tryz.func43 ?_ v6 [(1,(.l [0,1,2,3,4,5,6,7,8,9,10,11,12,13,15,16,17,18,14,19,20,21,22]))];obtain⟨ok,f⟩:=aa.cj H;obtain⟨l,i,g⟩:=aa.afC H;have d:f8 h (a.add 8)=dB (xW (dB pw)):=f.cell (PF ok.l8);have c:f8 h (a.add 9)=dB (xU ka offs):=f.cell (VU ok.l8);refine aP (λ_=>?_) (λe=>j3);refine⟨a,i5,dB pw,d,(Gz l g).x7 ?_⟩;refine⟨_,i5,A0,aX (λe=>⟨A0,?_⟩) λe=>?_⟩
 .have b:w.off=eS:=l9
  exact⟨by unfold cF;rw[b];rfl,i5⟩
 .have b:w.off=eX:=l9
  refine⟨a,i5,dB pw,d,a,i5,offs,c,(Mx l g).x7 ?_⟩;exact⟨_,i5,⟨c,A0⟩,by unfold cF;rw[b];rfl,i5⟩
theorem DV(H:aa B h0 h (bc bi a pw mc offs da w ds::As)):
  ai kg 50 #[xW (dB a)] h λv h'=>v=xW (dB pw)/\h'=h:=by
 refine ts Tryz.func50 ?_;obtain⟨ok,b⟩:=aa.cj H;exact aP (λe=>j3) λ_=>⟨a,i5,dB pw,b.cell (PF ok.l8),i5,i5⟩
end
section
variable {k:Kit} {pw:f7}
theorem aa.ahN(H:aa B h0 h As):∀n,aa B h0 h (qf n emp++As)
 |0=>H
 |n+1=>(((aa.ahN H n).comp (.one (A:=emp) (aS.refl _ _) A0)).aZ:aa B h0 h (emp::(qf n emp++As)))
theorem aa.YW(h8:i4 mc=8)(H:aa B h0 h (ak a k.tS (cU mc pw offs (qf 64 eH))::dM k.tP pw w::As)):aa B h0 h (bc k a pw mc offs (qf 64 eH) w (qf 64 eH)::As):=by
 have ok:gN mc (qf 64 eH) (qf 64 (eH:Option be)):=⟨h8,js,js,λi=>by
  simp only[qg,zX];split<;>rfl⟩
 have f:gH k pw (qf 64 eH) (qf 64 (eH:Option be))=qf 64 emp:=by simp[gH,ahL]
 refine aa.pv ok ?_;rw[f];have g:=aa.ahN H 64;refine g.pick (λi=>if i=0 then 64 else if i=1 then 65 else if i<66 then i-2 else i) (λx y b=>by(try dsimp only at b);split at b<;>split at b<;>(try split at b)<;>(try split at b)<;>(try split at b)<;>(try split at b)<;>omega) λi A d=>?_;rcases i with _|_|i
 .simpa using d
 .simpa using d
 .by_cases e:i<64
  .have c:(qf 64 emp++As)[i]?=dB A:=d;rw[qq l9]at c
   try dsimp only
   rw[g9 i6,g9 i6,g0 i6,qq jj];simpa using c
  .have c:(qf 64 emp++As)[i]?=dB A:=d;rw[qk jj]at c
   try dsimp only
   rw[g9 i6,g9 i6,g9 i6,qk jj];simp only[List.length_replicate]at c⊢;obtain⟨j,rfl⟩:∃j,i=j+64:=⟨i-64,i6⟩
   have e2:j+64+1+1-64=j+1+1:=i6
   rw[e2];simpa using c
end
theorem YX(x:bw)(pw:f7)(offs:Int):aH kg (Instr.build 75 #[(0,eO x),(1,xW (dB pw)),(2,xU ka offs)]) (xZ (cU (aV x) pw offs (qf 64 eH)).toArray):=
 pI ag (i:=_) i5 i5 i5 (vs:=[(0,eO x),(1,xW (dB pw)),(2,xU ka offs)]) (cells:=(cU (aV x) pw offs (qf 64 eH)).toArray) j6
section
variable {k:Kit} {pw b:f7}
theorem MC(h8:i4 mc=8):(cU mc pw offs da).set (10+n) (xW (dB b))=cU mc pw offs (da.set n (dB b)):=by unfold cU;rw[qN _ _ i6,h8,show 10+n-8=n+1+1 by omega,zO,zO,List.map_set]
theorem aa.afD(ok:gN mc da ds)(z:n<64)(v:ds[n]?=dB eH)(H:aa B h0 h (ak a k.tS (cU mc pw offs (da.set n (dB b)))::dM k.tP pw w::(gH k pw da ds++(iS k.tD (k.f pw) b d::As)))):aa B h0 h (bc k a pw mc offs (da.set n (dB b)) w (ds.set n (dB d))::As):=by
 have s:=ok.YS z v;have m:=ok.la;have o:=ok.ls;have r:gN mc (da.set n (dB b)) (ds.set n (dB d)):=⟨ok.l8,by simp[m],by simp[o],λi=>by
  by_cases F:n=i
  .grind
  .have:=ok.same i
   grind⟩
 have p:=Dj (k:=k) (pw:=pw) ok;have t:(gH k pw da ds)[n]?=dB emp:=by simp only[gH,wc,s,v];rfl
 have c:gH k pw (da.set n (dB b)) (ds.set n (dB d))=(gH k pw da ds).set n (iS k.tD (k.f pw) b d):=by
  apply zp;intro j;simp only[gH,qV,wc,y6];by_cases g:n=j
  .subst g;rw[g0 i5,g0 i6,g0 i5,g0 i6,g0 i5,g0 i6];rfl
  .simp[g]
 refine aa.pv r ?_;rw[c];obtain⟨L,q⟩:=z6 (gH k pw da ds)
 rw[<-q]at H t p⊢;have u:=H.cons (i4 L+2) (A:=iS k.tD (k.f pw) b d) js;have e:(ak a k.tS (cU mc pw offs (da.set n (dB b)))::dM k.tP pw w::(L++(iS k.tD (k.f pw) b d::As))).set (i4 L+2) emp=ak a k.tS (cU mc pw offs (da.set n (dB b)))::dM k.tP pw w::(L++(emp::As)):=js
 rw[e]at u;have E:=u.aI 3 [0,2,1];have l:L.set n emp=L:=by
  obtain⟨I,x⟩:=ql.1 t
  conv=>lhs;rw[<-x]
  simp
 have D:aa B h0 h (iS k.tD (k.f pw) b d::dM k.tP pw w::ak a k.tS (cU mc pw offs (da.set n (dB b)))::(L.set n emp++(emp::As))):=by rw[l];exact E
 have G:=aa.GB n i6 D;have y:=aa.closeAll (ak a k.tS (cU mc pw offs (da.set n (dB b)))::dM k.tP pw w::L.set n (iS k.tD (k.f pw) b d)) G;exact aa.pk (L:=ak a k.tS (cU mc pw offs (da.set n (dB b)))::dM k.tP pw w::L.set n (iS k.tD (k.f pw) b d)) y.pL
end
def cV(p:Pm)(extra:Int)(l:av):au:=⟨1,0,p,extra,bz l l.length,[]⟩
def jF(l:av)(k:Nat):aD:=(qn 64).map λi:Nat=>if(i:Int)∈(bz l l.length).take k then dB (be.new (l.getD i 0).toNat)else eH
def ey(p:Pm)(extra:Int)(w:Pow)(l:av):Int×Pow×aD:=
 if(fZ l).2&&(bB p&&ga extra 0 16)then
  if(bz l l.length).any λi=>decide (l.getD i.toNat 0<(i4 (ba (cV p extra l)):Int))then(7,w,[])
  else layAll (bA (cV p extra l) (bz l l.length)) w (jF l (bz l l.length).length)
 else(1,w,[])
theorem PL(l:av):jF l 0=qf 64 eH:=rfl
theorem Sf(l:av)(k:Nat):i4 (jF l k)=64:=rfl
theorem PM(l:av)(k n:Nat)(a:k<i4 (bz l l.length))(c:(bz l l.length)[k]=(n:Int))(b:n<64):(jF l k).set n (dB (be.new (l.getD n 0).toNat))=jF l (k+1):=by
 apply zp;intro j;unfold jF;rw[aG _ _ a,qV,]
 grind
theorem Am(l:av)(k:Nat)(x:Int):x∈bz l k↔∃n:Nat,n<k/\x=(n:Int)/\0<l.getD n 0:=by
 unfold bz;rw[qB,]
 grind
theorem Sg(l:av)(k i:Nat)(a:i<i4 (bz l k)):∃n:Nat,n<k/\(bz l k)[i]=(n:Int)/\0<l.getD n 0:=(Am l k _).1 (qe a)
def fe(p:Int×Int×Int):Nat:=(p.1*p.2.2).toNat
def uH(a:Nat)(b:aL)(i:Nat):aL:=(b.drop (i*a)).take a++(qf a 0).drop (b.drop (i*a)).length
theorem Fg(a:Nat)(b:aL)(i:Nat):i4 (uH a b i)=a:=by unfold uH;grind
def splitB(p:Int×Int×Int)(b:aL):ct:=(qn (countP p b.length).toNat).map (uH (fe p) b)
def Dk(p:Int×Int×Int)(o b:Int)(n:Nat):Bool:=eK p (cg o b n) (fj p)
def nA(p:Int×Int×Int)(o b:Int):Option Nat:=(qn 16).find? (Dk p o b)
def cW(p:Int×Int×Int)(o:Int):Nat->Option (av)
 |0=>dB []
 |n+1=>(cW p o n).bind λl=>(nA p o n).map λt=>l++[(t:Int)]
theorem jY{p:Int×Int×Int}{o:Int}:∀{n:Nat} {l:av},cW p o n=dB l->i4 l=n
 |0,l,h=>by cases h;rfl
 |n+1,l,h=>by
  unfold cW at h;cases h1:cW p o n with
  |none=>grind
  |some k=>
   rw[h1]at h;cases h2:nA p o n with
   |none=>grind
   |some t=>
    rw[h2]at h;injection h with h
    rw[<-h,qu,jY h1];rfl
theorem Fh{p:Int×Int×Int}{o b:Int}{t:Nat}(h:nA p o b=dB t):t<16/\Dk p o b t=eS/\∀k,k<t->Dk p o b k=eX:=by
 obtain⟨d,us,vs,c,h3⟩:=List.find?_eq_some_iff_append.1 h;have g:=congrArg vw c;have e:t=i4 us:=by
  have:(qn 16)[i4 us]?=dB t:=j1
  grind
 refine⟨j1,d,λk f=>?_⟩;have a:k∈us:=by
  have:(qn 16)[k]?=us[k]?:=by rw[c,qq i6]
  grind
 grind
theorem Bg{p:Int×Int×Int}{o:Int}:∀{n:Nat} {l:av},cW p o n=dB l->∀i (b:i<i4 l),∃t:Nat,l[i]=(t)/\nA p o i=dB t
 |0,l,h=>by cases h;simp
 |n+1,l,h=>by
  unfold cW at h;cases h1:cW p o n with
  |none=>grind
  |some k=>
   rw[h1]at h;cases h2:nA p o n with
   |none=>grind
   |some t=>
    rw[h2]at h;injection h with h
    subst h;intro i b;have c:=jY h1;by_cases a:i<i4 k
    .rw[List.getElem_append_left a];exact Bg h1 i a
    .have:i=i4 k:=j1
     grind
theorem Fi(p:Pm)(h:f9)(c:bB p=eS):ai kg 148 #[ir p] h λv h'=>v=xU ka (fe p)/\Sp h h' []:=by
 have b:=(bK p).1 c;refine Cf p ?_;refine(Sp.refl h).boxed λe h3 a=>⟨p.1,(a.box 0 i5).cell0 i5,p.2.2,(a.box 0 i5).cell i5,?_,a.bO []⟩
 have f:p.1*p.2.2<=16*24:=yh i6 i6 i6 i6;have d:0<=p.1*p.2.2:=v8 i6 i6;rw[af _];unfold fe;congr 1;omega
theorem lU{p:Pm}(b:bB p=eS):1<=fe p/\fe p<=384/\(fe p:Int)=p.1*p.2.2:=by have a:=(bK p).1 b;have d:p.1*p.2.2<=16*24:=yh i6 i6 i6 i6;have c:0<p.1*p.2.2:=xN i6 i6;unfold fe;omega
theorem mI{p:Pm}(a:bB p=eS)(n:Nat):0<=countP p n/\countP p n<=n/\∀i:Nat,(i:Int)<countP p n->i*fe p<n:=by
 obtain⟨h,j,b⟩:=lU a;unfold countP;rw[a,wP];by_cases h0:0<(n:Int)
 .rw[hU h0,g0 i5,<-b];have d:((n:Int)-1)/(fe p:Int)<=n-1:=Int.ediv_le_self _ i6;have g:0<=((n:Int)-1)/(fe p:Int):=Int.ediv_nonneg i6 i6;refine⟨i6,i6,λi c=>?_⟩;have h3:(i:Int)<=((n:Int)-1)/(fe p:Int):=i6
  have e:=(Int.le_ediv_iff_mul_le i6).1 h3;have f:((i*fe p:Nat):Int)=(i:Int)*(fe p:Int):=wy i (fe p);omega
 .rw[ii h0,g9 i7];exact⟨i6,i6,λi c=>i6⟩
theorem Sh(p:Pm)(s:Sl)(b:aL)(h:f9)(g:bB p=eS)(q:Rd h s 1 aB b)(B:s.len<=s.cap)(X:i4 b<=2^30):ai kg 149 #[ir p,s] h λv h'=>∃r:Sl,v=r/\Sp h h' [gu r (splitB p b)]:=by
 refine ts Tryz.func149 ?_ (xc (xc (x0 [(5,cE),(12,aR)] [(5,8),(12,31)]))) (args:=[p,s]);have d:=q.len;obtain⟨S,U,T⟩:=lU g;obtain⟨V,Q,c3⟩:=mI g b.length;refine(Sp.refl h).boxed λl E k=>?_;refine⟨p,(k.box 0 i5).aE _ i5,?_⟩;refine(uG p s.len E).x8 λP K=>?_;have D:=k.up K.ac;refine⟨_,i5,?_⟩;obtain⟨n,z⟩:∃n:Nat,n=(countP p b.length).toNat:=⟨_,rfl⟩
 have c:(countP p (s.len:Nat))=(n:Int):=t8
 rw[c];have F:i4 (splitB p b)=n:=by unfold splitB;rw[<-z];simp
 have a:=D.ww 34 5 1 aB;refine an (λt:Sl×Nat=>(t.1,(t.2:Int))) (λt h'=>t.2<=n/\Sp h h' [gu t.1 ((splitB p b).take t.2),ak l 25 [xU ka p.1,xU ka p.2.1,xU ka p.2.2]]) (λt=>n-t.2) (⟨eH,0,0⟩,0) i5 ⟨js,a⟩ ?_;rintro⟨o,i⟩ h3 ⟨Y,a⟩;dsimp only at*;refine ae (λe=>?_) (λe=>?_)
 .have I:i<n:=i6
  have w:=c3 i (by rw[<-d,c];omega);refine⟨p,(a.box 1 i5).aE _ i5,(Fi p h3 g).x8 λN A=>?_⟩;have L:=a.up A.ac;refine⟨_,i5,L.Jb ag aB gm i7 (0:UInt8) i5 i5 (fe p) (fe p) i5 i5 (qi _) i6 λv u R W f=>?_⟩;have f:=f.aZ;refine⟨p,(f.box 2 i5).aE _ i5,(Fi p u g).x8 λO J=>?_⟩;have m:=f.up J.ac;refine⟨_,i5,?_⟩;have em:qd ka ((i:Int)*(fe p:Int))=((i*fe p:Nat):Int):=by rw[<-wy,af _]
  try dsimp only
  rw[em,qj];refine⟨⟨i6,i6⟩,?_⟩;have y:=(Seq.up q m.ac).drop (i*fe p) B;refine m.Ja ag 0 i5 gm (λ_=>rfl) (v:=⟨_,s.len-i*fe p,s.cap-i*fe p⟩) y ib λ_ M j=>?_;have j:Sp h M [aq 5 v 1 aB (uH (fe p) b i),gu o ((splitB p b).take i),ak l 25 [xU ka p.1,xU ka p.2.1,xU ka p.2.2]]:=by simpa[uH]using j
  refine(j.aI 2 [1,0]).CM ag fh jj λx h8 G=>?_;refine⟨(x,i+1),j0,⟨i9,?_⟩,i9⟩
  try dsimp only
  rw[aG _ _ (show i<i4 (splitB p b) by omega)];have H:(splitB p b)[i]'i6=uH (fe p) b i:=by simp[splitB]
  rw[H];exact G
 .rw[qh i6]at a;exact⟨o,i5,a.bO [0]⟩
theorem mJ(a b:UInt8):qd kb ((qG (qz kb) (a.toNat:Int)^^^qG (qz kb) (b.toNat:Int)).toNat:Nat)=((a^^^b).toNat:Int):=by
 have e:∀a:UInt8,qG (qz kb) (a.toNat:Int)=a.toBitVec:=λa=>by
  apply BitVec.eq_of_toNat_eq;have:=zR a;simp[qz]
 rw[e,e];have c:=(a.toBitVec^^^b.toBitVec).isLt;have:((a^^^b).toNat:Int)=((a.toBitVec^^^b.toBitVec).toNat:Int):=rfl;rw[this];show(((a.toBitVec^^^b.toBitVec).toNat:Nat):Int)%256=_;have:(a.toBitVec^^^b.toBitVec).toNat<256:=c;omega
def tri(a:UInt8):Nat->Int×Int×Int
 |0=>((a.toNat:Int),(3:Int),(0:Int))
 |1=>(((Gf.x2 a).toNat:Int),(1:Int),(a.toNat:Int))
 |_=>(((Gf.x2 (Gf.x2 a)).toNat:Int),(0:Int),((Gf.x3 a).toNat:Int))
theorem Si(a:UInt8)(h:f9):ai kg 331 #[xU kb a.toNat,xU kb 3] h λv h'=>v=xU kb (Gf.x3 a).toNat/\h'=h:=by
 have e:∀n:Nat,n<256->
   ((qd kb ((qG (qz kb) (n:Int)&&&(qG (qz kb) (128:Int))).toNat:Nat)) !=(0:Int))=eS->qd kb ((qG (qz kb) (qd kb ((n:Int)*2^min (1:Int).toNat (qz kb)))^^^(qG (qz kb) (27:Int))).toNat:Nat)=((Gf.x2 (zL n)).toNat:Int):=j5
 have c:∀n:Nat,n<256->
   ((qd kb ((qG (qz kb) (n:Int)&&&(qG (qz kb) (128:Int))).toNat:Nat)) !=(0:Int))=eX->qd kb ((n:Int)*2^min (1:Int).toNat (qz kb))=((Gf.x2 (zL n)).toNat:Int):=j5
 refine ts Tryz.func331 ?_ (xc (.scope 0 [(0,(.sc (.int .u8))),(1,(.sc (.int .u8))),(5,(.sc (.int .u8)))] [(0,2),(4,26)] [v6] [(.two v6 (.two (.join [(5,(.sc (.int .u8)))] [(5,6),(10,16)] v6) (.two v6 (.two v6 (.two (.join [(0,(.sc (.int .u8)))] [(0,1),(21,24)] v6) v6)))))] []));refine an (tri a) (λt h'=>h'=h/\t<=2) (λt=>2-t) 0 i5 ⟨i5,i6⟩ ?_;rintro t h' ⟨rfl,f⟩;rcases(show t=0∨t=1∨t=2 by omega)with rfl|rfl|rfl
 .rw[show tri a 0=((a.toNat:Int),(3:Int),(0:Int))from rfl]
  try dsimp only
  refine tK i7 (aJ (CF i7 ?_));refine⟨i7,aJ ?_⟩;refine aP (λd=>?_) (λd=>?_)
  .rw[e _ (zR a) d,wV];refine⟨i7,1,?_,⟨i5,i7⟩,i7⟩;have:=mJ 0 a;simp only[wv]at this;exact y9 i5 (y9 i5 this)
  .rw[c _ (zR a) d,wV];refine⟨i7,1,?_,⟨i5,i7⟩,i7⟩;have:=mJ 0 a;simp only[wv]at this;exact y9 i5 (y9 i5 this)
 .rw[show tri a 1=(((Gf.x2 a).toNat:Int),(1:Int),(a.toNat:Int))from rfl]
  try dsimp only
  refine tK i7 (aJ (CF i7 ?_));refine⟨i7,aJ ?_⟩;refine aP (λd=>?_) (λd=>?_)
  .rw[e _ (zR (Gf.x2 a)) d,wV];refine⟨i7,2,?_,⟨i5,i7⟩,i7⟩;refine y9 i5 (y9 i5 ?_);have:=mJ a (Gf.x2 a);rw[vu]at this;exact this
  .rw[c _ (zR (Gf.x2 a)) d,wV];refine⟨i7,2,?_,⟨i5,i7⟩,i7⟩;refine y9 i5 (y9 i5 ?_);have:=mJ a (Gf.x2 a);rw[vu]at this;exact this
 .exact CF (b:=(0:Int)==0) i7 ⟨i5,i5⟩
def jZ:av:=(qn 255).map λi=>((Gf.pw i).toNat:Int)
def sh:av:=(qn 256).map λx=>if x=0 then 0 else((Gf.lg (zL x):Nat):Int)
theorem iD:i4 jZ=255:=by simp[jZ]
theorem An:i4 sh=256:=by simp[sh]
def ee:aW:=jZ.map (Sc.enc (.int .u8))++sh.map (Sc.enc (.int .i64))
abbrev gn(h:f9)(a:f7):Prop:=bN h a 330 ee
theorem Lk(k:IntKind)(l:av):(l.map (Sc.enc (.int k))).all (·.oneCell')=eS:=by rw[List.all_map,qS];intro x _;rfl
theorem Sj(h:f9):ai kg 267 #[] h λv h'=>v=xZ (jZ.map (Sc.enc (.int .u8))).toArray/\Sp h h' []:=by
 refine ts Tryz.func267 ?_ (xc (xc (x0 [(1,(.sc (.int .u8))),(3,aR)] [(1,12)])));refine(Sp.refl h).alloc ag i5 λa t p=>?_;refine an (λi:Nat=>(((Gf.pw i).toNat:Int),(i:Int))) (λi h'=>i<=255/\Sp h h' [ak a 325 (((qn 255).map λj=>if j<i then((Gf.pw j).toNat:Int)else 0).map (Sc.enc (.int .u8)))]) (λi=>255-i) 0 i5 ⟨i6,?_⟩ ?_
 .have e:((qn 255).map λj=>if j<0 then((Gf.pw j).toNat:Int)else 0).map (Sc.enc (.int .u8))=qf 255 (xU kb 0):=by simp;rfl
  rw[e];exact p
 .rintro i s ⟨u,g⟩;refine ae (λo=>?_) (λk=>?_)
  .dsimp only at o;refine⟨⟨i9,i9⟩,?_⟩
   try dsimp only
   rw[show((i:Int).toNat*1)=i by omega];refine g.storeAt ag 0 i5 i5 i5 i5 i5 jj λh3 f=>?_;refine(Si (Gf.pw i) h3).x7 ⟨_,i5,i+1,?_,⟨i6,?_⟩,i6⟩
   .rw[af _];rfl
   .have e:((((qn 255).map λj=>if j<i then((Gf.pw j).toNat:Int)else 0).map (Sc.enc (.int .u8))).set i (xU kb (Gf.pw i).toNat))=(((qn 255).map λj=>if j<i+1 then((Gf.pw j).toNat:Int)else 0).map (Sc.enc (.int .u8))):=by
     apply zp;intro j;simp only[qV,qR,qp,zq];by_cases b:i=j
     .subst b;have:i<255:=i6
      simp[this]
     .by_cases c:j<255
      .simp only[b,if_false,zI c,qW];by_cases d:j<i
       .rw[g0 d,g0 i6]
       .rw[g9 d,g9 i6]
      .simp[b,c]
    rw[<-e];exact f
  .have m:i=255:=by dsimp only at k;omega
   subst m;have e:((qn 255).map λj=>if j<255 then((Gf.pw j).toNat:Int)else 0)=jZ:=by unfold jZ;apply List.map_congr_left;intro j b;rw[g0 (qK.1 b)]
   rw[e]at g;have q:=g.box 0 i5;refine⟨jZ,⟨iD,q.aE _ o4⟩,?_⟩;refine g.storeAll ag 0 i5 i5 (jZ.map (Sc.enc (.int .u8))) i5 (by rw[qp,iD]) (Lk _ _) i5 λh3 f=>?_;have l:=f.box 0 i5;exact⟨jZ,⟨iD,l.aE _ o4⟩,i5,.zip f.ac⟩
theorem YY(h:f9):ai kg 268 #[xZ (jZ.map (Sc.enc (.int .u8))).toArray] h λv h'=>v=xZ (sh.map (Sc.enc (.int .i64))).toArray/\Sp h h' []:=by
 refine ts Tryz.func268 ?_ (xc (x0 [(6,aR)] [(3,5),(6,14)])) (args:=[(xZ (jZ.map (Sc.enc (.int .u8))).toArray)]);refine(Sp.refl h).boxed λa E u=>?_;refine u.alloc ag i5 λz B q=>?_;have m:=q.box 0 i5;refine⟨jZ,⟨iD,m.aE _ (by show List.take _ (jZ.map _)=_;rw[qh (qi _)])⟩,?_⟩;let L:Nat->av:=λi=>(qn 256).map λx=>if x≠0/\Gf.lg (zL x)<i then((Gf.lg (zL x):Nat):Int)else 0
 refine an (λi:Nat=>(i:Int)) (λi h'=>i<=255/\Sp h h' [emp,ak z 327 ((L i).map (Sc.enc (.int .i64)))]) (λi=>255-i) 0 i5 ⟨i6,?_⟩ ?_
 .have e:(L 0).map (Sc.enc (.int .i64))=qf 256 (xU ka 0):=by simp[L];rfl
  rw[e];exact q.fN 0 i5 λ_ _=>trivial
 .rintro i h3 ⟨F,g⟩;refine ae (λA=>?_) (λy=>?_)
  .have c:i<255:=i6
   have s:=zR (Gf.pw i);refine⟨((Gf.pw i).toNat:Int),⟨i6,i6,by simp[jZ,c]⟩,⟨i6,i6⟩,?_⟩;rw[show(((Gf.pw i).toNat:Int).toNat*1)=(Gf.pw i).toNat by omega];refine g.storeAt ag 1 i5 i5 i5 i5 i5 (by simp[L];omega) λt k=>?_;refine⟨i+1,j4,⟨i6,?_⟩,i6⟩;have e:((L i).map (Sc.enc (.int .i64))).set (Gf.pw i).toNat (xU ka i)=(L (i+1)).map (Sc.enc (.int .i64)):=by
    apply zp;intro j;simp only[qV,qR,qp,zq,L];by_cases f:(Gf.pw i).toNat=j
    .subst f;simp only[if_true,zI s,qW,s];have l:(Gf.pw i).toNat≠0:=λh0=>Gf.Vj i c (wO.1 h0);rw[wV,Gf.Vi i c,g0 ⟨l,i6⟩]
    .by_cases d:j<256
     .simp only[f,if_false,zI d,qW];by_cases b:j=0
      .simp[b]
      .have D:Gf.lg (zL j)≠i:=λh0=>by
        apply f;rw[<-h0,Gf.Vh _ λw=>b (by have:=congrArg UInt8.toNat w;simpa[wQ d]using this)];simp[wQ d]
       by_cases p:Gf.lg (zL j)<i
       .rw[g0 ⟨b,p⟩,g0 ⟨b,i6⟩]
       .rw[g9 λr=>p r.2,g9 λr=>p i6]
     .simp[f,d]
   rw[<-e];exact k
  .have c:i=255:=i6
   subst c;have e:L 255=sh:=by
    unfold sh;apply List.map_congr_left;intro j f;by_cases b:j=0
    .simp[b]
    .rw[g0 ⟨b,Gf.Jc _⟩,g9 b]
   rw[e]at g;have m:=g.box 1 i5;refine⟨sh,⟨An,m.aE _ o4⟩,?_⟩;refine g.storeAll ag 1 i5 i5 (sh.map (Sc.enc (.int .i64))) i5 (by rw[qp,An]) (Lk _ _) i5 λt k=>?_;have o:=k.box 1 i5;exact⟨sh,⟨An,o.aE _ o4⟩,i5,.zip k.ac⟩
theorem rx(h:f9):ai kg 208 #[] h λv h'=>∃a:f7,v=xW (dB a)/\Sp h h' [ak a 330 ee]:=by
 refine ts Tryz.func208 ?_;refine(Sj h).mono ?_;rintro v u ⟨rfl,o⟩;refine⟨jZ,i5,?_⟩;refine o.alloc ag i5 λa t q=>?_;refine q.storeAll ag 0 i5 i5 (jZ.map (Sc.enc (.int .u8))) i5 (by rw[qp,iD]) (Lk _ _) (by rw[qp,iD];rfl) λh3 g=>?_;have j:=g.box 0 i5;have c:bt h3 a 0 (jZ.map (Sc.enc (.int .u8))):=j.aE _ o4;refine⟨jZ,⟨iD,c⟩,jZ,⟨iD,c⟩,?_⟩;refine(YY h3).x8 λs k=>⟨sh,i5,ow.2 ⟨(k.ac).cells j.lt c,A0⟩,_,pI ag (i:=_) i5 i5 i5 (cells:=ee.toArray) ?_,?_⟩
 .have b:∀z:aW,i4 z=511->wB (λn=>[(0,255),(255,256)][n]?) z.toArray [(0,xZ (jZ.map (Sc.enc (.int .u8))).toArray),(1,xZ (sh.map (Sc.enc (.int .i64))).toArray)]=dB ee.toArray:=by
   intro z b;have e:z=[]++z.take 255++z.drop 255:=js
   conv=>lhs;rw[e]
   rw[OH (vs:=jZ.map (Sc.enc (.int .u8))) i5 (by simp[iD]) (by simp[iD,b])];have e2:[]++jZ.map (Sc.enc (.int .u8))++z.drop 255=jZ.map (Sc.enc (.int .u8))++z.drop 255++[]:=js
   rw[e2,OH (vs:=sh.map (Sc.enc (.int .i64))) i5 (by simp[iD,An]) (by simp[An,b])];simp[wB,ee]
  exact b _ i5
 .have p:(Value.agg ee.toArray).cells.toList=ee:=rfl;refine(g.comp k).boxed λm r f=>?_;have d:=f.box 0 i5;exact⟨ow.2 ⟨d.aE _ o4,A0⟩,m,i5,f.take 1 λi A l=>by cases i with|zero=>exact l|succ i=>simp at l⟩
theorem Fj{h:f9}{a:f7}(c:gn h a)(n:Nat)(b:n<255):f8 h (a.add n)=dB (xU kb (Gf.pw n).toNat):=
 c.cell (by rw[ee,qq (by simp[iD,b])];simp[jZ,b])
theorem Fk{h:f9}{a:f7}(c:gn h a)(x:UInt8)(d:x≠0):f8 h ((a.add 255).add x.toNat)=dB (xU ka (Gf.lg x)):=by
 have f:=c.addr;have e:(a.add 255).add x.toNat=a.add (255+x.toNat):=by rw[f,add_eq,add_eq,add_eq];congr 1;omega
 rw[e];refine c.cell ?_;have b:=zR x;have h0:x.toNat≠0:=λh0=>d (wO.1 h0);rw[ee,qk (by simp[iD])];simp[iD,sh,b,h0]
theorem si(a:f7)(h:f9):ai kg 354 #[xW (dB a)] h λv h'=>v=xW (dB a)/\h'=h:=by refine ts Tryz.func354 ?_;exact tK i5 ⟨i5,i5⟩
theorem ub(a:f7)(h:f9):ai kg 265 #[xW (dB a)] h λv h'=>v=xW (dB a)/\h'=h:=by refine ts Tryz.func265 ?_;exact tK i5 ⟨i5,i5⟩
theorem Nt(a:f7)(h:f9):ai kg 368 #[xW (dB a)] h λv h'=>v=xW (dB a)/\h'=h:=by refine ts Tryz.func368 ?_;exact tK i5 ⟨i5,i5⟩
theorem uc{x:UInt8}:((x.toNat:Int)=0)↔x=0:=⟨λh=>wO.1 l0,λh=>by rw[h];rfl⟩
theorem Im(a:f7)(x y:UInt8)(h:f9)(d:gn h a):ai kg 299 #[xW (dB a),xU kb x.toNat,xU kb y.toNat] h λv h'=>v=xU kb (Gf.mul x y).toNat/\h'=h:=by
 refine ts Tryz.func299 ?_ (xc (x6 [] [(6,7),(8,14)] v6));refine aJ ?_;refine aY (λh0=>⟨by rw[Gf.mul,g0 (.inl (uc.1 h0))];rfl,i5⟩) λi=>?_;refine aY (λh0=>⟨by rw[Gf.mul,g0 (.inr (uc.1 h0))];rfl,i5⟩) λg=>?_;have b:x≠0:=λh0=>i (uc.2 h0);have c:y≠0:=λh0=>g (uc.2 h0);refine(si a h).x7 ?_;have l:=zR x;have j:=zR y;have l1:=Gf.Jc x;have l2:=Gf.Jc y;refine⟨dB a,i5,a,i5,⟨i6,i6⟩,(Gf.lg x:Int),?_,a,i5,⟨i6,i6⟩,(Gf.lg y:Int),?_,i7,a,i5,?_⟩
 .rw[show((x.toNat:Int).toNat*1)=x.toNat by omega];exact Fk d x b
 .rw[show((y.toNat:Int).toNat*1)=y.toNat by omega];exact Fk d y c
 rw[af _];have e:xO ((Gf.lg x:Int)+(Gf.lg y:Int)) 255=(((Gf.lg x+Gf.lg y)%255:Nat):Int):=by rw[yN i6];rfl
 rw[e];have f:=yW (Gf.lg x+Gf.lg y) (show 255>0 by decide);refine⟨⟨i6,i6⟩,_,?_,by rw[Gf.mul,g9 (by simp[b,c])],i5⟩;rw[show((((Gf.lg x+Gf.lg y)%255:Nat):Int).toNat*1)=(Gf.lg x+Gf.lg y)%255 by omega];exact Fj d _ f
theorem acp(a:f7)(x:UInt8)(h:f9)(d:gn h a):ai kg 327 #[xW (dB a),xU kb x.toNat] h λv h'=>v=xU kb (Gf.inv x).toNat/\h'=h:=by
 refine ts Tryz.func327 ?_;refine aY (λh0=>⟨by rw[Gf.inv,g0 (uc.1 h0)];rfl,i5⟩) λf=>?_;have b:x≠0:=λh0=>f (uc.2 h0);refine(si a h).x7 ?_;have g:=zR x;have l1:=Gf.Jc x;refine⟨dB a,i5,a,i5,⟨i6,i6⟩,(Gf.lg x:Int),?_,i7,a,i5,?_⟩
 .rw[show((x.toNat:Int).toNat*1)=x.toNat by omega];exact Fk d x b
 rw[af _];have e:xO (255-(Gf.lg x:Int)) 255=(((255-Gf.lg x)%255:Nat):Int):=by rw[yN i6];omega
 rw[e];have c:=yW (255-Gf.lg x) (show 255>0 by decide);refine⟨⟨i6,i6⟩,_,?_,by rw[Gf.inv,g9 b],i5⟩;rw[show((((255-Gf.lg x)%255:Nat):Int).toNat*1)=(255-Gf.lg x)%255 by omega];exact Fj d _ c
theorem acq(a:f7)(n:Int)(h:f9)(i:gn h a):ai kg 308 #[xW (dB a),xU ka n] h λv h'=>v=xU kb (Gf.pw (n%255).toNat).toNat/\h'=h:=by
 refine ts Tryz.func308 ?_ (xc (xc (x6 [(1,aR)] [(1,2),(7,11)] v6)));have j:=vf n (show(0:Int)<255 by decide);have g:-255<n.tmod 255:=vP n i7;have b:=HC n 255;have d:=Int.emod_nonneg n (show(255:Int)≠0 by decide);have f:=Int.emod_lt_of_pos n (show(0:Int)<255 by decide);refine⟨i7,bF (λs h'=>s=n%255/\h'=h) ?_ ?_⟩
 .refine ae (λc=>?_) (λe=>?_)
  .rw[g0 c]at b;exact⟨by rw[af _,b],i5⟩
  .rw[g9 e]at b;exact⟨b.symm,i5⟩
 .rintro s h' ⟨rfl,rfl⟩;refine(si a h').x7 ⟨dB a,i5,a,i5,⟨d,f⟩,_,?_,i5,i5⟩;rw[zG];exact Fj i _ i6
theorem kS(p:Pm)(h:f9):ai kg 224 #[ir p] h λv h'=>v=xU ka (bp p)/\Sp h h' []:=by refine ts Tryz.func224 ?_ (args:=[p]);refine(Sp.refl h).boxed λa f d=>?_;refine⟨p,(d.box 0 i5).aE _ i5,?_⟩;refine(eN p f).x8 λi g=>?_;have b:=d.comp g;have c:=b.box 0 i5;refine⟨_,i5,aX (λe=>⟨by simp[bp,e],.zip b.ac⟩) λe=>?_⟩;refine⟨_,c.cell0 i5,_,c.cell i5,?_,.zip b.ac⟩;have:=(bK p).1 e;rw[af _,bp,g0 e]
theorem YZ(n i:Int)(h:f9):ai kg 307 #[xU ka n,xU ka i] h λv h'=>∃s:Sl,v=s/\
  Sp h h' [aq 5 s 1 aB (if 1<=n/\n<=64/\0<=i/\i<n then(qf n.toNat (0:UInt8)).set i.toNat 1 else[])]:=by
 refine ts Tryz.func307 ?_ (xc (x6 [] [(4,5),(6,21)] v6));have a:∀c:Prop,¬c->[Decidable c]->Sp h h [aq 5 ⟨eH,0,0⟩ 1 aB (if c then(qf n.toNat (0:UInt8)).set i.toNat 1 else[])]:=λc b _=>by
  rw[g9 b];exact(Sp.refl h).nil 5 1 aB
 refine aJ ?_;refine ae (λe=>⟨⟨eH,0,0⟩,i5,a _ i6⟩) λo=>?_;refine ae (λe=>⟨⟨eH,0,0⟩,i5,a _ i6⟩) λe2=>?_;refine ae (λe=>⟨⟨eH,0,0⟩,i5,a _ i6⟩) λl=>?_;refine ae (λe=>⟨⟨eH,0,0⟩,i5,a _ i6⟩) λj=>?_;refine(Sp.refl h).make ag aB ⟨_,_,i5,i5,i5,i5,i5,i5⟩ i7 0 i5 i5 n.toNat n.toNat i6 i6 (qi _) i6 λs k m b d=>?_;refine d.set ag 0 i5 (λ_=>rfl) i5 i.toNat i6 jj 1 i5 i5 i5 λg f=>?_;refine⟨s,i5,?_⟩;rw[g0 i6];exact f
theorem Nu(s:Int)(h:f9):ai kg 232 #[xU ke s] h λv h'=>∃a:f7,v=xW (dB a)/\Sp h h' [ak a 364 [xU kf (qd kf s)]]:=by refine ts Tryz.func232 ?_;exact(Sp.refl h).boxed λa c b=>⟨a,i5,b⟩
theorem Cl(a:f7)(s:Int)(h:f9)(d:bN h a 364 [xU kf s]):ai kg 233 #[xW (dB a)] h λv h'=>v=xU ke (told s)/\bN h' a 364 [xU kf (pN s)]/\aS (·≠a.block) h h':=by refine ts Tryz.func233 ?_;refine tK i5 ⟨a,i5,s,d.cell0 i5,a,i5,?_⟩;refine uq ag d i5 _ i5 i5 i5 (qi _) λe b c _=>?_;exact⟨a,i5,_,b.cell0 i5,i7,i5,b,c⟩
theorem JB(a:f7)(s n:Int)(h:f9)(f:bN h a 364 [xU kf s])(i:0<n:=by omega)(d:n<=2^62:=by omega):ai kg 301 #[xW (dB a),xU ka n] h λv h'=>v=xU ka (jO s n)/\bN h' a 364 [xU kf (pN s)]/\aS (·≠a.block) h h':=by refine ts Tryz.func301 ?_ (xc (x6 [] [(4,11)] v6));refine aJ (tK i5 (ae (λe=>i6) λ_=>?_));refine(Cl a s h f).x8 λg ⟨b,c⟩=>⟨_,i5,o5,i5,b,c⟩
theorem GF(a b:Nat)(d:a<=2^40)(c:b<=2^40):qd ka ((a:Int)+(b:Int))=((a+b:Nat):Int):=by rw[af _];rfl
theorem Za(l:Nat)(h:f9)(f:l<=20):ai kg 355 #[xU ka l] h λv h'=>v=xU ka (cy l)/\h'=h:=by
 have k:∀l:Nat,l<=20->∀r:Nat,r<=5->(∀j,j<r->j*j<l)->r*r<l->r<5:=i7
 have o:∀l:Nat,l<=20->∀r:Nat,r<=5->(∀j,j<r->j*j<l)->¬r*r<l->r=cy l:=i7
 refine ts Tryz.func355 ?_ (xc (xc (u9 (v7 (ws [(3,aR)] [(3,11)] v6)) v6)));refine an (λr:Nat=>(r:Int)) (λr h'=>h'=h/\r<=5/\∀j,j<r->j*j<l) (λr=>5-r) 0 i5 ⟨i5,i6,λj c=>i6⟩ ?_;rintro r h' ⟨rfl,d,c⟩;have i:r*r<=25:=zK d d;have e:qd ka ((r:Int)*(r:Int))=((r*r:Nat):Int):=by rw[<-wy];exact nR _
 rw[e];refine ae (λm=>?_) (λg=>?_)
 .have a:r*r<l:=i6
  have p:=k l f r d c a;refine⟨r+1,j4,⟨i5,i6,λj b=>?_⟩,i6⟩;rcases Nat.lt_succ_iff_lt_or_eq.1 b with b|rfl
  .exact c j b
  .exact a
 .exact⟨by rw[o l f r d c i6],i5⟩
theorem Zb(r:Nat)(h:f9)(b:r<=5):ai kg 110 #[xU kf r] h λv h'=>v=xU ka (sJ r)/\h'=h:=by
 intro w a;refine(Tryz.bits_Len (r:Int) w i6 i6).mono ?_;rintro e w' ⟨rfl,rfl⟩;have k:∀r:Nat,r<=5->Lib.bitLen r=sJ r:=j5
 exact⟨_,i5,dC.refl _,by rw[qj,k r b],a⟩
theorem Sk(l k:Nat)(h:f9)(b:l<=20)(a:1<=l)(d:k<=20)(f:1<=k):ai kg 302 #[xU ka l,xU ka k] h λv h'=>v=xU ka (lN l k)/\h'=h:=by
 have z:∀k:Nat,k<=20->1<k->qd ka ((k:Int)*qd ka ((k:Int)-1))=((k*(k-1):Nat):Int)/\k*(k-1)≠0:=i7
 have p:∀l:Nat,l<=20->1<=l->1<=cy l/\cy l<=5:=i7
 have c3:∀l:Nat,l<=20->1<=l->qd ka (yp (l:Int) (cy l))=((l/cy l:Nat):Int):=i7
 have m:∀l:Nat,l<=20->1<=l->∀k:Nat,k<=20->1<=k->qd ka ((l:Int)*k)≠0:=j5
 have r:∀k:Nat,k<=20->1<k->qd ka (yp (1048576:Int) (qd ka ((k:Int)*qd ka ((k:Int)-1))))=((1048576/(k*(k-1)):Nat):Int):=j5
 have w:∀l:Nat,l<=20->1<=l->qd ka (yp (1048576:Int) (l:Int))=((1048576/l:Nat):Int):=j5
 have j:∀l:Nat,l<=20->1<=l->∀k:Nat,k<=20->1<=k->qd ka (yp (qd ka ((1048576:Int)*cy l)) (qd ka ((l:Int)*k)))=((1048576*cy l/(l*k):Nat):Int):=j5
 have t:∀l:Nat,l<=20->1<=l->qd ka (yp (qd ka ((qd ka ((1048576:Int)*cy l))*sJ (cy l))) (l:Int))=((1048576*cy l*sJ (cy l)/l:Nat):Int):=j5
 have q:∀l:Nat,l<=20->∀k:Nat,k<=20->1048576*cy l/(l*k)<=2^30/\1048576*cy l*sJ (cy l)/l<=2^30/\1048576/(k*(k-1))<=2^30/\1048576/l<=2^30:=j5
 refine ts Tryz.func302 ?_ (xc (xc (xc (x6 [(6,aR)] [(6,7),(12,19)] (x6 [(6,aR)] [(6,8),(19,48)] v6)))));have i:=q l b k d;refine(Za l h b).mono ?_;rintro v x ⟨rfl,rfl⟩;have u:=p l b a;refine⟨_,i5,i6,bF (λs h'=>s=(((if k>1 then 1048576/(k*(k-1))else 1048576/l):Nat):Int)/\h'=x) ?_ ?_⟩
 .refine ae (λe=>?_) (λe=>?_)
  .have:=z k d i6;refine⟨by rw[this.1];omega,by rw[r k d i6,g0 i6],i5⟩
  .refine⟨by rw[w l b a,g9 i6],i5⟩
 .rintro s o ⟨rfl,rfl⟩;have A:(if k>1 then 1048576/(k*(k-1))else 1048576/l)<=2^30:=by split<;>first|exact i.2.2.1|exact i.2.2.2
  refine aJ ?_;try dsimp only
  refine⟨show((cy l:Nat):Int)≠0 by omega,?_⟩;rw[c3 l b a];refine ae (λe=>⟨m l b a k d f,?_,i5⟩) (λe=>?_)
  .rw[j l b a k d f,GF _ _ i6 (qM i.1 i7),lN,g0 (c:=k<l/cy l) (xf.1 e)]
  .refine aY (λe2=>?_) (λe2=>?_)
   .have y:qd kf (cy l:Int)=(cy l:Int):=o5
    rw[y];refine(Zb (cy l) o u.2).x7 ⟨_,i5,i6,?_,i5⟩;rw[t l b a,GF _ _ i6 (qM i.2.1 i7),lN,g9 (c:=k<l/cy l) λg=>e (xf.2 g),g0 (c:=k=l/cy l) (vi.1 e2)]
   .exact⟨by rw[lN,g9 (c:=k<l/cy l) λg=>e (xf.2 g),g9 (c:=k=l/cy l) λg=>e2 (vi.2 g),Nat.add_zero],i5⟩
theorem VZ(l:Nat)(h:f9)(c:l<=20)(b:1<=l):ai kg 235 #[xU ka l] h λv h'=>∃s:Sl,v=s/\Sp h h' [aq 3 s 1 az (gf l)]:=by
 refine ts Tryz.func235 ?_ (xc (x6 [] [(2,3),(6,12)] (xc (xc (x0 [(3,cE),(4,aR),(5,aR)] [(3,6),(14,28)])))));refine aJ (ae (λe=>i6) λ_=>ae (λe=>i6) λ_=>?_);refine(Sp.refl h).make ag az gz i7 0 i5 i5 0 l i5 i5 i6 i6 λs u g q f=>?_;refine an (λt:Sl×Nat=>(t.1,((jT l t.2:Nat):Int),((t.2+1:Nat):Int))) (λt h'=>t.2<=l/\Sp h h' [aq 3 t.1 1 az ((gf l).take t.2)]) (λt=>l-t.2) (s,0) i5 ⟨js,t7⟩ ?_;rintro⟨s,k⟩ d ⟨r,a⟩;dsimp only at*;refine ae (λe=>?_) (λe=>?_)
 .refine(Sk l (k+1) d c b i6 i6).x7 ⟨_,i5,?_⟩;have w:=uS l c k i6;have o:=CN l c (k+1) i6;have e2:qd ka ((jT l k:Int)+(lN l (k+1):Int))=((jT l (k+1):Nat):Int):=by rw[af _,jT];rfl
  try dsimp only
  rw[e2];refine a.push ag 0 i5 gz i5 i7 (λ_=>rfl) eZ _ i5 i7 ln λj p m=>?_;refine⟨(j,k+1),j0,⟨i9,?_⟩,i9⟩;have i:(gf l).take (k+1)=(gf l).take k++[((jT l (k+1):Nat):Int)]:=by rw[aG _ _ m8];simp[gf]
  dsimp only;rw[i];exact m
 .refine⟨s,i5,?_⟩;rw[qh m8]at a;exact a
theorem Sm{p:aw}(t:Sl)(lt:av)(x b:Int)(h:f9)(g:Seq h p t 1 az lt)(s:0<=x)(a:lt.getLast?=dB b)(d:x<b)(r:i4 lt<=2^40):
  ai kg 300 #[t,xU ka x] h λv h'=>v=xU ka (KR lt x)/\h'=h:=by
 refine ts Tryz.func300 ?_ (xc (x6 [] [(4,5),(7,24)] (x0 [(26,aR)] [(4,7),(26,37)])));have u:=g.len;have c:lt≠[]:=λe=>by rw[e]at a;cases a
 have o:0<i4 lt:=List.length_pos_iff.2 c;have f:lt[i4 lt-1]=b:=by rw[List.getLast?_eq_getElem?,qc i6]at a;simpa using a
 refine aJ (aY (λe=>i6) λ_=>ae (λe=>i6) λ_=>?_);rw[af _];refine g.bm (i4 lt-1) i6 i6 _ i5 ?_;rw[f];refine ae (λe=>i6) λ_=>?_;have j:(lt.findIdx λy=>decide (y>x))<i4 lt:=List.findIdx_lt_length_of_exists ⟨b,List.mem_of_getLast? a,rb⟩;refine an (λk:Nat=>(k:Int)) (λk h'=>h'=h/\k<=(lt.findIdx λy=>decide (y>x))) (λk=>i4 lt-k) 0 i5 ⟨i5,i6⟩ ?_;rintro k h' ⟨rfl,m⟩;refine ae (λe=>?_) (λe=>i6);have i:k<i4 lt:=i6
 refine g.bm k i5 i _ i5 ?_;rw[af _];refine ae (λe2=>?_) (λe2=>?_)
 .have:(lt.findIdx λy=>decide (y>x))=k:=Nat.le_antisymm (Nat.le_of_not_lt λl=>by have:=List.not_of_lt_findIdx l;simp at this;omega) m;exact⟨by rw[KR,this];rfl,i5⟩
 .refine⟨k+1,i5,⟨i5,?_⟩,i6⟩;refine Nat.lt_of_le_of_ne m λq=>?_;have:=List.findIdx_getElem (xs:=lt) (p:=λy=>decide (y>x)) (w:=j);simp only[<-q]at this;simp at this;omega
theorem GP(t:Sl)(n:Nat)(a:f7)(s:Int)(h:f9)(g:Seq h (·≠a.block) t 1 az (gf n))(k:bN h a 364 [xU kf s])(d:1<=n)(f:n<=20):
  ai kg 234 #[t,xW (dB a)] h λv h'=>v=xU ka (uu s n)/\bN h' a 364 [xU kf (pN s)]/\aS (·≠a.block) h h':=by
 refine ts Tryz.func234 ?_;have o:=g.len;rw[gD]at o;refine aY (λe=>i6) λ_=>?_;rw[af _];refine g.bm (n-1) i6 m8 _ i5 ?_;have l:(gf n)[n-1]'(by rw[gD];omega)=((jT n n:Nat):Int):=by simp only[gf,List.getElem_map,List.getElem_range];rw[show n-1+1=n by omega]
 rw[l];have q:=HM n f d;have m:=uS n f n f;refine(JB a s _ h k).mono ?_;rintro v j ⟨rfl,i,c⟩;have b:=oS s (jT n n);refine⟨_,i5,(Sm t (gf n) _ _ j (g.ac c) b.1 (CO n d) b.2 m8).x7 ?_⟩;exact⟨_,i5,i5,i,c⟩
theorem Zc(a:f7)(s:Int)(n k:Nat)(h:f9)(F:bN h a 364 [xU kf s])(P:n<=64)(S:k<=n):
  ai kg 236 #[xW (dB a),xU ka n,xU ka k] h λv h'=>∃r:Sl,v=r/\aa (λb=>b<h.size/\¬b=a.block) h h' [ak a 364 [xU kf (eC n s (upto n) k).1],aq 3 r 1 az (AR s n k)]:=by
 refine ts Tryz.func236 ?_ (xc (x6 [] [(6,7),(12,27)] (xc (u9 (xc (v7 (ws [(31,aR)] [(8,9),(31,39)] v6))) (x0 [(40,aR)] [(9,11),(40,65)])))));refine aJ (ae (λe=>i6) λ_=>ae (λe=>i6) λ_=>ae (λe=>i6) λ_=>ae (λe=>i6) λ_=>?_);have K:aa (λb=>b<h.size/\¬b=a.block) h h [ak a 364 [xU kf s]]:=.OG (λb=>b=a.block) (λb q=>by rw[q];exact F.lt) ⟨F,i5⟩;refine K.make ag az gz i7 0 i5 i5 n n i5 i5 (qi _) i6 λv T U R I=>?_;refine an (λi:Nat=>(i:Int)) (λi h'=>i<=n/\aa (λb=>b<h.size/\¬b=a.block) h h' [ak a 364 [xU kf s],aq 3 v 1 az ((upto n).take i++qf (n-i) 0)]) (λi=>n-i) 0 i5 ⟨i6,by simpa using I⟩ ?_;rintro i O ⟨V,y⟩;refine ae (λe=>?_) (λe=>?_)
 .have g:i<n:=i6
  refine y.set ag 1 i5 (λ_=>rfl) i5 i i5 (by simp[gP];omega) (i:Int) i5 i5 i5 λh3 f=>?_;refine⟨i+1,j4,⟨i6,?_⟩,i6⟩;have e2:((upto n).take i++qf (n-i) 0).set i (i:Int)=(upto n).take (i+1)++qf (n-(i+1)) 0:=by
   have p:i4 ((upto n).take i)=i:=by rw[qH,gP];omega
   rw[aG _ _ pt,qN _ _ i6,p,za,show n-i=n-(i+1)+1 by omega,wz,ze];simp[upto]
  rw[<-e2];exact f
 .have g:i=n:=i6
  subst g;have e2:(upto i).take i++qf (i-i) 0=upto i:=by rw[qh pt];simp
  rw[e2]at y;refine an (λj:Nat=>(j:Int)) (λj h'=>j<=k/\aa (λb=>b<h.size/\¬b=a.block) h h' [ak a 364 [xU kf (eC i s (upto i) j).1],aq 3 v 1 az (eC i s (upto i) j).2]) (λj=>k-j) 0 i5 ⟨i6,y⟩ ?_;rintro j h3 ⟨Q,f⟩;have D:=rV i s (upto i) j;rw[gP]at D;refine ae (λL=>?_) (λL=>?_)
  .rw[af _];have c:((i:Int)-(j:Int))=((i-j:Nat):Int):=i6
   rw[c];refine(JB a _ _ h3 (f.box 0 i5)).mono ?_;rintro w E ⟨rfl,A,x⟩;have l:=f.pi 0 i5 x A;have H:=oS (eC i s (upto i) j).1 ((i-j:Nat):Int);refine⟨_,i5,?_⟩
   try dsimp only
   rw[af _,af _];have M:(j:Int)+jO (eC i s (upto i) j).1 ((i-j:Nat):Int)=((j+(jO (eC i s (upto i) j).1 ((i-j:Nat):Int)).toNat:Nat):Int):=i6
   have d:j+(jO (eC i s (upto i) j).1 ((i-j:Nat):Int)).toNat<(eC i s (upto i) j).2.length:=i6
   rw[M];have m:=l.seq 1 i5 λ_=>rfl;refine m.bm _ i5 d _ i5 ?_;refine m.bm j i5 i6 _ i5 ?_;refine l.set ag 1 i5 (λ_=>rfl) i5 j i5 i6 _ i5 i5 i5 λG u=>⟨A0,?_⟩
   refine u.set ag 1 i5 (λ_=>rfl) i5 _ i5 rb _ i5 i5 i5 λN J=>⟨A0,?_⟩
   refine⟨j+1,i5,⟨i6,?_⟩,i6⟩;rw[eC,jz,fi,fi,Qw.getD_lt d,Qw.getD_lt (show j<(eC i s (upto i) j).2.length by omega)];exact J
  .have t:j=k:=i6
   subst t;refine⟨⟨i6,i6⟩,?_⟩;have B:=f.seq 1 i5 λ_=>rfl;refine(ig ⟨v.ptr,j,v.cap⟩ ((eC i s (upto i) j).2.take j) h3 (B.take j i6) ln).mono ?_;rintro w E ⟨r,rfl,l⟩;refine⟨r,i5,?_⟩;refine(EZ r _ E (l.own 0 i5) ln).x8 λG ⟨o,z⟩=>?_;have u:=(f.comp l).nQ 2 i5 z o;exact⟨(),i5,r,i5,u.del 1⟩
theorem Bh(p:Pm)(seed id:Int)(h:f9):ai kg 168 #[ir p,xU ke seed,xU ka id] h λv h'=>∃r:Sl,v=r/\Sp h h' [aq 3 r 1 az (if bB p&&bE id then df (bp p).toNat seed id else[])]:=by
 refine ts Tryz.func168 ?_ (xc (x6 [] [(6,7),(10,21)] v6)) (args:=[p,(xU ke (seed:Int)),(id:Int)]);refine(Sp.refl h).boxed λa E B=>?_;refine aJ ?_;refine⟨p,(B.box 0 i5).aE _ i5,(eN p E).mono ?_⟩;rintro v j ⟨rfl,Q⟩;have o:=B.comp Q;have l:(bB p&&bE id)=eX->Sp h j [aq 3 ⟨eH,0,0⟩ 1 az (if bB p&&bE id then df (bp p).toNat seed id else[])]:=λO=>by
  rw[O];exact(o.nil 3 1 az).take 1 (λi A f=>by cases i with|zero=>exact f|succ i=>simp at f)
 refine⟨_,i5,aX (λe=>⟨⟨eH,0,0⟩,i5,l m7⟩) λy=>?_⟩;refine ae (λe=>⟨⟨eH,0,0⟩,i5,l l6⟩) λV=>?_;refine ae (λe=>⟨⟨eH,0,0⟩,i5,l l6⟩) λe2=>?_;have hid:bE id=eS:=l6
 rw[y,hid];refine⟨p,(o.box 0 i5).aE _ i5,(kS p j).mono ?_⟩;rintro v h3 ⟨rfl,J⟩;have L:=o.comp J;have N:=(bK p).1 y;have T:bp p=p.1+p.2.1:=by rw[bp,g0 y]
 obtain⟨n,K⟩:∃n:Nat,bp p=n:=⟨(bp p).toNat,i6⟩
 refine⟨_,i5,?_⟩
 try dsimp only
 rw[K,qj];refine(Nu _ h3).mono ?_;rintro v H ⟨d,rfl,D⟩;refine⟨dB d,i5,?_⟩;refine(Cl d _ H (D.box 0 i5)).mono ?_;rintro v G ⟨rfl,m,s⟩;have F:=D.pi 0 i5 s m;refine⟨_,i5,?_⟩;refine(VZ n G i6 i6).mono ?_;rintro v I ⟨t,rfl,x⟩;have c:=F.comp x;refine⟨t,i5,?_⟩;have w:∀b,t.on b->b≠d.block:=λb u U=>by
  have E:=(x.fresh 0 i5).2 b u;have j:=(F.box 0 i5).lt;omega
 refine(GP t n d _ I ((x.own 0 i5).seq (λ_=>rfl) w) (c.box 0 i5) i6 i6).mono ?_;rintro v S ⟨rfl,g,k⟩;have z:=c.pi 0 i5 k g;refine⟨_,i5,?_⟩;refine(Zc d _ n _ S (z.box 0 i5) i6 (rX _ n)).y0 λr h8 M=>?_;have R:=z.call 0 i5 (λb=>b=d.block) (λq P b u=>by rw[u];exact P.2) M;exact⟨r,i5,r,i5,((L.comp R).take 3 λi A f=>by cases i with|zero=>exact f|succ i=>simp at f)⟩
theorem acr{α:Type}{h:f9}{e:TypeId}{s:Sl}{k:Nat}{f:α->aW}{l:List α}(c:Own h e s k f l)(a:l≠[]):s.ptr.isNone=eX:=by
 rcases c.head with⟨_,_,h3⟩|⟨b,rest,h1,_⟩
 .exact absurd h3 a
 .rw[h1];rfl
theorem PN(p:Pm)(seed id:Int)(h:f9):ai kg 269 #[ir p,xU ke seed,xU ka id] h λv h'=>∃r:Sl,v=r/\
  Sp h h' [aq 5 r 1 aB (if bB p&&bE id then ly (bp p).toNat seed id else[])]/\r.ptr.isNone=!(bB p&&bE id):=by
 refine ts Tryz.func269 ?_ (xc (x6 [] [(6,7),(10,21)] (xc (x0 [(29,aR)] [(9,10),(29,37)])))) (args:=[p,(xU ke (seed:Int)),(id:Int)]);refine(Sp.refl h).boxed λa M D=>?_;refine aJ ?_;refine⟨p,(D.box 0 i5).aE _ i5,(eN p M).mono ?_⟩;rintro v B ⟨rfl,Q⟩;have t:=D.comp Q;have s:(bB p&&bE id)=eX->Sp h B [aq 5 ⟨eH,0,0⟩ 1 aB (if bB p&&bE id then ly (bp p).toNat seed id else[])]/\Option.isNone (eH:bL)=!(bB p&&bE id):=λP=>by
  rw[P];exact⟨(t.nil 5 1 aB).take 1 (λi A g=>by cases i with|zero=>exact g|succ i=>simp at g),i5⟩
 refine⟨_,i5,aX (λe=>⟨⟨eH,0,0⟩,i5,s m7⟩) λl=>?_⟩;refine ae (λe=>⟨⟨eH,0,0⟩,i5,s l6⟩) λV=>?_;refine ae (λe=>⟨⟨eH,0,0⟩,i5,s l6⟩) λe2=>?_;have hid:bE id=eS:=l6
 refine⟨p,(t.box 0 i5).aE _ i5,(kS p B).mono ?_⟩;rintro v h3 ⟨rfl,I⟩;have K:=t.comp I;have O:=(bK p).1 l;have T:bp p=p.1+p.2.1:=by rw[bp,g0 l]
 obtain⟨n,E⟩:∃n:Nat,bp p=n:=⟨(bp p).toNat,i6⟩
 refine⟨_,i5,?_⟩
 try dsimp only
 rw[E];refine K.make ag aB gm i7 0 i5 i5 n n i5 i5 (qi _) i6 λv H U L G=>?_;refine⟨p,(G.box 0 i5).aE _ i5,(Bh p seed id H).y0 λc R y=>?_⟩;rw[l,hid,E,qj]at y;rw[l,hid,qj];have m:=G.comp y;have j:=m.seq 2 i5 λ_=>rfl;have o:=j.len;obtain⟨d,b⟩:=z6 (df n seed id)
 have u:∀x∈d,0<=x/\x<(n:Int):=λx F=>mf i6 i6 (by rw[<-b];exact F);have z:i4 d<=n:=by rw[b];exact td i6 i6 _ _
 simp only[Bool.and_self,if_true,<-b]at m j o y;refine⟨c,i5,?_⟩;refine an (λi:Nat=>(i:Int)) (λi h'=>i<=i4 d/\Sp h h' [ak a 25 [xU ka p.1,xU ka p.2.1,xU ka p.2.2],aq 5 v 1 aB (fT n (d.take i)),aq 3 c 1 az d]) (λi=>i4 d-i) 0 i5 ⟨i6,m⟩ ?_;rintro i S ⟨g,k⟩;refine ae (λe=>?_) (λe=>?_)
 .have f:i<i4 d:=i6
  have F:=u _ (qe f);refine(k.seq 2 i5 λ_=>rfl).bm i i5 f _ i5 ?_;refine k.set ag 1 i5 (λ_=>rfl) i5 d[i].toNat i6 sb 1 i5 i5 i5 λW J=>?_;refine⟨i+1,j4,⟨i6,?_⟩,i6⟩;have e2:fT n (d.take (i+1))=(fT n (d.take i)).set d[i].toNat 1:=by rw[aG _ _ f,fT,zH];rfl
  rw[e2];exact J
 .rw[qh i6]at k;have q:=(k.del 2).take 1 (λi A g=>by cases i with|zero=>exact g|succ i=>simp at g);refine⟨v,i5,?_,acr (q.own 0 i5) λN=>?_⟩
  .rw[b]at q;exact q
  .have:=oT n d;rw[N]at this;simp at this;omega
theorem ud(p:Pm)(h:f9):ai kg 249 #[ir p] h λv h'=>∃r:Sl,v=r/\Sp h h' [fB 34 r 1 aB (if bB p then bj p.1.toNat p.2.1.toNat else[])]:=by
 refine ts Tryz.func249 ?_ (xc (xc (xc (xc (u9 (xc (v7 (ws [(4,cE),(14,aR)] [(4,8),(14,45)] (xc (xc (u9 (v7 (xc (x6 [(6,cE)] [(6,7),(17,24)] (x0 [(26,aR)] [(7,8),(26,40)])))) v6)))))) v6))))) [(8,(.l [0,2,3,4,5,1,6,7]))] (args:=[p]);refine(Sp.refl h).boxed λa R B=>?_;refine⟨p,(B.box 0 i5).aE _ i5,(eN p R).mono ?_⟩;rintro v M ⟨rfl,R2⟩;have F:=B.comp R2;refine⟨_,i5,aX (λe=>⟨⟨eH,0,0⟩,i5,?_⟩) λz=>?_⟩
 .rw[e];exact(F.CJ 34 1 aB).take 1 (λi A c=>by cases i with|zero=>exact c|succ i=>simp at c)
 have T:=(bK p).1 z;have P:bp p=p.1+p.2.1:=by rw[bp,g0 z]
 obtain⟨K,X⟩:∃K:Nat,p.1=K:=⟨p.1.toNat,i6⟩
 obtain⟨b,N⟩:∃H:Nat,p.2.1=H:=⟨p.2.1.toNat,i6⟩
 refine(rx M).mono ?_;rintro v h3 ⟨f,rfl,O⟩;have E:=(F.comp O).CJ 34 1 aB;refine⟨dB f,i5,_,(E.box 0 i5).cell i5,?_⟩;refine an (λt:Sl×Nat=>(t.1,(t.2:Int))) (λt h'=>t.2<=b/\Sp h h' [ak a 25 [xU ka p.1,xU ka p.2.1,xU ka p.2.2],ak f 330 ee,fB 34 t.1 1 aB ((bj K b).take t.2)]) (λt=>b-t.2) (⟨eH,0,0⟩,0) i5 ⟨js,E⟩ ?_;rintro⟨s,k⟩ J ⟨hk,m⟩;dsimp only at*;refine ae (λe=>?_) (λe=>?_)
 .have V:k<b:=i6
  refine aJ ⟨p,(m.box 0 i5).aE _ i5,p.1,(m.box 0 i5).cell0 i5,?_⟩;refine(kS p J).mono ?_;rintro v I ⟨rfl,S⟩;have D:=m.comp S;refine⟨_,i5,⟨(D.box 0 i5).cell0 i5,A0⟩,?_⟩
  try dsimp only
  rw[af (p.1+k),P];refine(YZ _ _ I).mono ?_;rintro v h6 ⟨u,rfl,y⟩;rw[g0 i6]at y;have e1:(p.1+p.2.1).toNat=K+b:=i6
  have e2:(p.1+(k:Int)).toNat=K+k:=i6
  rw[e1,e2]at y;have w:=D.comp y;refine⟨u,i5,⟨(w.box 0 i5).cell0 i5,A0⟩,p.1,(w.box 0 i5).cell0 i5,?_⟩;let rowAt:Nat->aL:=λj=>(qn j).map (λi=>Gf.pw ((k+1)*(i+1)%255))++((qf (K+b) (0:UInt8)).set (K+k) 1).drop j;refine an (λj:Nat=>(j:Int)) (λj h'=>j<=K/\Sp h h' [ak a 25 [xU ka p.1,xU ka p.2.1,xU ka p.2.2],ak f 330 ee,fB 34 s 1 aB ((bj K b).take k),aq 5 u 1 aB (rowAt j)]) (λj=>K-j) 0 i5 ⟨i6,w⟩ ?_;rintro j h7 ⟨hj,o⟩;refine ae (λZ=>?_) (λZ=>?_)
  .have d:j<K:=i6
   have hm:(k+1)*(j+1)<=4*16:=zK i6 i6;have Q:qd ka (qd ka ((k:Int)+1)*qd ka ((j:Int)+1))=(((k+1)*(j+1):Nat):Int):=by rw[af ((k:Int)+1),af ((j:Int)+1),show((k:Int)+1)*((j:Int)+1)=(((k+1)*(j+1):Nat):Int)by rw[wy];rfl];exact nR _
   rw[Q];refine(acq f _ h7 (o.box 1 i5)).x7 ⟨_,i5,?_⟩;have G:i4 (rowAt j)=K+b:=by simp[rowAt];omega
   refine o.set ag 3 i5 (λ_=>rfl) i5 j i5 i6 _ i5 i5 i5 λh9 q=>?_;refine⟨j+1,j4,⟨i6,?_⟩,i6⟩;have x:(rowAt j).set j (Gf.pw ((((k+1)*(j+1):Nat):Int)%255).toNat)=rowAt (j+1):=by
    have L:((((k+1)*(j+1):Nat):Int)%255).toNat=(k+1)*(j+1)%255:=i6
    rw[L];simp only[rowAt];rw[qN _ _ js,qp,zq,za,qJ jj,ze,zt,qP,qm];rfl
   rw[<-x];exact q
  .have d:j=K:=i6
   subst d;have x:rowAt j=jH j b k:=by
    simp only[rowAt,jH];congr 1;apply zp;intro i;rw[wZ,qV,qR];by_cases c:i<b
    .rw[zI c,qW,zX];by_cases g:i=k
     .subst g;simp[c]
     .rw[g9 i6,g0 i6,g9 g]
    .rw[zd (l:=qn b) jj,g9 i6,zX,g9 i6];rfl
   rw[x]at o;have Y:=o.freeze 3 i5 λ_=>rfl;have W:i4 ((bj j b).take k)=k:=o0
   refine Y.pj ag 2 3 i7 i5 i5 fh i6 λs' h9 q=>?_;refine⟨(s',k+1),j0,⟨i9,?_⟩,i9⟩;have U:(bj j b).take (k+1)=(bj j b).take k++[jH j b k]:=by rw[aG _ _ o0];simp[bj]
   try dsimp only
   rw[U];exact q.del 3
 .refine⟨s,i5,?_⟩;rw[g0 z,X,N,qj,qj];rw[qh o0]at m;exact m.take 2 (λi A c=>by cases i with|zero=>exact c|succ i=>simp at c)
end Go.Qw
