/- Lemmas for the proof of the law; no condition. -/
import Derived.Test.YtahcfjokgnjinaaGreatDoorTabS
import Derived.Test.YtahcfjokgnjinaaGreatDoorShelfA
set_option linter.unusedVariables false
set_option linter.unusedSimpArgs false
open Go.Proofs.Tryz renaming prog -> xB
open Go.Value renaming agg -> xw, bool -> xv, int -> xq, pointer -> xt, slice -> xr, string -> xu
open Go.IntKind renaming bits -> qk, i64 -> xx, signed -> va, u32 -> xz, u64 -> xA, u8 -> xy, wrap -> qc
open Option renaming isSome_iff_exists -> y8, some -> zR
open Int renaming fdiv -> qX, tdiv -> wA, tmod -> wk
open List renaming exists_cons_of_length_eq_add_one -> yD, length -> vX, length_zipWith -> y9, mem_of_getElem? -> ya, range -> qA, replicate -> qh
open BitVec renaming ofInt -> qD, ofNat -> wF
open Prod renaming fst -> qI, snd -> zI
open Go.Instr renaming fill -> wC, storeAt -> qf
open UInt8 renaming ofNat -> yK, ofNat_toNat -> y0, toNat_lt -> wY
set_option maxRecDepth 100000
open Option renaming some -> dB, none -> eH
open Bool renaming true -> eR, false -> eS
open Go renaming Addr -> f7
open Go.Vc renaming cellOf -> f8, Heap -> f9
open List renaming length -> i1
namespace Go.Vc
open Go Wl
abbrev Cells:=cJ
abbrev powC(w:Pow)(l:Int):bh:=[xv w.off,xv w.fuse.isSome,xq xx l,xq xx w.offs]
def NL(w:Pow)(l:Int):Prop:=∀k,w.fuse=dB k->l=k/\k<2^62
def dl(t:Nat)(a:f7)(w:Pow):HP:=HP.ex λl:Int=>(au a t (powC w l)).and (NL w l)
section
variable {B:aC} {h0 h h':f9} {As:List HP} {t:Nat} {a:f7} {w:Pow}
theorem aa.Eb(H:aa B h0 h (dl t a w::As)):∃l,NL w l/\aa B h0 h (au a t (powC w l)::As):=by obtain⟨l,H⟩:=H.tQ;obtain⟨H,b⟩:=H.Lg;exact⟨l,b,H⟩
theorem aa.LN{l:Int}(b:NL w l)(H:aa B h0 h (au a t (powC w l)::As)):aa B h0 h (dl t a w::As):=
 (H.toLg b).Am (F:=λl:Int=>(au a t (powC w l)).and (NL w l)) l
end
end Go.Vc
namespace Go.Qw
open Go Go.Vc Go.Proofs Wl
section
variable {B:aC} {h0 h h':f9} {As:List HP} {t:Nat} {a:f7} {w:Pow}
theorem JR(l:Int)(b:cx h a 121 (powC w l)):ac xB 26 #[xt (dB a)] h λv h'=>v=xv (!w.off)/\h'=h:=by refine HV (dB a) ?_;unfold AG;exact bx (λ_=>⟨a,i4,w.off,b.cell0 i4,i4,i4⟩) λe=>j1
theorem QX(l:Int)(b:cx h a 121 (powC w l)):ac xB 74 #[xt (dB a)] h λv h'=>v=xq xx w.offs/\h'=h:=by refine EY (dB a) ?_;unfold uq;exact bx (λe=>j1) λ_=>⟨a,i4,w.offs,b.cell i4,i4,i4⟩
theorem QY(h:f9):ac xB 33 #[] h λv h'=>∃a,v=xt (dB a)/\Sp h h' [dl 121 a Pow.new]:=by refine RR ?_;unfold Ks;refine(Sp.refl h).boxed λa c b=>⟨a,i4,aa.LN (l:=0) (w:=Pow.new) (λk e=>j1) b⟩
theorem ID(H:aa B h0 h (dl 121 a w::As)):ac xB 127 #[xt (dB a)] h λv h'=>v=xv w.step.1/\aa B h0 h' (dl 121 a w.step.2::As):=by
 obtain⟨l,s,c⟩:=H.Eb;refine Ff (dB a) ?_;unfold ux;refine(JR l (c.box 0 i4)).mono ?_;rintro _ t ⟨rfl,rfl⟩;refine⟨_,i4,bo (λe=>?_) λe=>?_⟩
 ·have:w.step=(eS,w):=by unfold Pow.step;rw[g0 l6]
  rw[this];exact⟨i4,H⟩
 have g:w.off=eS:=l6
 refine⟨a,i4,_,(c.box 0 i4).cell i4,bo (λe2=>?_) λe2=>?_⟩
 ·have:w.step=(eR,w):=by
   unfold Pow.step;rw[g9 p0];cases d:w.fuse with
   |none=>rfl
   |some k=>rw[d]at e2;cases e2
  rw[this];exact⟨i4,H⟩
 obtain⟨k,d⟩:∃k,w.fuse=dB k:=y8.1 e2;obtain⟨rfl,x⟩:=s k d;have o:powC w (k:Int)=[xv eS,xv eR,xq xx k,xq xx w.offs]:=by simp[powC,g,d]
 rw[o]at c;refine⟨a,i4,_,(c.box 0 i4).cell i4,ck (λq=>?_) λq=>?_⟩
 ·have m:k=0:=i5
  subst m;have i:w.step=(eS,⟨eR,dB 0,qc xx (w.offs+1)⟩):=by unfold Pow.step;rw[g9 p0,d]
  rw[i];refine⟨a,i4,c.kj af 0 i4 i4 [xv eR] i4 i4 i4 jj λu n=>?_⟩;refine⟨a,i4,w.offs,(n.box 0 i4).cell i4,a,i4,n.store af 0 i4 i4 3 [xq xx (qc xx (w.offs+1))] i4 i4 i4 (by simp[powC]) λh3 f=>⟨i4,?_⟩⟩;refine aa.LN (l:=((0:Nat):Int)) (λr b=>by cases b;exact⟨i4,i6⟩) ?_;exact f
 ·obtain⟨j,rfl⟩:∃j,k=j+1:=⟨k-1,i5⟩
  have i:w.step=(eR,⟨eS,dB j,w.offs⟩):=by unfold Pow.step;rw[g9 p0,d]
  rw[i];refine⟨a,i4,_,(c.box 0 i4).cell i4,a,i4,c.store af 0 i4 i4 2 [xq xx (qc xx (((j+1:Nat):Int)-1))] i4 i4 i4 (by simp[powC]) λh3 f=>⟨i4,?_⟩⟩;refine aa.LN (l:=(j:Int)) (λr b=>by cases b;exact⟨i4,i5⟩) ?_;rw[ak _]at f;have p:((j+1:Nat):Int)-1=(j:Int):=i5
  rw[p]at f;exact f
end
abbrev Pm:=Int×Int×Int
abbrev kW(p:Pm):Value:=xw #[xq xx p.1,xq xx p.2.1,xq xx p.2.2]
theorem eK(p:Pm)(h:f9):ac xB 73 #[kW p] h λv h'=>v=xv (bO p)/\Sp h h' []:=by refine Wy p ?_;unfold QN;refine(Sp.refl h).boxed λa d j=>?_;have e:=j.box 0 i4;have c:Sp h d []:=.zip j.ai;have g:f8 d a=dB (xq xx p.1):=e.cell0 i4;have i:f8 d (a.add 1)=dB (xq xx p.2.1):=e.cell i4;have f:f8 d (a.add 2)=dB (xq xx p.2.2):=e.cell i4;unfold bO;refine⟨_,g,aj (λb=>?_) λb=>⟨qa,c⟩⟩;rw[hU b];refine⟨_,g,aj (λb=>?_) λb=>⟨qa,c⟩⟩;rw[hU b];refine⟨_,i,aj (λb=>?_) λb=>⟨qa,c⟩⟩;rw[hU b];refine⟨_,i,aj (λb=>?_) λb=>⟨qa,c⟩⟩;rw[hU b];refine⟨_,f,aj (λb=>?_) λb=>⟨qa,c⟩⟩;rw[hU b];exact⟨_,f,i4,c⟩
abbrev gM:bZ C.toDr 22 3 1 [xq xx 0] 8:=⟨_,_,i4,i4,i4,i4,i4,i4⟩
abbrev hO:bZ C.toDr 71 5 1 [xq xy 0] 1:=⟨_,_,i4,i4,i4,i4,i4,i4⟩
abbrev fM:bZ C.toDr 56 71 1 [xr eH 0 0] 24:=⟨_,_,i4,i4,i4,i4,i4,i4⟩
theorem kg(s:Sl)(l:aD)(h:f9)(b:Rd h s 1 av l)(d:i1 l<=2^30):ac xB 104 #[s] h λv h'=>∃r:Sl,v=r/\Sp h h' [an 3 r 1 av l]:=by
 refine AM s ?_;unfold oK;refine bx (λe=>?_) (λe=>?_)
 ·have:=b.isNil e;subst this;exact⟨⟨eH,0,0⟩,i4,(Sp.refl h).nil 3 1 av⟩
 ·refine(Sp.refl h).lit af av gM i4 [] i4 i6 i4 λi j a=>?_;refine a.append af 0 i4 gM ⟨_,_,i4,i4⟩ i4 i6 (λ_=>rfl) (b.up a.ai) fD i9 λc g f=>⟨c,i4,f⟩
theorem eW(s:Sl)(l:bf)(h:f9)(b:Rd h s 1 aF l)(d:i1 l<=2^30):ac xB 101 #[s] h λv h'=>∃r:Sl,v=r/\Sp h h' [an 5 r 1 aF l]:=by
 refine Nc s ?_;unfold Gj;refine bx (λe=>?_) (λe=>?_)
 ·have:=b.isNil e;subst this;exact⟨⟨eH,0,0⟩,i4,(Sp.refl h).nil 5 1 aF⟩
 ·refine(Sp.refl h).lit af aF hO i4 [] i4 i6 i4 λi j a=>?_;refine a.append af 0 i4 hO ⟨_,_,i4,i4⟩ i4 i6 (λ_=>rfl) (b.up a.ai) iP i9 λc g f=>⟨c,i4,f⟩
theorem IE{e:TypeId}(s:Sl)(l:aD)(h:f9)(c:Own h e s 1 av l)(a:i1 l<2^40):ac xB 96 #[s] h λv h'=>v=.tuple #[]/\Own h' e s 1 av (ic l)/\bc (λb=>¬s.on b) h h':=
 Tr Tryz.slices_Sort_int Tryz.slices_Sort_int_none c a
theorem ci(x n:Int)(h:f9)(a:0<n)(f:n<=2^62):ac xB 14 #[xq xx x,xq xx n] h λv h'=>v=xq xx (x%n)/\h'=h:=by
 refine xM x n ?_;unfold og;have g:=vC x a;have e:-n<x.tmod n:=Int.lt_tmod_of_pos x a;have d:=Ti x n a;refine⟨i5,bi ?_⟩;refine aj (λb=>?_) (λc=>?_)
 ·rw[ak _];exact⟨by rw[d,g0 b],i4⟩
 ·exact⟨by rw[d,g9 c],i4⟩
end Go.Qw
namespace Wl
structure gE (d:bs):Prop where
 wait:d.wait<=i1 d.l
 len:i1 d.l<=d.room
 room:d.room<=512
 cell:∀c∈d.l,i1 c=64
 laid:i1 d.laid<=d.room
 cellL:∀c∈d.laid,i1 c=64
section
variable {d:bs} {w:Pow} {b:bf}
theorem gE.new{n:Nat}(h:n<=512):gE (bs.new n):=⟨qm _,zy _,h,by simp[bs.new],zy _,by simp[bs.new]⟩
theorem gE.rewrite{l:cJ}(h:gE d):gE (d.rewrite w l).2.2:=by
 obtain⟨e,a,h3,b,f,g⟩:=h;unfold bs.rewrite;split
 ·exact⟨e,a,h3,b,f,g⟩
 ·rename_i i;have i:∀c∈l,i1 c=64:=by simpa using i
  split
  ·exact⟨e,a,h3,b,f,g⟩
  ·split
   ·exact⟨e,a,h3,b,f,g⟩
   ·split
    ·exact⟨e,a,h3,b,f,g⟩
    ·split
     ·exact⟨zy _,i7,h3,i,zy _,jj⟩
     ·exact⟨e,a,h3,b,i7,i⟩
end
end Wl
namespace Go.Vc
open Go Wl Go.Qw
abbrev ez(s:Sl)(l:Cells):HP:=dJ 71 s 5 1 aF l
def iJ(t:Nat)(f:bs->Sl->Sl->bh)(a:f7)(d:bs):HP:=
 (HP.ex λb:Sl×Sl=>(au a t (f d b.1 b.2)).sep ((ez b.1 d.l).sep (ez b.2 d.laid))).and (gE d)
section
variable {B:aC} {h0 h h':f9} {As:List HP} {t:Nat} {f:bs->Sl->Sl->bh} {a:f7} {d:bs}
theorem aa.rT(H:aa B h0 h (iJ t f a d::As)):gE d/\∃s b:Sl,aa B h0 h (au a t (f d s b)::ez s d.l::ez b d.laid::As):=by obtain⟨H,ok⟩:=H.Lg;obtain⟨c,H⟩:=H.tQ;exact⟨ok,c.1,c.2,H.uh.uh.aX 3 [2,1,0]⟩
theorem aa.AZ{s b:Sl}(ok:gE d)(H:aa B h0 h (au a t (f d s b)::ez s d.l::ez b d.laid::As)):aa B h0 h (iJ t f a d::As):=
 ((((H.aX 3 [2,1,0]).mu).mu).Am (F:=λc:Sl×Sl=>(au a t (f d c.1 c.2)).sep ((ez c.1 d.l).sep (ez c.2 d.laid))) (s,b)).toLg ok
end
end Go.Vc
namespace Go.Qw
open Go Go.Vc Go.Proofs Wl
abbrev fu(pw:f7)(d:bs)(s b:Sl):bh:=[xt (dB pw),xq xx d.room,s,xq xx d.wait,b,xv d.has,xv d.lost]
abbrev jl(pw a:f7)(d:bs):HP:=iJ 119 (fu pw) a d
section
variable {B:aC} {h0 h h':f9} {As:List HP} {a pw:f7} {d:bs} {w:Pow}
theorem NM(n:Int)(pw:f7)(h:f9):ac xB 75 #[xq xx n,xt (dB pw)] h λv h'=>
  (1<=n/\n<=512->∃a,v=xt (dB a)/\Sp h h' [jl pw a (bs.new n.toNat)])/\(¬(1<=n/\n<=512)->v=xt eH/\Sp h h' []):=by
 refine RX n (dB pw) ?_;unfold Ky;refine bi (aj (λe=>⟨λc=>absurd c i5,λ_=>⟨i4,Sp.refl h⟩⟩) λg=>aj (λe=>⟨λc=>absurd c i5,λ_=>⟨i4,Sp.refl h⟩⟩) λe2=>bx (λe=>j1) λ_=>?_);refine(Sp.refl h).boxed λa i d=>⟨λ_=>⟨a,i4,?_⟩,λc=>absurd i5 c⟩
 refine aa.AZ (s:=⟨eH,0,0⟩) (b:=⟨eH,0,0⟩) (gE.new i5) ?_;have e:((n.toNat:Nat):Int)=n:=i5
 have f:=((d.CH 71 5 1 aF).CH 71 5 1 aF).aX 3 [2,1,0];have e2:fu pw (bs.new n.toNat) ⟨eH,0,0⟩ ⟨eH,0,0⟩=[xt (dB pw),xq xx n,xr eH 0 0,xq xx 0,xr eH 0 0,xv eS,xv eS]:=by simp only[fu,bs.new,e];rfl
 rw[e2];exact f
theorem IF(s b:Sl)(c:bs)(H:aa B h0 h (au a 119 (fu pw d s b)::ez s d.l::ez b d.laid::dl 121 pw w::As))(ok:gE d)(e:c={d with laid:=[],has:=eS}):
  ac xB 128 #[xt (dB a)] h λv h'=>v=xq xx 0/\aa B h0 h' (jl pw a c::dl 121 pw w::As):=by
 refine Fg (dB a) ?_;unfold uy;refine⟨a,i4,H.store af 0 i4 i4 4 [xr eH 0 0] i4 i4 i4 ln λi f=>?_⟩;refine⟨a,i4,f.store af 0 i4 i4 5 [xv eS] i4 i4 i4 ln λh3 g=>⟨i4,?_⟩⟩;subst e;refine aa.AZ (s:=s) (b:=⟨eH,0,0⟩) ⟨ok.wait,ok.len,ok.room,ok.cell,zy _,jj⟩ ?_;exact((g.CH 71 5 1 aF).aX 5 [1,2,0,4])
theorem KL(x:Sl)(row:bf)(H:aa B h0 h (jl pw a d::dl 121 pw w::As))(P:Rd h x 1 aF row)(hr:i1 row<=2^20):
  ac xB 133 #[xt (dB a),x] h λv h'=>v=xq xx (d.append w row).1/\aa B h0 h' (jl pw a (d.append w row).2.2::dl 121 pw (d.append w row).2.1::As):=by
 refine oL (dB a) x ?_;unfold mC;have R:=P.len;obtain⟨ok,s,b,A⟩:=H.rT;have y:=A.box 0 i4;obtain⟨Q,_⟩:=aa.An (A.aX 4 [1]);have G:=ok.room;have O:=ok.len;have M:=ok.wait;have g:∀(e:Int),d.append w row=(e,w,d)->(Value.int .i64 e=xq xx (d.append w row).1/\aa B h0 h (jl pw a (d.append w row).2.2::dl 121 pw (d.append w row).2.1::As)):=λe T=>by
  rw[T];exact⟨i4,H⟩
 refine bi (bY (λe=>g 1 (by unfold bs.append;rw[g0 i5])) λV=>?_);have t:i1 row=64:=i5
 refine bi (bx (λe=>j1) λ_=>⟨a,i4,d.lost,y.cell i4,bx (λe=>g 5 ?_) λf=>?_⟩)
 ·unfold bs.append;rw[g9 i5,g0 e]
 refine⟨a,i4,s,y.cell i4,a,i4,(d.room:Int),y.cell i4,aj (λe=>g 7 ?_) λF=>?_⟩
 ·unfold bs.append;rw[g9 i5,g9 n3,g0 i5]
 obtain⟨l,hl,J⟩:=(A.aX 4 [3,0,1,2]).Eb;refine⟨a,i4,dB pw,y.cell0 i4,(JR l (J.box 0 i4)).mono ?_⟩;rintro _ W ⟨rfl,rfl⟩;refine⟨_,i4,bo (λe=>g 14 ?_) λq=>?_⟩
 ·unfold bs.append;rw[g9 i5,g9 n3,g9 i5,g0 l6]
 have j:w.off=eS:=oj
 refine bi ⟨a,i4,s,y.cell i4,(eW x row W P i5).mono ?_⟩;rintro _ h4 ⟨r,rfl,U⟩;have z:=(A.cm U).aX 5 [2,0,1,3,4];have n:=z.box 2 i4;refine⟨r,i4,⟨n.cell i4,trivial⟩,?_⟩;have S:=z;refine z.px af bv fM i4 [r] i4 (show 1*1<=2^20 by decide) i4 ⟨n.cell i4,trivial⟩ ?_;refine z.JB af fM i5 λE Z K=>⟨trivial,?_⟩
 have K:=K.aX 4 [1,0,2,3];refine⟨a,i4,K.store af 0 i4 i4 2 [E] i4 i4 i4 ln λh7 N=>⟨trivial,?_⟩⟩;have I:=N.box 0 i4;refine⟨a,i4,(d.wait:Int),I.cell i4,a,i4,?_⟩;rw[ak ((d.wait:Int)+1)];refine N.store af 0 i4 i4 3 [xq xx ((d.wait:Int)+1)] i4 i4 i4 ln λh8 X=>?_;obtain⟨i,k⟩:∃i:bs,i={d with l:=d.l++[row],wait:=d.wait+1}:=⟨_,rfl⟩
 have p:gE i:=by
  subst k;refine⟨i9,i9,ok.room,λc m=>?_,ok.laid,ok.cellL⟩;rcases qz.1 m with m|m
  ·exact ok.cell c m
  ·rw[qC.1 m];exact t
 have o:aa B h0 h8 (au a 119 (fu pw i E b)::ez E i.l::ez b i.laid::dl 121 pw w::As):=by rw[k];exact X
 refine⟨a,i4,dB pw,(o.box 0 i4).cell0 i4,(ID (o.aX 4 [3,0,1,2])).mono ?_⟩;rintro _ h9 ⟨rfl,D⟩;have D:=D.aX 4 [1,2,3,0];have u:d.append w row=if w.step.1 then(0,w.step.2,{i with laid:=[],has:=eS})else(14,w.step.2,i):=by rw[k];unfold bs.append;rw[g9 i5,g9 n3,g9 i5,g9 (by simp[j])]
 rw[u];refine⟨_,i4,bo (λe=>?_) λe=>?_⟩
 ·rw[e];exact⟨i4,D.AZ p⟩
 ·rw[e];refine(IF E b _ D p i4).mono ?_;rintro _ Y ⟨rfl,L⟩;exact⟨0,i4,i4,L⟩
theorem PO(x:Sl)(row:bf)(h:f9)(a:Rd h x 1 aF row):ac xB 133 #[xt eH,x] h λv h'=>v=xq xx (if row.length≠64 then 1 else 5)/\h'=h:=by refine oL eH x ?_;unfold mC;have b:=a.len;refine bi (bY (λe=>⟨by rw[g0 i5],i4⟩) λe=>?_);exact bi (bx (λ_=>⟨by rw[g9 i5],i4⟩) λe=>j1)
theorem abW(H:aa B h0 h (jl pw a d::dl 121 pw w::As)):
  ac xB 178 #[xt (dB a)] h λv h'=>v=xq xx (d.sync w).1/\aa B h0 h' (jl pw a (d.sync w).2.2::dl 121 pw (d.sync w).2.1::As):=by
 refine rL (dB a) ?_;unfold nD;obtain⟨ok,s,b,i⟩:=H.rT;have j:=i.box 0 i4;refine bi (bx (λe=>j1) λ_=>⟨a,i4,d.lost,j.cell i4,bx (λe=>?_) λc=>?_⟩)
 ·have:d.sync w=(5,w,d):=by unfold bs.sync;rw[g0 e]
  rw[this];exact⟨i4,H⟩
 refine⟨a,i4,dB pw,j.cell0 i4,(ID (i.aX 4 [3,0,1,2])).mono ?_⟩;rintro _ m ⟨rfl,g⟩;have g:=g.aX 4 [1,2,3,0];have f:d.sync w=if w.step.1 then(0,w.step.2,{{d with wait:=0}with laid:=[],has:=eS})else(14,w.step.2,d):=by unfold bs.sync;rw[g9 o1]
 rw[f];refine⟨_,i4,bo (λe=>?_) λe=>?_⟩
 ·rw[e];exact⟨i4,g.AZ ok⟩
 ·rw[e];refine⟨a,i4,g.store af 0 i4 i4 3 [xq xx 0] i4 i4 i4 ln λh3 l=>?_⟩;refine(IF (d:={d with wait:=0}) s b _ l ⟨zy _,ok.len,ok.room,ok.cell,ok.laid,ok.cellL⟩ rfl).mono ?_;rintro _ n ⟨rfl,k⟩;exact⟨0,i4,i4,k⟩
theorem Ux(h:f9):ac xB 178 #[xt eH] h λv h'=>v=xq xx 5/\h'=h:=by refine rL eH ?_;unfold nD;exact bi (bx (λ_=>⟨i4,i4⟩) λe=>j1)
theorem jl.box(H:aa B h0 h (jl pw a d::As)):∃s b:Sl,cx h a 119 (fu pw d s b)/\fE h s 1 aF d.l/\s.len=i1 d.l:=by obtain⟨ok,s,b,c⟩:=H.rT;exact⟨s,b,c.box 0 i4,(c.aX 3 [1]).FO λ_=>rfl,(aa.An (c.aX 3 [1])).1⟩
theorem abX(s b:Sl)(c:cx h a 119 (fu pw d s b)):ac xB 126 #[xt (dB a)] h λv h'=>v=xq xx d.room/\h'=h:=by refine Fe (dB a) ?_;unfold uw;exact bx (λe=>j1) λ_=>⟨a,i4,_,c.cell i4,i4,i4⟩
theorem QZ(s b:Sl)(c:cx h a 119 (fu pw d s b))(f:s.len=i1 d.l):ac xB 212 #[xt (dB a)] h λv h'=>v=xq xx (i1 d.l:Int)/\h'=h:=by refine GO (dB a) ?_;unfold vq;exact bx (λe=>j1) λ_=>⟨a,i4,_,c.cell i4,by rw[f],i4⟩
theorem IG(s b:Sl)(c:cx h a 119 (fu pw d s b)):ac xB 61 #[xt (dB a)] h λv h'=>v=xv d.lost/\h'=h:=by refine EX (dB a) ?_;unfold uo;exact bx (λ_=>⟨a,i4,_,c.cell i4,i4,i4⟩) λe=>j1
theorem abY(s b:Sl)(i:Int)(k:cx h a 119 (fu pw d s b))(m:fE h s 1 aF d.l)(o:∀c∈d.l,i1 c=64):ac xB 43 #[xt (dB a),xq xx i] h λv h'=>∃r:Sl,v=r/\Sp h h' [an 5 r 1 aF (if 0<=i then d.l.getD i.toNat []else[])]:=by
 refine rF (dB a) i ?_;unfold nA;have p:=m.len;have f:(if 0<=i then d.l.getD i.toNat []else[])=[]->∃r:Sl,Value.slice eH 0 0=xr r.ptr r.len r.cap/\Sp h h [an 5 r 1 aF (if 0<=i then d.l.getD i.toNat []else[])]:=λe=>by
  rw[e];exact⟨⟨eH,0,0⟩,i4,(Sp.refl h).nil 5 1 aF⟩
 refine bi (bx (λe=>j1) λ_=>aj (λe=>f (by rw[g9 i5])) λu=>⟨a,i4,s,k.cell i4,aj (λe=>f ?_) λe2=>?_⟩)
 ·rw[g0 i5,qe,qS i5];rfl
 ·refine⟨a,i4,s,k.cell i4,m.get i.toNat i5 i5 λr q=>?_⟩;have g:i.toNat<i1 d.l:=i5
  have:=o _ (qg g);refine(eW r _ h q i5).mono ?_;rintro _ t ⟨j,rfl,n⟩;rw[g0 i5,getD_lt g];exact⟨j,i4,j,i4,n⟩
theorem LO(l:Sl)(a:Cells)(h:f9)(f:fE h l 1 aF a)(w:i1 a<=2^20)(j:∀c∈a,i1 c<=2^20):ac xB 67 #[l] h λv h'=>∃r:Sl,v=r/\Sp h h' [ez r a]:=by
 refine RW l ?_;unfold Kx;have n:=f.len;refine aA (λt:Sl×Nat=>(t.1,(t.2:Int))) (λt h'=>t.2<=i1 a/\Sp h h' [ez t.1 (a.take t.2)]) (λt=>i1 a-t.2) (⟨eH,0,0⟩,0) i4 ⟨jj,by simpa using(Sp.refl h).CH 71 5 1 aF⟩ ?_;rintro⟨s,i⟩ m ⟨u,d⟩;dsimp only at*;refine aj (λe=>?_) (λe=>?_)
 ·have b:i<i1 a:=i5
  refine(f.up d.ai).get i i4 b λr o=>?_;have:=j _ (qg b);refine(eW r _ m o i5).mono ?_;rintro _ x ⟨p,rfl,k⟩;refine⟨p,i4,?_⟩;refine aa.JB af (d.comp k) fM i9 λg h3 q=>?_;refine⟨(g,i+1),js,⟨i7,?_⟩,i7⟩;dsimp only;rw[aK _ _ b];exact q
 ·rw[qi i5]at d;exact⟨s,i4,d⟩
theorem LP(s b:Sl)(f:cx h a 119 (fu pw d s b))(j:fE h s 1 aF d.l)(ok:gE d):ac xB 24 #[xt (dB a)] h λv h'=>∃r:Sl,v=r/\Sp h h' [ez r d.l]:=by
 refine GK (dB a) ?_;unfold uX;have:=ok.len;have:=ok.room;refine bx (λe=>j1) λ_=>⟨a,i4,s,f.cell i4,(LO s d.l h j i5 λc i=>by rw[ok.cell c i];decide).mono ?_⟩
 rintro _ k ⟨r,rfl,g⟩;exact⟨r,i4,r,i4,g⟩
end
theorem aeX(b:Sl)(l:bf)(h:f9)(q:Rd h b 1 aF l)(B:i1 l<=2^40):ac xB 165 #[b] h λv h'=>v=xq xz (mL l).toNat/\h'=h:=by
 refine WB b ?_;unfold QQ;have E:=q.len;refine aA (λt:Nat=>(((lJ (l.take t)).toNat:Int),(t:Int))) (λt h'=>t<=i1 l/\h'=h) (λt=>i1 l-t) 0 i4 ⟨i5,i4⟩ ?_;rintro i u ⟨A,rfl⟩;refine aj (λe=>?_) (λe=>?_)
 ·have d:i<i1 l:=by have r:(i:Int)<(b.len:Int):=e;omega
  refine q.bG i i4 d (l[i].toNat:Int) i4 ?_;have z:qc xz (l[i].toNat:Int)=((wF 32 l[i].toNat).toNat:Int):=by rw[Qy,w8]
  rw[z,YX];refine aA (λk:Nat=>(((eu k (lJ (l.take i)^^^wF 32 l[i].toNat)).toNat:Int),(k:Int))) (λk h'=>k<=8/\h'=u) (λk=>8-k) 0 i4 ⟨i5,i4⟩ ?_;rintro k p ⟨D,rfl⟩;obtain⟨c,g⟩:∃c,c=eu k (lJ (l.take i)^^^wF 32 l[i].toNat):=⟨_,rfl⟩
  dsimp only;rw[<-g];refine aj (λe2=>⟨i6,?_⟩) (λe2=>?_)
  ·have a:∀n:jR,n=ko c->∃f:Nat,(((n.toNat:Nat):Int),qc xx ((k:Int)+1))=(((eu f (lJ (l.take i)^^^wF 32 l[i].toNat)).toNat:Int),(f:Int))/\(f<=8/\p=p)/\8-f<8-k:=λn w=>
    ⟨k+1,by rw[ak _,w,g];rfl,⟨i5,i4⟩,i5⟩
   have y:qc xz ((qD (qk xz) (c.toNat:Int)&&&qD (qk xz) (1:Int)).toNat:Nat)=((c&&&1#32).toNat:Int):=ajW c 1#32;have x:qc xz ((qD (qk xz) ((c>>>1).toNat:Int)^^^qD (qk xz) (3988292384:Int)).toNat:Nat)=(((c>>>1)^^^3988292384#32).toNat:Int):=YX (c>>>1) 3988292384#32;rw[y,ahp,x];refine ck (λo=>a _ ?_) (λo=>a _ ?_)
   ·unfold ko;rw[g0 ((XV c).1 o)]
   ·unfold ko;rw[g9 λs=>o ((XV c).2 s)]
  ·have m:k=8:=i5
   subst m;refine⟨i+1,?_,⟨i5,i4⟩,i5⟩;rw[ak _,aK _ _ d,YW,g];rfl
 ·have j:i=i1 l:=by have r:¬(i:Int)<(b.len:Int):=e;omega
  subst j;refine⟨?_,i4⟩;rw[q9];exact congrArg (Value.int .u32) (YX 4294967295#32 (lJ l))
theorem IH(kind:Int)(b:Sl)(l:bf)(h:f9)(z:Rd h b 1 aF l)(P:i1 l<=2^40:=by omega):ac xB 102 #[xq xx kind,b] h λv h'=>∃r:Sl,v=r/\Sp h h' [an 5 r 1 aF (dW kind l)]:=by
 refine Ud kind b ?_;unfold Nd;have O:=z.len;have f:¬(1<=kind/\kind<=255/\l.length<=55)->∃r:Sl,Value.slice eH 0 0=xr r.ptr r.len r.cap/\Sp h h [an 5 r 1 aF (dW kind l)]:=λe=>by
  unfold dW;rw[g9 e];exact⟨⟨eH,0,0⟩,i4,(Sp.refl h).nil 5 1 aF⟩
 refine bi (aj (λe=>f i5) λR=>aj (λe=>f i5) λe2=>aj (λe=>f i5) λQ=>?_);refine(Sp.refl h).make af aF hO i6 0 i4 i4 64 64 i4 i4 (qm _) i6 λo y p k G=>?_;rw[ee];refine G.lit af aF hO i4 [87,115,1,b8 kind] i4 (show 4*1<=2^20 by decide) i4 λv3 h3 A=>?_;refine A.Mz af 0 i4 hO (λ_=>rfl) (A.seq 1 i4 λ_=>rfl) iP λ_ t j=>⟨⟨i6,by rw[p];decide⟩,?_⟩
 have j:Sp h t [an 5 o 1 aF ([87,115,1,b8 kind]++qh 60 0)]:=by have:=j.cK [0];simpa using this
 refine j.Tv af 0 i4 hO (λ_=>rfl) (Seq.up z j.ai) iP 4 jj i4 i4 λ_ x q=>⟨⟨i6,by rw[k];decide⟩,?_⟩
 have J:([87,115,1,b8 kind]++qh 60 0).take 4++(l.take (i1 ([87,115,1,b8 kind]++qh 60 (0:UInt8))-4)++([87,115,1,b8 kind]++qh 60 0).drop (4+i1 l))=dS kind l++qh 5 0:=by
  have D:i1 ([87,115,1,b8 kind]++qh 60 (0:UInt8))=64:=jj
  rw[D,qi (l:=l) i5,<-zH];have y:([87,115,1,b8 kind]++qh 60 (0:UInt8)).drop 4=qh 60 0:=rfl;have h3:([87,115,1,b8 kind]++qh 60 (0:UInt8)).take 4=[87,115,1,b8 kind]:=rfl;rw[y,h3,List.drop_replicate];unfold dS;have t:qh (60-i1 l) (0:UInt8)=qh (55-i1 l) 0++qh 5 0:=by rw[List.replicate_append_replicate];congr 1;omega
  rw[t];simp[qp]
 rw[J]at q;have a:i1 (dS kind l)=59:=Aw i5;have F:Rd x ⟨o.ptr,59,o.cap⟩ 1 aF (dS kind l):=by have:=(q.seq 0 i4 λ_=>rfl).take 59 m5;rw[wm i5,qi i5]at this;exact this
 refine(aeX ⟨o.ptr,59,o.cap⟩ (dS kind l) x F i5).mono ?_;rintro _ L ⟨rfl,rfl⟩;obtain⟨c,u⟩:∃c,c=mL (dS kind l):=⟨_,rfl⟩
 rw[<-u];refine⟨_,i4,?_⟩;refine aA (λi:Nat=>(i:Int)) (λi h'=>i<=4/\Sp h h' [an 5 o 1 aF (dS kind l++((lR c).take i++qh (5-i) 0))]) (λi=>4-i) 0 i4 ⟨i5,oj⟩ ?_;rintro i M ⟨N,w⟩;have d:=ED c;refine aj (λe=>?_) (λe=>?_)
 ·have I:i<4:=by have B:(i:Int)<4:=e;omega
  rw[ak ((8:Int)*i),ak ((59:Int)+i)];refine⟨i5,?_⟩;have H:((8:Int)*(i:Int)).toNat=8*i:=i5
  have E:min (8*i) (qk xz)=8*i:=by have:qk xz=32:=rfl;omega
  rw[H,E,ee];have K:b8 (qX (c.toNat:Int) (2^(8*i)))=(lR c)[i]'(by omega):=by simp[lR]
  rw[K];refine w.set af 0 i4 (λ_=>rfl) i4 (59+i) i5 (by simp[a];omega) ((lR c)[i]'(by omega)) i4 i4 i4 λh8 g=>?_;refine⟨i+1,j0,⟨i5,?_⟩,i5⟩;have s:(dS kind l++((lR c).take i++qh (5-i) 0)).set (59+i) ((lR c)[i]'(by omega))=dS kind l++((lR c).take (i+1)++qh (5-(i+1)) 0):=by
   rw[qV _ _ i5,a,zr,qV _ _ i9,aK _ _];have:5-i=(5-(i+1))+1:=i5
   rw[this,yi];simp[d,Nat.min_eq_left (show i<=4 by omega)];rw[aK _ _ (show i<i1 (lR c) by omega),qp];rfl
  rw[s]at g;exact g
 ·have n:i=4:=by have B:¬(i:Int)<4:=e;omega
  subst n;refine w.set af 0 i4 (λ_=>rfl) i4 63 i4 (by simp[a,d]) 165 i4 i4 i4 λh8 g=>⟨o,i4,?_⟩
  have m:(dS kind l++((lR c).take 4++qh (5-4) 0)).set 63 165=dW kind l:=by unfold dW;rw[g0 ⟨i5,i5,i5⟩,<-u,qi i5,qV _ _ i5,a,qV _ _ qb];simp[d]
  rw[m]at g;exact g
end Go.Qw
namespace Go.Vc
open Go Wl
abbrev dT:=ByteArray×Int×Int×Sl
abbrev bV:=Int×Int×Int×Int×Int×Int×Sl×Sl
abbrev bH(x:dT):bh:=[xu x.1,xq xx x.2.1,xq xx x.2.2.1,x.2.2.2]
abbrev aY(x:bV):bh:=[xq xx x.1,xq xx x.2.1,xq xx x.2.2.1,xq xx x.2.2.2.1,xq xx x.2.2.2.2.1,xq xx x.2.2.2.2.2.1,x.2.2.2.2.2.2.1,x.2.2.2.2.2.2.2]
abbrev fH(x:bV):Value:=xw #[xq xx x.1,xq xx x.2.1,xq xx x.2.2.1,xq xx x.2.2.2.1,xq xx x.2.2.2.2.1,xq xx x.2.2.2.2.2.1,x.2.2.2.2.2.2.1,x.2.2.2.2.2.2.2]
def jD:jp dT Wl.cw:=⟨λh q a b=>(a.1=b.name/\a.2.1=b.object/\a.2.2.1=b.length)/\Seq h q a.2.2.2 1 av b.tries,λa d=>⟨a.1,a.2.ai d⟩,λa c=>⟨a.1,a.2.mono c⟩⟩
abbrev Ae:jp Sl (List Wl.cw):=bK jD 4 bH
structure tV (h:f9) (q:aC) (x:bV) (m:aG):Prop where
 seq:x.1=m.seq
 next:x.2.1=m.next
 p:(x.2.2.1,x.2.2.2.1,x.2.2.2.2.1)=m.p
 extra:x.2.2.2.2.2.1=m.extra
 drives:Seq h q x.2.2.2.2.2.2.1 1 av m.drives
 aH:Ae.p h q x.2.2.2.2.2.2.2 m.aH
 dcap:x.2.2.2.2.2.2.1.len<=x.2.2.2.2.2.2.1.cap
 ocap:x.2.2.2.2.2.2.2.len<=x.2.2.2.2.2.2.2.cap
abbrev dn(h:f9)(x:bV)(m:aG):Prop:=tV h (λb=>b<h.size) x m
theorem tV.ai{h h':f9}{q:aC}{x:bV}{m:aG}(a:tV h q x m)(b:bc q h h'):tV h' q x m:=⟨a.seq,a.next,a.p,a.extra,a.drives.ai b,Ae.loc a.aH b,a.dcap,a.ocap⟩
theorem tV.mono{h:f9}{q q':aC}{x:bV}{m:aG}(a:tV h q x m)(c:∀b,q b->q' b):tV h q' x m:=⟨a.seq,a.next,a.p,a.extra,a.drives.mono c,Ae.mono a.aH c,a.dcap,a.ocap⟩
theorem dn.up{h h':f9}{x:bV}{m:aG}(a:dn h x m)(c:bc (λb=>b<h.size) h h'):dn h' x m:=(tV.ai a c).mono λ_ d=>qR d c.1
def ct(x:bV)(m:aG):HP:=⟨λh q=>tV h q x m,λa c=>a.ai c,λa b=>a.mono b⟩
theorem PP:∀x,∀c∈bH x,c.oneCell'=eR:=by intro x c a;simp[bH]at a;rcases a with rfl|rfl|rfl|rfl<;>rfl
end Go.Vc
namespace Go.Qw
open Go Go.Vc Go.Proofs Wl
theorem tf(n a b:Int)(h:f9):ac xB 190 #[xq xx n,xq xx a,xq xx b] h λv h'=>v=xv (fo n a b)/\h'=h:=by
 refine Nx n a b ?_;unfold Gu fo;refine aj (λe=>⟨?_,i4⟩) (λe=>⟨?_,i4⟩)
 ·rw[hU (show a<=n from e)];rfl
 ·rw[ii (show¬a<=n from e)];rfl
theorem Ra(s:ByteArray)(h:f9)(G:s.size<=2^40):ac xB 136 #[xu s] h λv h'=>v=xv (ne s)/\Sp h h' []:=by
 refine Sb s ?_;unfold KC;refine ahq af ⟨_,i4,i4⟩ ⟨_,i4,i4⟩ ⟨_,i4,i4⟩ s λr D n=>?_;have y:=n.rd 0 i4;have z:=y.len;have A:=EE s;refine aA (λi:Nat=>(i:Int)) (λi h'=>i<=s.size/\h'=D/\∀c∈(jy s).take i,nu c=eR) (λi=>s.size-i) 0 i4 ⟨i5,i4,jj⟩ ?_;rintro i q ⟨F,rfl,d⟩;refine aj (λe=>?_) (λe=>?_)
 ·have j:i<i1 (jy s):=by have B:(i:Int)<(r.len:Int):=e;omega
  refine y.bG i i4 j ((jy s)[i].toNat:Int) i4 ?_;obtain⟨c,p⟩:∃c,c=(jy s)[i]:=⟨_,rfl⟩
  rw[<-p];have a:nu c=eR->∃o:Nat,qc xx ((i:Int)+1)=(o:Int)/\(o<=s.size/\q=q/\∀c∈(jy s).take o,nu c=eR)/\s.size-o<s.size-i:=λt=>
   ⟨i+1,j0,⟨i5,i4,λx k=>by
    rw[aK _ _ j]at k;rcases qz.1 k with k|k
    ·exact d x k
    ·rw[qC.1 k,<-p];exact t⟩,i5⟩
  have g:nu c=eS->Value.bool eS=xv (ne s)/\Sp h q []:=λt=>by
   refine⟨?_,n.cK []⟩;unfold ne;have:s.data.toList.all nu=eS:=yB.2 ⟨c,by rw[p];exact qg j,by rw[t];simp⟩;rw[this];rfl
  have b:nu c=eR↔((97<=(c.toNat:Int)/\(c.toNat:Int)<=122)∨(48<=(c.toNat:Int)/\(c.toNat:Int)<=57)∨(c.toNat:Int)=45):=by unfold nu;simp[or_assoc];omega
  have f:nu c=eS↔¬((97<=(c.toNat:Int)/\(c.toNat:Int)<=122)∨(48<=(c.toNat:Int)/\(c.toNat:Int)<=57)∨(c.toNat:Int)=45):=by rw[<-b];cases nu c<;>simp
  refine aj (λu=>aj (λe2=>bY (λm=>g (f.2 i5)) λm=>a (b.2 i5)) λe2=>aj (λm=>bY (λl=>g (f.2 i5)) λl=>a (b.2 i5)) λm=>a (b.2 i5)) λu=>aj (λe2=>aj (λm=>bY (λl=>g (f.2 i5)) λl=>a (b.2 i5)) λm=>aj (λl=>bY (λE=>g (f.2 i5)) λE=>a (b.2 i5)) λl=>a (b.2 i5)) λe2=>a (b.2 i5)
 ·have B:¬(i:Int)<(r.len:Int):=e;rw[qi i5]at d;have w:s.data.toList.all nu=eR:=qZ.2 d;refine aj (λu=>⟨?_,n.cK []⟩) (λu=>⟨?_,n.cK []⟩)
  ·unfold ne;rw[w,hU (show 1<=s.size by omega)];congr 1;simp;omega
  ·unfold ne;rw[w,ii (show¬1<=s.size by omega)];rfl
theorem abZ(s:Sl)(l:aD)(most:Int)(h:f9)(p:Rd h s 1 av l)(y:i1 l<=2^40):ac xB 191 #[s,xq xx most] h λv h'=>v=xv (rj l most)/\h'=h:=by
 refine Sh s most ?_;unfold KG;have t:=p.len;refine aA (λi:Nat=>(i:Int)) (λi h'=>i<=i1 l/\h'=h/\∀j,j<i->kp l most j=eR) (λi=>i1 l-i) 0 i4 ⟨i5,i4,i5⟩ ?_;rintro i f ⟨x,rfl,b⟩;refine aj (λe=>?_) (λe=>?_)
 ·have c:i<i1 l:=by have u:(i:Int)<(s.len:Int):=e;omega
  refine p.bG i i4 c l[i] i4 ?_;have n:l.getD i 0=l[i]:=getD_lt c;have g:kp l most i=eS->Value.bool eS=xv (rj l most)/\f=f:=λq=>⟨by unfold rj;rw[Ht c q],i4⟩
  have a:kp l most i=eR->∃m:Nat,qc xx ((i:Int)+1)=(m:Int)/\(m<=i1 l/\f=f/\∀j,j<m->kp l most j=eR)/\l.length-m<i1 l-i:=λq=>
   ⟨i+1,j0,⟨i5,i4,λj r=>by
    by_cases o:j=i
    ·rw[o];exact q
    ·exact b j i5⟩,i5⟩
  refine(tf l[i] 0 most f).mono ?_;rintro _ _ ⟨rfl,rfl⟩;refine⟨_,i4,bo (λk=>g (by unfold kp;rw[n,k];rfl)) λk=>aj (λe2=>?_) λe2=>a (by unfold kp;rw[n,k,hU (show i=0 by omega)];rfl)⟩;rw[ak ((i:Int)-1)];refine p.bG (i-1) i5 i5 (l[i-1]'(by omega)) i4 ?_;have d:l.getD (i-1) 0=l[i-1]'(by omega):=getD_lt;refine aj (λw=>g ?_) (λw=>a ?_)
  ·unfold kp;rw[n,d,k,ii (show¬i=0 by omega),ii i5];rfl
  ·unfold kp;rw[n,d,k,hU (show l[i-1]'(by omega)<l[i]by omega)];simp
 ·have u:¬(i:Int)<(s.len:Int):=e;exact⟨by unfold rj;rw[uJ λj r=>b j i5],i4⟩
theorem Fk(p:Pm)(n:Int)(h:f9)(q:n<=2^40:=by omega):ac xB 82 #[kW p,xq xx n] h λv h'=>v=xq xx (countP p n)/\Sp h h' []:=by
 refine Na p n ?_;unfold Gh;refine(Sp.refl h).boxed λm f g=>?_;refine bi ⟨p,(g.box 0 i4).aV _ i4,(eK p f).mono ?_⟩;rintro _ j ⟨rfl,i⟩;have b:=g.up i.ai;refine⟨_,i4,bo (λe=>⟨?_,b.cK []⟩) λd=>aj (λe=>⟨?_,b.cK []⟩) λe=>?_⟩
 ·unfold countP;rw[e];rfl
 ·unfold countP;rw[ii (show¬0<n by omega),Bool.and_false];rfl
 ·have l:=(co p).1 d;refine⟨p,(b.box 0 i4).aV _ i4,?_⟩;refine(DI p (R:=λv h'=>v=xq xx (p.1*p.2.2)/\Sp h h' []) ?_).mono ?_
  ·unfold AN;refine b.boxed λo h3 c=>⟨p.1,(c.box 1 i4).cell0 i4,p.2.2,(c.box 1 i4).cell i4,?_,c.cK []⟩
   have r:p.1*p.2.2<=16*24:=yy i5 i5 i5 i5;have a:0<=p.1*p.2.2:=vO i5 i5;rw[ak _]
  ·rintro _ h3 ⟨rfl,k⟩;have a:0<p.1*p.2.2:=Int.mul_pos i5 i5;refine⟨_,i4,Int.ne_of_gt a,?_,k⟩;have f:(n-1)/(p.1*p.2.2)<=n-1:=Int.ediv_le_self _ i5;have j:0<=(n-1)/(p.1*p.2.2):=Int.ediv_nonneg i5 i5;rw[ak (n-1),Int.tdiv_eq_ediv_of_nonneg i5,ak ((n-1)/(p.1*p.2.2)),ak _];unfold countP;rw[d,hU (show 0<n by omega)];rfl
theorem WH(s:Sl)(l:aD)(h:f9)(f:Rd h s 1 av l)(k:i1 l<=2^40):ac xB 147 #[s,.func (.func 258) #[] #[]] h λv h'=>v=xv (!l.all (fo · 0 15))/\h'=h:=by
 refine kF s (258,#[],#[]) ?_;unfold iI;have g:=f.len;refine(iV s (258,#[],#[]) (R:=λv h'=>(∃i:Int,v=xq xx i/\(decide (i>=0)=!l.all (fo · 0 15)))/\h'=h) ?_).mono ?_
 ·unfold gD;refine aA (λi:Nat=>(i:Int)) (λi h'=>i<=i1 l/\(l.take i).all (fo · 0 15)=eR/\h'=h) (λi=>i1 l-i) 0 i4 ⟨i5,jj,i4⟩ ?_;rintro i c ⟨d,a,rfl⟩;refine aj (λe=>?_) (λe=>?_)
  ·have b:i<i1 l:=by have j:(i:Int)<(s.len:Int):=e;omega
   refine f.bG i i4 b l[i] i4 (fd ld ?_);refine(LJ l[i] (R:=λv h'=>v=xv (!fo l[i] 0 15)/\h'=c) ?_).mono ?_
   ·unfold DV;refine(tf l[i] 0 15 c).mono ?_;rintro _ _ ⟨rfl,rfl⟩;exact⟨_,i4,i4,i4⟩
   ·rintro _ _ ⟨rfl,rfl⟩;refine⟨_,i4,bo (λe2=>?_) λe2=>?_⟩
    ·refine⟨⟨i,i4,?_⟩,i4⟩;rw[hU (show(i:Int)>=0 by omega)];have:l.all (fo · 0 15)=eS:=yB.2 ⟨_,qg b,by rw[e2];simp⟩;rw[this];rfl
    ·refine⟨i+1,j0,⟨i5,?_,i4⟩,i5⟩;rw[aK _ _ b,yW,a];simp[e2]
  ·have j:¬(i:Int)<(s.len:Int):=e;refine⟨⟨-1,i4,?_⟩,i4⟩;rw[qi i5]at a;rw[a];rfl
 ·rintro _ c ⟨⟨i,rfl,d⟩,rfl⟩;exact⟨i,i4,by rw[d],i4⟩
end Go.Qw
namespace Wl
structure cR (m:aG):Prop where
 dr:m.drives.length<=2^30
 ob:m.aH.length<=2^30
 nm:∀e∈m.aH,e.name.size<=2^30/\e.tries.length<=2^30
end Wl
namespace Go.Vc
open Go
theorem addr_add(a:f7)(i j:Nat):(a.add i).add j=a.add (i+j):=by unfold Addr.add;by_cases c:i=0<;>by_cases b:j=0<;>simp[c,b,wX]
theorem cx.Cl{h:f9}{a:f7}{e:TypeId}{b:bh}{v:Value}(c:cx h a e b)(i j:Nat)(d:b[i+j]?=dB v):f8 h ((a.add i).add j)=dB v:=by rw[addr_add];exact c.cell d
theorem cx.JS{h:f9}{a:f7}{e:TypeId}{b:bh}{u v w:Value}(c:cx h a e b)(i:Nat)(f:b[i]?=dB u)(g:b[i+1]?=dB v)(d:b[i+2]?=dB w):aq h (a.add i) 0 [u,v,w]:=
 ⟨c.Cl i 0 f,c.Cl i 1 g,c.Cl i 2 d,trivial⟩
end Go.Vc
namespace Go.Qw
open Go Go.Vc Go.Proofs Wl
abbrev PQ:bZ C.toDr 27 94 4 [xu ⟨#[]⟩,xq xx 0,xq xx 0,xr eH 0 0] 56:=⟨_,_,i4,i4,i4,i4,i4,i4⟩
theorem Zx(x:bV)(m:aG)(e:dT)(E:Wl.cw)(h:f9)(l:dn h x m)(A:dV jD h e E)(z:lK m=eR)(O:E.name.size<=2^30)(P:E.tries.length<=2^30):
  ac xB 192 #[fH x,xw #[xu e.1,xq xx e.2.1,xq xx e.2.2.1,e.2.2.2]] h λv h'=>v=xv (ie m E)/\Sp h h' []:=by
 refine PE x e ?_;unfold Ip;obtain⟨_,y,f,_⟩:=Tx z;have J:=(co m.p).1 f;obtain⟨⟨K,e2,w⟩,s⟩:=A;have d:x.2.2.1=m.p.1:=congrArg (·.1) l.p;have q:x.2.2.2.1=m.p.2.1:=congrArg (·.2.1) l.p;have c:x.2.2.2.2.1=m.p.2.2:=congrArg (·.2.2) l.p;have Q:m.p.1*m.p.2.2<=16*24:=yy i5 i5 i5 i5;have D:0<=m.p.1*m.p.2.2:=vO i5 i5;refine(Sp.refl h).boxed λL N F=>?_;refine F.boxed λM G r=>?_;have j:∀{h':f9} {As:List HP},Sp h h' As->ie m E=eS->Value.bool eS=xv (ie m E)/\Sp h h' []:=λ{h' As} H' g=>⟨by rw[g],.zip H'.ai⟩
 refine bi ⟨E.name,by rw[<-K];exact(r.box 1 i4).cell0 i4,(Ra E.name G i5).mono ?_⟩;rintro _ h3 ⟨rfl,I⟩;have a:=r.up I.ai;refine⟨_,i4,bo (λb=>j a (by unfold ie;rw[b];rfl)) λi=>?_⟩;refine⟨E.object,by rw[<-e2];exact(a.box 1 i4).cell i4,m.next,by rw[<-l.next];exact(a.box 0 i4).cell i4,?_⟩;dsimp only;rw[ak (m.next-1)];refine(tf E.object 0 (m.next-1) h3).mono ?_;rintro _ _ ⟨rfl,rfl⟩;refine⟨_,i4,bo (λb=>j a (by unfold ie;rw[i,b];rfl)) λn=>?_⟩;have g:=a.box 0 i4;refine⟨E.length,by rw[<-w];exact(a.box 1 i4).cell i4,m.p.1,by rw[<-d];exact g.cell i4,m.p.2.2,by rw[<-c];exact g.Cl 2 2 i4,?_⟩;dsimp only;rw[ak (m.p.1*m.p.2.2),ak (m.p.1*m.p.2.2*8)];refine(tf E.length 0 (m.p.1*m.p.2.2*8) _).mono ?_;rintro _ _ ⟨rfl,rfl⟩;refine⟨_,i4,bo (λb=>j a (by unfold ie;rw[i,n,b];rfl)) λk=>?_⟩;have u:0<=E.length/\E.length<=m.p.1*m.p.2.2*8:=by unfold fo at k;simpa using k
 refine⟨e.2.2.2,(a.box 1 i4).cell i4,?_⟩;refine(WH e.2.2.2 E.tries _ (Seq.up s a.ai) i5).mono ?_;rintro _ _ ⟨rfl,rfl⟩;refine⟨_,i4,bo (λb=>?_) λb=>⟨trivial,j a ?_⟩⟩
 ·have o:E.tries.all (fo · 0 15)=eR:=k7
  refine⟨e.2.2.2,(a.box 1 i4).cell i4,m.p,?_,E.length,by rw[<-w];exact(a.box 1 i4).cell i4,?_⟩
  ·rw[<-d,<-q,<-c];exact g.JS 2 i4 i4 i4
  ·refine(Fk m.p E.length _).mono ?_;rintro _ R ⟨rfl,B⟩;have t:=a.up B.ai;refine⟨_,i4,⟨(t.box 1 i4).cell i4,trivial⟩,?_,.zip t.ai⟩;unfold ie;have H:=s.len;rw[i,n,k,o,H];simp;rfl
 ·have o:E.tries.all (fo · 0 15)=eS:=k7
  unfold ie;rw[i,n,k,o];rfl
theorem WI(a:f7)(e:dT)(l:Sl)(b:List Wl.cw)(h:f9)(q:cx h a 94 (bH e))(r:dV Ae h l b)(F:b.length<=2^30):
  ac xB 193 #[l,.func (.func 194) #[] #[xt (dB a)]] h λv h'=>v=xv (b.any λy=>decide (y.object=e.2.1))/\Sp h h' []:=by
 refine gI l (194,#[],#[xt (dB a)]) ?_;unfold fc;refine(im l (194,#[],#[xt (dB a)]) (R:=λv h'=>(∃i:Int,v=xq xx i/\(decide (i>=0)=b.any λy=>decide (y.object=e.2.1)))/\Sp h h' []) ?_).mono ?_
 ·unfold fG;obtain⟨p,z,D,B⟩:=bK.kO r;have x:=bK.len r;refine aA (λi:Nat=>(i:Int)) (λi h'=>i<=b.length/\(b.take i).any (λy=>decide (y.object=e.2.1))=eS/\Sp h h' []) (λi=>b.length-i) 0 i4 ⟨i5,jj,Sp.refl h⟩ ?_;rintro i m ⟨o,c,j⟩;refine aj (λn=>?_) (λn=>?_)
  ·have d:i<b.length:=by have w:(i:Int)<(l.len:Int):=n;omega
   obtain⟨⟨_,t,_⟩,_⟩:=B i i5 d;refine(Seq.up z j.ai).eC (g:=bH) i i4 i5 (p[i]'(by omega)) i4 (fd ld ?_);refine(PF (p[i]'(by omega)) a (R:=λv h'=>v=xv (b[i].object==e.2.1)/\Sp m h' []) ?_).mono ?_
   ·unfold Iq;refine(Sp.refl m).boxed λE A f=>?_;have k:=q.ai (up j.ai f.ai) q.lt;exact⟨b[i].object,by rw[<-t];exact(f.box 0 i4).cell i4,e.2.1,k.cell i4,i4,.zip f.ai⟩
   ·rintro _ A ⟨rfl,u⟩;have f:=j.up u.ai;refine⟨_,i4,ck (λe2=>?_) λe2=>?_⟩
    ·refine⟨⟨i,i4,?_⟩,f⟩;rw[hU (show(i:Int)>=0 by omega)];exact(zQ.2 ⟨_,qg d,ns⟩).symm
    ·refine⟨i+1,j0,⟨i5,?_,f⟩,i5⟩;rw[aK _ _ d,yF,c];simpa using e2
  ·have w:¬(i:Int)<(l.len:Int):=n;refine⟨⟨-1,i4,?_⟩,j⟩;rw[qi i5]at c;rw[c];rfl
 ·rintro _ m ⟨⟨i,rfl,o⟩,s⟩;exact⟨i,i4,by rw[o],s⟩
theorem LQ(x:bV)(m:aG)(h:f9)(k:dn h x m)(M:cR m):ac xB 129 #[fH x] h λv h'=>v=xv (bR m)/\Sp h h' []:=by
 refine Ul x ?_;unfold Nn;refine(Sp.refl h).boxed λI h1 F=>?_;have u:=F.box 0 i4;have O:x.2.2.1=m.p.1:=congrArg (·.1) k.p;have N:x.2.2.2.1=m.p.2.1:=congrArg (·.2.1) k.p;have J:x.2.2.2.2.1=m.p.2.2:=congrArg (·.2.2) k.p;have w:∀{h':f9} {As:List HP},Sp h h' As->bR m=eS->Value.bool eS=xv (bR m)/\Sp h h' []:=λ{h' As} H' u=>⟨by rw[u],.zip H'.ai⟩
 refine bi ⟨m.seq,by rw[<-k.seq];exact u.cell0 i4,(tf m.seq 1 2147483647 h1).mono ?_⟩;rintro _ _ ⟨rfl,rfl⟩;refine⟨_,i4,bo (λb=>w F (by unfold bR lK;rw[b];rfl)) λG=>?_⟩;refine⟨m.next,by rw[<-k.next];exact u.cell i4,(tf m.next 0 16777216 _).mono ?_⟩;rintro _ _ ⟨rfl,rfl⟩;refine⟨_,i4,bo (λb=>w F (by unfold bR lK;rw[G,b];rfl)) λS=>?_⟩;refine⟨m.p,by rw[<-O,<-N,<-J];exact u.JS 2 i4 i4 i4,(eK m.p _).mono ?_⟩;rintro _ h2 ⟨rfl,R2⟩;have o:=F.up R2.ai;refine⟨_,i4,bo (λb=>w o (by unfold bR lK;rw[G,S,b];rfl)) λW=>?_⟩;refine⟨m.extra,by rw[<-k.extra];exact(o.box 0 i4).cell i4,(tf m.extra 0 16 _).mono ?_⟩;rintro _ _ ⟨rfl,rfl⟩;refine⟨_,i4,bo (λb=>w o (by unfold bR lK;rw[G,S,W,b];rfl)) λb4=>?_⟩;have H:lK m=eR:=by unfold lK;rw[G,S,W,b4];rfl
 have P:=k.up o.ai;have z:=o.box 0 i4;have ao:=M.dr;have ah:=M.ob;refine bi ⟨_,z.cell i4,(abZ _ m.drives 63 _ P.drives i5).mono ?_⟩;rintro _ _ ⟨rfl,rfl⟩;refine⟨_,i4,bo (λb=>w o (by unfold bR;rw[H,b];rfl)) λX=>?_⟩;have ab:=bK.len k.aH;refine⟨x.2.2.2.2.2.2.2,z.cell i4,aj (λe=>w o ?_) λam=>?_⟩
 ·unfold bR;rw[H,X,ii i5];rfl
 have R:i1 m.aH<=12:=i5
 refine⟨x.2.2.2.2.2.2.2,z.cell i4,?_⟩;obtain⟨l,D⟩:=bK.fix k.aH;have ad:=D.2.1;refine aA (λi:Nat=>(i:Int)) (λi h'=>i<=i1 m.aH/\(∀j,j<i->rk m j=eR)/\Sp h h' [au I 29 (aY x)]) (λi=>i1 m.aH-i) 0 i4 ⟨i5,i5,o⟩ ?_;rintro i h3 ⟨hi,n,U⟩;refine aj (λe=>?_) (λe=>?_)
 ·have f:i<i1 m.aH:=by have e':(i:Int)<(x.2.2.2.2.2.2.2.len:Int):=e;omega
  have B:=M.nm _ (qg f);have c:ri m.aH i=m.aH[i]:=po f;have A:∀{h':f9} {As:List HP},Sp h h' As->rk m i=eS->Value.bool eS=xv (bR m)/\Sp h h' []:=λ{h' As} H' u=>w H' (by unfold bR;rw[Ht f u];simp);have F3:=oD.up D U.ai;refine F3.1.eC (g:=bH) i i4 i5 (l[i]'(by omega)) i4 ?_;refine U.alloc af i4 λr h4 H4=>?_;refine H4.storeAll af 1 i4 i4 (bH (l[i]'(by omega))) i4 i4 i4 i4 λY y=>?_;have y:Sp h Y [au I 29 (aY x),au r 94 (bH (l[i]'(by omega)))]:=y;have F5:=oD.up D y.ai;obtain⟨⟨y1,y2,y3⟩,y4⟩:=Fix.row F5 f;obtain⟨b6,d⟩:∃b,b=(decide (i=0)||fp (ri m.aH (i-1)).name (ri m.aH i).name):=⟨_,rfl⟩
  refine bP (λ_ h'=>ie m m.aH[i]=eR/\b6=eR/\Sp h h' [au I 29 (aY x),au r 94 (bH (l[i]'(by omega)))]) ?_ ?_
  ·refine⟨x,(y.box 0 i4).aV _ i4,l[i]'(by omega),(y.box 1 i4).aV _ i4,?_⟩;refine(Zx x m (l[i]'(by omega)) m.aH[i] Y (k.up y.ai) (Fix.row F5 f) H B.1 B.2).mono ?_;rintro _ Z ⟨rfl,R6⟩;have a:=y.up R6.ai;have E:=oD.up D a.ai;refine⟨_,i4,trivial,bo (λb=>A a (by unfold rk;rw[c,b];rfl)) λb=>aj (λe2=>?_) λe2=>⟨b,by rw[d,hU (show i=0 by omega)];rfl,a⟩⟩;rw[ak ((i:Int)-1)];obtain⟨L,ha,zz,hc,rfl⟩:=E.1.eC (g:=bH) (i:=(i:Int)-1) (i-1) i5 i5 (l[i-1]'(by omega)) rfl (K:=λt=>t=l[i-1]'(by omega)) rfl;refine⟨x.2.2.2.2.2.2.2,(a.box 0 i4).cell i4,L,ha,m.aH[i-1].name,?_,m.aH[i].name,?_,?_⟩
   ·rw[<-(Fix.row E (show i-1<i1 m.aH by omega)).1.1];exact hc.1
   ·rw[<-y1];exact(a.box 1 i4).cell0 i4
   ·have q:ri m.aH (i-1)=m.aH[i-1]:=po;rw[c,q]at d;refine bo (λs=>A a ?_) (λs=>⟨b,?_,a⟩)
    ·unfold rk;rw[c,q,b,ii (show¬i=0 by omega)];unfold fp;rw[s];rfl
    ·rw[d];unfold fp;rw[s];simp
  ·rintro _ Z ⟨b,T,a⟩;have E:=oD.up D a.ai;refine⟨x.2.2.2.2.2.2.2,(a.box 0 i4).cell i4,⟨i5,by have:=k.ocap;omega⟩,?_⟩;rw[ql];refine(WI r (l[i]'(by omega)) ⟨x.2.2.2.2.2.2.2.ptr,i,x.2.2.2.2.2.2.2.cap⟩ (m.aH.take i) Z (a.box 1 i4) (bK.take E.elt i i5) i9).mono ?_;rintro _ h7 ⟨rfl,R7⟩;have V:=a.up R7.ai;rw[y2];refine⟨_,i4,bx (λs=>A V ?_) λs=>?_⟩
   ·unfold rk;rw[c,s];simp
   ·refine⟨i+1,j0,⟨i5,λj hj=>?_,V.cK [0]⟩,i5⟩;by_cases Q:j=i
    ·subst Q;rw[T]at d;unfold rk;rw[<-d,c,b,s];rfl
    ·exact n j i5
 ·have e':¬(i:Int)<(x.2.2.2.2.2.2.2.len:Int):=e;refine⟨?_,.zip U.ai⟩;unfold bR;rw[H,X,hU R,uJ λj hj=>n j i5];rfl
section
variable {B:aC} {h0 h:f9} {As:List HP}
theorem tW(s:Sl)(l:bf)(n:Int)(k:Nat)(w:k<=4)(x:i1 l<=2^20)(H:aa B h0 h (an 5 s 1 aF l::As)):
  ac xB 195 #[s,xq xx n,xq xx k] h λv h'=>∃b:Sl,v=b/\aa B h0 h' (an 5 b 1 aF (l++cg n k)::As):=by
 refine Ny s n k ?_;unfold Gv;have c:=cF n k;refine aA (λt:Sl×Nat=>(t.1,(k:Int)-1-t.2)) (λt h'=>t.2<=k/\aa B h0 h' (an 5 t.1 1 aF (l++(cg n k).take t.2)::As)) (λt=>k-t.2) (s,0) (by rw[ak _];simp) ⟨jj,l7⟩ ?_;rintro⟨o,j⟩ r ⟨q,a⟩;dsimp only at*;refine aj (λe=>?_) (λe=>?_)
 ·have d:j<k:=i5
  rw[ak ((8:Int)*((k:Int)-1-j))];refine⟨i5,?_⟩;have m:((8:Int)*((k:Int)-1-j)).toNat=8*(k-1-j):=i5
  have f:min (8*(k-1-j)) (qk xx)=8*(k-1-j):=by have:qk xx=64:=rfl;omega
  rw[m,f,ee];have p:b8 (qX n (2^(8*(k-1-j))))=(cg n k)[j]'(by omega):=by simp[cg]
  rw[p];refine a.push af 0 i4 hO i4 i6 (λ_=>rfl) iP ((cg n k)[j]'(by omega)) i4 i6 i9 λi u g=>?_;refine⟨(i,j+1),by dsimp only;rw[ak _];congr 1;omega,⟨i7,?_⟩,i7⟩;dsimp only;rw[aK _ _ (show j<i1 (cg n k) by omega),<-qp];exact g
 ·rw[qi i5]at a;exact⟨o,i4,a⟩
theorem NN(b:Sl)(l:aD)(o:Sl)(c:bf)(H:aa B h0 h (an 5 o 1 aF c::As))(r:St B h0 As λh=>Rd h b 1 av l)(G:i1 c<=2^30)(E:i1 l<=2^30){K:Sl×Int->f9->Prop}
  (z:∀q h',aa B h0 h' (an 5 q 1 aF (c++l.map b8)::As)->K (q,(i1 l:Int)) h'):
  aL (σ:=Sl×Int) (λa y h8=>
 Br (decide (a.2<((b.len:Nat):Int)))
 (∃j:f7,(b.ptr=dB j/\0<=a.2/\a.2<((b.len:Nat):Int))/\
 ∃g:Int,f8 h8 (j.add (a.2.toNat*1))=dB (xq xx g)/\
 aB xB (Instr.buildSlice 71 1 #[(0,(xq xy (qc xy g)))]) (.one (.sc .slc)) h8 λf A=>
 aB xB (Builtin.append_ #[71,71] 71 #[(xr a.1.ptr a.1.len a.1.cap),(xr f.ptr f.len f.cap)]) (.one (.sc .slc)) A λd p=>
 y ((⟨d.ptr,d.len,d.cap⟩:Sl),qc xx (a.2+(1:Int))) p)
 (K a h8)) (o,(0:Int)) h:=by
 have s:b.len=i1 l:=(r.at [_] H).len;refine aA (λt:Sl×Nat=>(t.1,(t.2:Int))) (λt h'=>t.2<=i1 l/\aa B h0 h' (an 5 t.1 1 aF (c++(l.take t.2).map b8)::As)) (λt=>i1 l-t.2) (o,0) i4 ⟨jj,l7⟩ ?_;rintro⟨u,i⟩ w ⟨D,m⟩;dsimp only at*;refine aj (λe=>?_) (λe=>?_)
 ·have k:i<i1 l:=i5
  refine(r.at [_] m).bG i i4 k l[i] i4 ?_;rw[ee];refine m.push af 0 i4 hO i4 i6 (λ_=>rfl) iP (b8 l[i]) i4 i6 i9 λv F x=>?_;refine⟨(v,i+1),js,⟨i7,?_⟩,i7⟩;dsimp only;rw[aK _ _ k,qW,<-qp];exact x
 ·have n:i=i1 l:=i5
  subst n;rw[q9]at m;exact z u w m
end
theorem ahL{m:aG}(a:bR m=eR){i:Nat}(b:i<i1 m.aH):ie m m.aH[i]=eR:=by
 unfold bR at a;simp only[qB]at a;have:=qZ.1 a.2.2.2 i (qG.2 b);unfold rk at this;simp only[qB]at this;have c:=this.1
 rwa [po b]at c
theorem aca{m:aG}(c:bR m=eR){i:Nat}(g:i<m.aH.length):m.aH[i].name.size<=12/\m.aH[i].tries.length<=3073:=by
 have b:=ahL c g;unfold ie ne at b;simp only[qB,decide_eq_true_eq]at b;obtain⟨⟨_,_,e⟩,_,h3,_,d⟩:=b;refine⟨e,?_⟩;obtain⟨_,_,a,_⟩:=Tx (abo c);have f:=(co m.p).1 a;unfold fo at h3;simp only[qB,decide_eq_true_eq]at h3;have j:m.p.1*m.p.2.2<=16*24:=yy i5 i5 i5 i5;unfold countP at d;split at d
 ·have:(m.aH[i].length-1)/(m.p.1*m.p.2.2)<=m.aH[i].length-1:=Int.ediv_le_self _ (by rename_i h;simp at h;omega);omega
 ·omega
theorem acb{m:aG}(b:bR m=eR){i:Nat}(a:i<i1 m.aH):i1 (jI m.aH[i])<=4000:=by have:=aca b a;unfold jI;simp[cF];have:m.aH[i].name.data.size=m.aH[i].name.size:=rfl;omega
theorem II{m:aG}(a:bR m=eR):∀n,n<=i1 m.aH->i1 ((m.aH.take n).flatMap jI)<=n*4000
 |0,_=>jj
 |n+1,hn=>by
  rw[aK _ _ (show n<i1 m.aH by omega),zg,qx];have c:=II a n i5;have b:=acb a (show n<i1 m.aH by omega);have h3:i1 ([m.aH[n]].flatMap jI)=i1 (jI m.aH[n]):=by rw[zk,z6,qN]
  omega
theorem LR{m:aG}(a:bR m=eR):i1 m.aH<=12:=by unfold bR at a;simp only[qB,decide_eq_true_eq]at a;exact a.2.2.1
theorem LS(m:aG)(k:cR m):i1 (gW m)<=100000:=by
 unfold gW;split
 ·rename_i c;have f:=c;unfold bR at f;simp only[qB,decide_eq_true_eq]at f;have h:i1 m.drives<=64:=by
   have a:=f.2.1;unfold rj at a;rw[qZ]at a;by_cases g:i1 m.drives<=64
   ·exact g
   ·exfalso;have e:∀i,i<i1 m.drives->(i:Int)<=m.drives.getD i 0:=λi=>by
     induction i with
     |zero=>
      intro b;have:=a 0 (qG.2 b);unfold kp fo at this;simp at this;simpa using this.1
     |succ i ih=>
      intro b;have:=a (i+1) (qG.2 b);have h3:=ih i5;unfold kp fo at this;simp at this;have d:=this.2;simp only[qe]at h3⊢;omega
    have h3:=e 64 i5;have d:=a 64 (qG.2 i5);unfold kp fo at d;simp at d;simp only[qe]at h3;omega
  have j:i1 (m.aH.flatMap jI)<=12*4000:=by have a:=II c m.aH.length (qm _);rw[q9]at a;have:=zK 4000 (LR c);omega
  simp only[qx,zn,yX,qy,cF];omega
 ·simp
theorem acd(x:bV)(m:aG)(h:f9)(d:dn h x m)(U:cR m):ac xB 130 #[fH x] h λv h'=>∃r:Sl,v=r/\Sp h h' [an 5 r 1 aF (gW m)]:=by
 refine Sa x ?_;unfold KB;refine(Sp.refl h).boxed λS h1 V=>?_;refine⟨x,(V.box 0 i4).aV _ i4,(LQ x m h1 (d.up V.ai) U).mono ?_⟩;rintro _ h2 ⟨rfl,R2⟩;have H2:=V.up R2.ai;refine⟨_,i4,bo (λe=>?_) λz=>?_⟩
 ·unfold gW;rw[e];exact⟨⟨eH,0,0⟩,i4,((H2.nil 5 1 aF).cK [1])⟩
 have X:x.2.2.1=m.p.1:=congrArg (·.1) d.p;have W:x.2.2.2.1=m.p.2.1:=congrArg (·.2.1) d.p;have T:x.2.2.2.2.1=m.p.2.2:=congrArg (·.2.2) d.p;have L:=H2.box 0 i4;have b:=LS m U;unfold gW at b;rw[z,g0 rfl]at b;have hM:∀{h':f9} {As:List HP},Sp h h' As->dn h' x m:=λ{h' As} G=>d.up G.ai;refine bi ⟨m.seq,by rw[<-d.seq];exact L.cell0 i4,m.next,by rw[<-d.next];exact L.cell i4,?_⟩;have H3:=(H2.nil 5 1 aF).bB;refine(tW ⟨eH,0,0⟩ [] m.seq 4 i6 jj H3).mono ?_;rintro _ h4 ⟨s4,rfl,H4⟩;refine⟨s4,i4,⟨by rw[<-d.next];exact(H4.box 1 i4).cell i4,trivial⟩,?_⟩;refine(tW s4 _ m.next 4 i6 pb H4).mono ?_;rintro _ h5 ⟨s5,rfl,H5⟩;refine⟨s5,i4,trivial,?_⟩;have j:=H5.box 1 i4;refine⟨m.p.1,by rw[<-X];exact j.cell i4,m.p.2.1,by rw[<-W];exact j.Cl 2 1 i4,m.p.2.2,by rw[<-T];exact j.Cl 2 2 i4,m.extra,by rw[<-d.extra];exact j.cell i4,x.2.2.2.2.2.2.1,j.cell i4,?_⟩;have a3:=d.drives.len;have ad:=bK.len d.aH;dsimp only;rw[ee,ee,ee,ee,ee,a3];refine H5.lit af aF hO i4 [b8 m.p.1,b8 m.p.2.1,b8 m.p.2.2,b8 m.extra,b8 (m.drives.length:Nat)] i4 (show 5*1<=2^20 by decide) i4 λbq h6 H6=>?_;refine H6.append af 0 i4 hO ⟨_,_,i4,i4⟩ i4 i6 (λ_=>rfl) (H6.seq 2 i4 λ_=>rfl) iP pb λs7 h7 P=>?_;have P:=P.cK [0,1];refine⟨x.2.2.2.2.2.2.1,(P.box 1 i4).cell i4,?_⟩;have a4:(([]++cg m.seq 4)++cg m.next 4++[b8 m.p.1,b8 m.p.2.1,b8 m.p.2.2,b8 m.extra,b8 (m.drives.length:Nat)]).length=13:=pb
 have a7:=U.dr;refine NN x.2.2.2.2.2.2.1 m.drives s7 _ P (St.mk' λh' G=>(hM G).drives) i5 i5 λs8 h8 Y=>?_;dsimp only;refine⟨x.2.2.2.2.2.2.2,(Y.box 1 i4).cell i4,?_⟩;dsimp only;rw[ee,ad];obtain⟨a,c⟩:∃a,a=([]++cg m.seq 4)++cg m.next 4++[b8 m.p.1,b8 m.p.2.1,b8 m.p.2.2,b8 m.extra,b8 (m.drives.length:Nat)]++m.drives.map b8:=⟨_,rfl⟩
 rw[<-c]at Y;have a2:a.length=13+m.drives.length:=by rw[c];simp[cF];omega
 simp only[qx,zn,yX,qy,cF]at b;refine Y.push af 0 i4 hO i4 i6 (λ_=>rfl) iP (b8 (m.aH.length:Nat)) i4 i6 i5 λs9 h9 R=>?_;have R:Sp h h9 [an 5 s9 1 aF (a++[b8 (m.aH.length:Nat)]),au S 29 (aY x)]:=R;refine⟨x.2.2.2.2.2.2.2,(R.box 1 i4).cell i4,?_⟩;obtain⟨I,Q⟩:=bK.fix d.aH;have a6:=Q.2.1;refine aA (λt:Sl×Nat=>(t.1,(t.2:Int))) (λt h'=>t.2<=m.aH.length/\Sp h h' [an 5 t.1 1 aF (a++[b8 (m.aH.length:Nat)]++(m.aH.take t.2).flatMap jI),au S 29 (aY x)]) (λt=>m.aH.length-t.2) (s9,0) i4 ⟨jj,by simpa using R⟩ ?_;rintro⟨o,i⟩ a8 ⟨hi,l⟩;dsimp only at*;refine aj (λe=>?_) (λe=>?_)
 ·have u:i<m.aH.length:=i5
  have Z:=oD.up Q l.ai;have ar:=aca z u;have q:((m.aH.take i).flatMap jI).length<=50000:=by have h1:=II z i hi;have:=LR z;have:i*4000<=12*4000:=zK _ i5;omega
  refine Z.1.eC (g:=bH) i i4 i5 (I[i]'(by omega)) i4 ?_;refine l.alloc af i4 λax bk ap=>?_;refine ap.storeAll af 2 i4 i4 (bH (I[i]'(by omega))) i4 i4 i4 i4 λam f=>?_;have ay:=oD.up Q f.ai;obtain⟨⟨w,y2,y3⟩,y4⟩:=Fix.row ay u;obtain⟨E,hE⟩:∃E,E=m.aH[i]:=⟨_,rfl⟩
  rw[<-hE]at w y2 y3 y4 ar;have n:=f.box 2 i4;refine bi ⟨E.name,nn,E.name,nn,?_⟩;rw[ee];refine f.px af aF hO i4 [b8 (E.name.size:Nat)] i4 (show 1*1<=2^20 by decide) i4 ⟨nn,nn,trivial⟩ ?_;have N:(a++[b8 (m.aH.length:Nat)]++(m.aH.take i).flatMap jI).length<=160000:=by rw[qx,qx,a2];simp;simp at q;omega
  obtain⟨k,M⟩:∃k,k=a++[b8 (m.aH.length:Nat)]++(m.aH.take i).flatMap jI:=⟨_,rfl⟩
  rw[<-M]at f N;refine f.push af 0 i4 hO i4 i6 (λ_=>rfl) iP (b8 (E.name.size:Nat)) i4 i6 i5 λbd br K=>?_;have O:=K.box 2 i4;refine⟨⟨by rw[<-w];exact O.cell0 i4,by rw[<-w];exact O.cell0 i4,trivial⟩,?_⟩;refine K.abn af 0 i4 hO ⟨_,i4,i4⟩ i4 i6 E.name i9 λH ah s=>?_;have y:=s.box 2 i4;refine⟨⟨by rw[<-w];exact y.cell0 i4,trivial⟩,?_⟩;have s:Sp h ah [an 5 H 1 aF (k++[b8 (E.name.size:Nat)]++jy E.name),au S 29 (aY x),au ax 94 (bH (I[i]'(by omega)))]:=s;refine bi ⟨E.object,by rw[<-y2];exact y.cell i4,E.length,by rw[<-y3];exact y.cell i4,?_⟩;have bb:=EE E.name;refine(tW H _ E.object 3 i6 i9 s).mono ?_;rintro _ a5 ⟨J,rfl,B⟩;have ab:=B.box 2 i4;refine⟨J,i4,⟨by rw[<-y3];exact ab.cell i4,trivial⟩,?_⟩;refine(tW J _ E.length 2 i6 mn B).mono ?_;rintro _ a9 ⟨D,rfl,A⟩;have ao:=A.box 2 i4;refine⟨D,i4,trivial,(I[i]'(by omega)).2.2.2,ao.cell i4,?_⟩;refine NN (I[i]'(by omega)).2.2.2 E.tries D _ A (St.mk' λh' G=>by rw[hE];exact(Fix.row (oD.up Q G.ai) u).2) mn i5 λa0 bl F=>?_;dsimp only;have am:=LR z;refine⟨(a0,i+1),js,⟨i7,?_⟩,i7⟩;dsimp only;rw[aK _ _ u,zg,<-qp,<-M,zk,z6,qN,<-hE];have e3:k++[b8 (E.name.size:Nat)]++jy E.name++cg E.object 3++cg E.length 2++E.tries.map b8=k++jI E:=by unfold jI jy;simp[qp]
  rw[e3]at F;exact F.cK [0,1]
 ·rw[qi i5]at l;refine⟨o,i4,?_⟩;have e2:a++[b8 (m.aH.length:Nat)]++m.aH.flatMap jI=gW m:=by rw[c];unfold gW;rw[z,g0 rfl];simp[qp]
  rw[e2]at l;exact l.cK [0]
end Go.Qw
namespace Go.Vc
open Go Wl
def dN{α:Type}(k:Nat)(f:α->bh)(L:List (Sl×List α)):HP:=⟨λh q=>∀y∈L,Seq h q y.1 k f y.2,λa d y b=>(a y b).ai d,λa c y b=>(a y b).mono c⟩
section
variable {α:Type} {B:aC} {h0 h:f9} {As:List HP} {k:Nat} {f:α->bh} {L:List (Sl×List α)} {s:Sl} {l:List α}
theorem aa.Yi(H:aa B h0 h As)(k:Nat)(f:α->bh):aa B h0 h (dN k f []::As):=
 (H.comp (.one (A:=dN k f []) (bc.refl _ _) λy a=>by cases a)).bB
theorem aa.Yj(H:aa B h0 h (dN k f L::uH s k f l::As)):aa B h0 h (dN k f ((s,l)::L)::As):=by
 have g:aa B h0 h ((uH s k f l).sep (dN k f L)::As):=H.mu;refine g.fZ 0 i4 λq ⟨i,j,_,b,c,d,e⟩ y a=>?_;rcases zb.1 a with rfl|a
 ·exact d.mono b
 ·exact(e y a).mono c
end
end Go.Vc
namespace Go.Qw
open Go Go.Vc Go.Proofs Wl
theorem aji(n:Int):cg n 4=[b8 (qX n (2^24)),b8 (qX n (2^16)),b8 (qX n (2^8)),b8 n]:=by
 have e:qX n (2^0)=n:=jj
 show[b8 (qX n (2^24)),b8 (qX n (2^16)),b8 (qX n (2^8)),b8 (qX n (2^0))]=_;rw[e]
theorem ace(seq a c:Int)(b:Sl)(l:bf)(h:f9)(q:Rd h b 1 aF l)(x:i1 l<=2^20):ac xB 131 #[xq xx seq,xq xx a,xq xx c,b] h λv h'=>∃r:Sl,v=r/\Sp h h' [an 5 r 1 aF (kI seq a c l)]:=by
 refine Um seq a c b ?_;unfold No;refine⟨i6,i6,i6,?_⟩;have j:min (24:Int).toNat (qk xx)=24:=rfl;have i:min (16:Int).toNat (qk xx)=16:=rfl;have s:min (8:Int).toNat (qk xx)=8:=rfl;rw[j,i,s,ee,ee,ee,ee,ee,ee,ee];have d:=aji seq;generalize b8 (qX seq (2^24))=c1 at d⊢;generalize b8 (qX seq (2^16))=c2 at d⊢;generalize b8 (qX seq (2^8))=c3 at d⊢;generalize b8 seq=c4 at d⊢;have e:kI seq a c l=dW 2 ([c1,c2,c3,c4]++([b8 a,b8 c,b8 (b.len:Nat)]++l)):=by unfold kI;rw[d,q.len]
 generalize b8 a=c5 at e⊢;generalize b8 c=c6 at e⊢;generalize b8 (b.len:Nat)=c7 at e⊢;refine(Sp.refl h).lit af aF hO i4 [c1,c2,c3,c4,c5,c6,c7] i4 (show 7*1<=2^20 by decide) j3 λu w o=>?_;refine o.append af 0 i4 hO ⟨_,_,i4,i4⟩ i4 i6 (λ_=>rfl) (Seq.up q o.ai) iP i9 λm p n=>?_;have k:Rd p m 1 aF ([c1,c2,c3,c4,c5,c6,c7]++l):=n.seq 0 i4 λ_=>rfl;have f:i1 ([c1,c2,c3,c4,c5,c6,c7]++l)<=2^40:=i9
 rw[e];have g:[c1,c2,c3,c4,c5,c6,c7]++l=[c1,c2,c3,c4]++([c5,c6,c7]++l):=rfl;rw[<-g];generalize [c1,c2,c3,c4,c5,c6,c7]++l=ll at k f⊢;refine(IH 2 m ll p k f).mono ?_;rintro _ h3 ⟨r,rfl,t⟩;exact⟨r,i4,r,i4,(aa.comp (Sp.zip n.ai) t)⟩
theorem nZ(x:bV)(m:aG)(h:f9)(E:dn h x m)(z:cR m):ac xB 68 #[fH x] h λv h'=>∃r:Sl,v=r/\Sp h h' [ez r (bu m)]:=by
 refine Pt x ?_;unfold HY;refine(Sp.refl h).boxed λw J p=>?_;refine⟨x,(p.box 0 i4).aV _ i4,(acd x m J (E.up p.ai) z).mono ?_⟩;rintro _ N ⟨b,rfl,F⟩;have j:=p.comp F;have u:=LS m z;obtain⟨l,s⟩:∃l,l=gW m:=⟨_,rfl⟩
 rw[<-s]at j u;have H:=(j.own 1 i4).len;have n:=(j.own 1 i4).cap;refine⟨b,i4,i6,?_⟩;have a:qc xx (wA (qc xx ((qc xx (((b.len:Nat):Int)+(48:Int)))-(1:Int))) (48:Int))=(iL l:Int):=by rw[ak ((b.len:Int)+48),ak ((b.len:Int)+48-1),Int.tdiv_eq_ediv_of_nonneg i5];unfold iL;rw[ak (((b.len:Int)+48-1)/48)];omega
 have I:iL l<=3000:=by unfold iL;omega
 rw[a];obtain⟨d,c⟩:∃d:cJ,d=bu m:=⟨_,rfl⟩
 have B:i1 d=iL l:=by rw[c,s];simp[bu]
 have g:Sp h N [ez ⟨eH,0,0⟩ (d.take 0),au w 29 (aY x),an 5 b 1 aF l]:=j.CH 71 5 1 aF;refine aA (λt:Sl×Nat=>(t.1,(t.2:Int))) (λt h'=>t.2<=iL l/\Sp h h' [ez t.1 (d.take t.2),au w 29 (aY x),an 5 b 1 aF l]) (λt=>iL l-t.2) (⟨eH,0,0⟩,0) i4 ⟨jj,g⟩ ?_;rintro⟨o,i⟩ h3 ⟨Q,g⟩;dsimp only at*;refine aj (λe=>?_) (λe=>?_)
 ·have q:i<iL l:=i5
  have y:48*i<i1 l:=by unfold iL at q;omega
  rw[ak ((i:Int)*48),ak ((i:Int)+1),ak (((i:Int)+1)*48)];obtain⟨f,G⟩:∃f:Nat,f=min (48*i+48) l.length:=⟨_,rfl⟩
  have k:(if((i:Int)+1)*48<((b.len:Nat):Int)then((i:Int)+1)*48 else((b.len:Nat):Int))=(f:Int):=by split<;>omega
  rw[k];refine⟨m.seq,by rw[<-E.seq];exact(g.box 1 i4).cell0 i4,⟨i5,i5,i5⟩,?_⟩;have P:((i:Int)*48).toNat=48*i:=i5
  rw[P,ql];have D:=((g.seq 2 i4 λ_=>rfl).drop (48*i) n).take (f-48*i) l5;have e2:(l.drop (48*i)).take (f-48*i)=(l.drop (48*i)).take 48:=by
   by_cases R:48*i+48<=i1 l
   ·rw[show f-48*i=48 by omega]
   ·rw[qi l5,qi l5]
  rw[e2,z7]at D;refine(ace m.seq i (iL l) ⟨_,f-48*i,b.cap-48*i⟩ _ h3 (by rw[z7];exact D) i9).mono ?_;rintro _ T ⟨r,rfl,K⟩;have A:=(g.cm K).aX 4 [1,0,2,3];refine⟨r,i4,trivial,?_⟩;refine A.px af bv fM i4 [r] i4 (show 1*1<=2^20 by decide) i4 trivial ?_;refine A.JB af fM i9 λL S M=>⟨trivial,?_⟩
  refine⟨(L,i+1),i4,⟨i7,?_⟩,i7⟩;dsimp only;rw[aK _ _ (show i<i1 d by omega)];have O:d[i]'(by omega)=kI m.seq i (iL l) ((l.drop (48*i)).take 48):=by subst c;subst s;simp[bu]
  rw[O];exact M
 ·rw[qi i5,c]at g;exact⟨o,i4,g.cK [0]⟩
theorem WJ(s:Sl)(a:List dT)(h:f9)(c:Rd h s 4 bH a)(f:i1 a<=2^30):ac xB 105 #[s] h λv h'=>∃r:Sl,v=r/\Sp h h' [an 94 r 4 bH a]:=by
 refine nB s ?_;unfold jB;refine bx (λe=>?_) (λe=>?_)
 ·have:=c.isNil e;subst this;exact⟨⟨eH,0,0⟩,i4,(Sp.refl h).nil 94 4 bH⟩
 ·refine(Sp.refl h).lit af bH PQ i4 ([]:List dT) i4 i6 i4 λj k b=>?_;refine b.append af 0 i4 PQ ⟨_,_,i4,i4⟩ i4 i6 (λ_=>rfl) (Seq.up c b.ai) PP i9 λd i g=>?_;exact⟨d,i4,g⟩
def Fl(pool:List (Sl×aD))(p:dT×Wl.cw):Prop:=(p.1.1=p.2.name/\p.1.2.1=p.2.object/\p.1.2.2.1=p.2.length)/\(p.1.2.2.2,p.2.tries)∈pool
theorem aa.Fm{B:aC}{n h:f9}{As:List HP}{y:bV}{m:aG}{L:List (dT×Wl.cw)}{pool:List (Sl×aD)}(d:y.1=m.seq/\y.2.1=m.next/\(y.2.2.1,y.2.2.2.1,y.2.2.2.2.1)=m.p/\y.2.2.2.2.2.1=m.extra)(l:L.map zI=m.aH)(z:∀p∈L,Fl pool p)
  (H:aa B n h (dN 1 av pool::an 3 y.2.2.2.2.2.2.1 1 av m.drives::an 94 y.2.2.2.2.2.2.2 4 bH (L.map qI)::As)):aa B n h (ct y m::As):=by
 have g:=(H.own 2 i4)
 have i:=(H.own 1 i4)
 have A:=((H.freeze 1 i4 λ_=>rfl).freeze 2 i4 λ_=>rfl).mu.mu;refine A.fZ 0 i4 λq ⟨G,F,_,b,c,w,s⟩=>?_;obtain⟨I,E,_,o,t,z3,z4⟩:=s;refine⟨d.1,d.2.1,d.2.2.1,d.2.2.2,z3.mono λx k=>c x (o x k),⟨L.map qI,w.mono b,by rw[<-l];simp,λj r e a f=>?_⟩,i.cap,g.cap⟩;rw[<-l]at f;rw[qU]at a f;cases hj:L[j]? with
 |none=>rw[hj]at a;cases a
 |some p=>
  rw[hj]at a f;have D:=zR.inj (show dB p.1=dB r from a);have e2:=zR.inj (show dB p.2=dB e from f);subst D;subst e2;obtain⟨u,v⟩:=z p (ya hj);exact⟨u,(z4 _ v).mono λx k=>c x (t x k)⟩
theorem oa(x:bV)(m:aG)(h:f9)(z:dn h x m)(G:cR m):ac xB 46 #[fH x] h λv h'=>∃(y:bV) (L:List (dT×Wl.cw)) (pool:List (Sl×aD)),v=fH y/\(y.1=m.seq/\y.2.1=m.next/\(y.2.2.1,y.2.2.2.1,y.2.2.2.2.1)=m.p/\y.2.2.2.2.2.1=m.extra)/\L.map zI=m.aH/\(∀p∈L,Fl pool p)/\
  Sp h h' [dN 1 av pool,an 3 y.2.2.2.2.2.2.1 1 av m.drives,an 94 y.2.2.2.2.2.2.2 4 bH (L.map qI)]:=by
 refine Ub x ?_;unfold MS;refine(Sp.refl h).boxed λR k X=>?_;refine X.alloc af i4 λS q I=>?_;have D:=I.box 0 i4;have hM:∀{h':f9} {As:List HP},Sp h h' As->dn h' x m:=λ{h' As} H'=>z.up H'.ai;obtain⟨b,J⟩:=bK.fix z.aH;have W:=J.2.1;have Y:=G.dr;have ah:=G.ob;refine bi ⟨x.2.2.2.2.2.2.1,D.cell i4,x.2.2.2.2.2.2.2,D.cell i4,?_⟩;refine(kg _ m.drives q (hM I).drives i5).mono ?_;rintro _ h3 ⟨d,rfl,R3⟩;have Q:=I.comp R3;refine⟨d,i4,⟨(Q.box 0 i4).cell i4,trivial⟩,?_⟩;refine(WJ _ b h3 (oD.up J Q.ai).1 i5).mono ?_;rintro _ h4 ⟨o,rfl,R4⟩;have H4:=Q.comp R4;refine⟨o,i4,trivial,?_⟩;refine H4.store af 0 i4 i4 6 [d] i4 i4 i4 j8 λh5 H5=>⟨trivial,?_⟩
 refine H5.store af 0 i4 i4 7 [o] i4 i4 i4 j8 λh6 u=>⟨trivial,?_⟩
 obtain⟨y,n⟩:∃y:bV,y=(x.1,x.2.1,x.2.2.1,x.2.2.2.1,x.2.2.2.2.1,x.2.2.2.2.2.1,d,o):=⟨_,rfl⟩
 have u:Sp h h6 [au R 29 (aY y),au S 29 [xq xx 0,xq xx 0,xq xx 0,xq xx 0,xq xx 0,xq xx 0,xr eH 0 0,xr eH 0 0],an 3 d 1 av m.drives,an 94 o 4 bH b]:=by rw[n];exact u
 have c:y.2.2.2.2.2.2.2=o:=by rw[n]
 have H:y.2.2.2.2.2.2.1=d:=by rw[n]
 refine⟨o,by rw[<-c];exact(u.box 0 i4).cell i4,?_⟩;have ab:=(u.own 3 i4).len;have u:=u.Yi 1 av;refine aA (λt:List dT×List (Sl×aD)=>(t.1.length:Int)) (λt h'=>t.1.length<=m.aH.length/\(∀(j:Nat) r e,t.1[j]?=dB r->m.aH[j]?=dB e->(r.1=e.name/\r.2.1=e.object/\r.2.2.1=e.length)/\(r.2.2.2,e.tries)∈t.2)/\Sp h h' [dN 1 av t.2,au R 29 (aY y),au S 29 [xq xx 0,xq xx 0,xq xx 0,xq xx 0,xq xx 0,xq xx 0,xr eH 0 0,xr eH 0 0],an 3 d 1 av m.drives,an 94 o 4 bH (t.1++b.drop t.1.length)]) (λt=>m.aH.length-t.1.length) ([],[]) i4 ⟨jj,λj r e k=>by simp at k,u⟩ ?_;rintro⟨a,pool⟩ h7 ⟨hi,E,l⟩;dsimp only at*;refine aj (λe=>?_) (λe=>?_)
 ·have s:a.length<m.aH.length:=i5
  have F7:=oD.up J l.ai;obtain⟨⟨V,y2,y3⟩,y4⟩:=Fix.row F7 s;have f:(a++b.drop a.length)[a.length]'(by simp;omega)=b[a.length]'(by omega):=jj
  obtain⟨P,Z,zz,T,rfl⟩:=(l.seq 4 rfl λ_=>rfl).eC (g:=bH) (i:=(a.length:Int)) a.length rfl i9 (b[a.length]'(by omega)) (by rw[f]) (K:=λt=>t=b[a.length]'(by omega)) i4;refine⟨o,by rw[<-c];exact(l.box 1 i4).cell i4,o,by rw[<-c];exact(l.box 1 i4).cell i4,P,Z,_,T.2.2.2.1,?_⟩;have am:=(G.nm _ (qg s)).2;refine(kg _ m.aH[a.length].tries h7 y4 i5).mono ?_;rintro _ h8 ⟨t,rfl,U⟩;have w:=l.cm U;refine⟨t,i4,⟨by rw[<-c];exact(w.box 2 i4).cell i4,by rw[<-c];exact(w.box 2 i4).cell i4,trivial⟩,?_⟩;refine w.aes af 5 i4 (λ_=>rfl) i4 a.length i4 i9 3 [t] jj ((b[a.length]'(by omega)).1,(b[a.length]'(by omega)).2.1,(b[a.length]'(by omega)).2.2.1,t) i4 i4 i4 (by rw[f];simp[bH]) λh9 A=>⟨trivial,?_⟩
  have A:=(A.freeze 0 i4 λ_=>rfl).aX 6 [1,0,2,3,4,5];have A:=A.Yj;refine⟨(a++[((b[a.length]'(by omega)).1,(b[a.length]'(by omega)).2.1,(b[a.length]'(by omega)).2.2.1,t)],(t,m.aH[a.length].tries)::pool),by simp only[qx,List.length_singleton];rw[ak _];rfl,⟨i9,λj r e k q=>?_,?_⟩,i9⟩
  ·dsimp only at k⊢;by_cases M:j<a.length
   ·rw[qo M]at k;obtain⟨g1,g2⟩:=E j r e k q;exact⟨g1,List.mem_cons_of_mem _ g2⟩
   ·have F:j=a.length:=by have:=(qn.1 k).1;simp at this;omega
    subst F;rw[qj (qm _),zc]at k;simp at k;rw[qd s]at q;injection q with q
    subst k;subst q;exact⟨⟨V,y2,y3⟩,List.mem_cons_self⟩
  ·dsimp only;have e4:(a++b.drop a.length).set a.length ((b[a.length]'(by omega)).1,(b[a.length]'(by omega)).2.1,(b[a.length]'(by omega)).2.2.1,t)=a++[((b[a.length]'(by omega)).1,(b[a.length]'(by omega)).2.1,(b[a.length]'(by omega)).2.2.1,t)]++b.drop (a++[((b[a.length]'(by omega)).1,(b[a.length]'(by omega)).2.1,(b[a.length]'(by omega)).2.2.1,t)]).length:=by rw[qV _ _ (qm _),zc,qP (show a.length<b.length by omega),zq];simp
   rw[<-e4];exact A
 ·have ad:a.length=m.aH.length:=i5
  rw[zf i5,qN]at l;refine⟨y,(l.box 1 i4).aV _ i4,?_⟩;refine l.storeAll af 2 i4 i4 (aY y) i4 i4 i4 i4 λh8 w=>?_;have O:(a.zip m.aH).map qI=a:=List.map_fst_zip i5;have N:(a.zip m.aH).map zI=m.aH:=List.map_snd_zip i5;refine⟨y,(w.box 2 i4).aV _ i4,y,a.zip m.aH,pool,i4,⟨by rw[n];exact z.seq,by rw[n];exact z.next,by rw[n];exact z.p,by rw[n];exact z.extra⟩,N,λp hp=>?_,?_⟩
  ·obtain⟨j,M,rfl⟩:=qK hp;have B:j<a.length/\j<m.aH.length:=by simp at M;omega
   have:=E j _ _ (qd B.1) (qd B.2);rw[vd];exact this
  ·rw[O,H,c];exact w.cK [0,3,4]
theorem NO(x:bV)(m:aG)(h:f9)(a:dn h x m)(e:cR m):ac xB 46 #[fH x] h λv h'=>∃y:bV,v=fH y/\Sp h h' [ct y m]:=by refine(oa x m h a e).mono ?_;rintro _ h' ⟨y,L,pool,rfl,c,b,d,H⟩;exact⟨y,i4,aa.Fm c b d H⟩
end Go.Qw
namespace Go.Vc
open Go Wl
abbrev bI:=Int×Int×Int×Int×Int×Int×Int×Sl
abbrev bT(x:bI):bh:=[xq xx x.1,xq xx x.2.1,xq xx x.2.2.1,xq xx x.2.2.2.1,xq xx x.2.2.2.2.1,xq xx x.2.2.2.2.2.1,xq xz x.2.2.2.2.2.2.1,x.2.2.2.2.2.2.2]
abbrev recv(x:bI):Value:=xw #[xq xx x.1,xq xx x.2.1,xq xx x.2.2.1,xq xx x.2.2.2.1,xq xx x.2.2.2.2.1,xq xx x.2.2.2.2.2.1,xq xz x.2.2.2.2.2.2.1,x.2.2.2.2.2.2.2]
theorem ahM:∀x,∀c∈bT x,c.oneCell'=eR:=by intro x c a;simp[bT]at a;rcases a with rfl|rfl|rfl|rfl|rfl|rfl|rfl|rfl<;>rfl
def iW(x y:Int):Int:=if x<y then-1 else if x>y then 1 else 0
def mD(a b:bI):Int:=if iW a.1 b.1≠0 then iW a.1 b.1 else if iW a.2.1 b.2.1≠0 then iW a.2.1 b.2.1 else iW a.2.2.1 b.2.2.1
def cC(a b:bI):Bool:=decide (mD a b<=0)
theorem jK(x y:Int):(x<y/\iW x y=-1)∨(x>y/\iW x y=1)∨(x=y/\iW x y=0):=by
 unfold iW;by_cases a:x<y
 ·exact .inl ⟨a,g0 a⟩
 ·by_cases b:x>y
  ·exact .inr (.inl ⟨b,by rw[g9 a,g0 b]⟩)
  ·exact .inr (.inr ⟨i5,by rw[g9 a,g9 b]⟩)
theorem Ec(a b:bI):mD a b<=0↔a.1<b.1∨(a.1=b.1/\(a.2.1<b.2.1∨(a.2.1=b.2.1/\a.2.2.1<=b.2.2.1))):=by
 unfold mD;rcases jK a.1 b.1 with⟨h1,e1⟩|⟨h1,e1⟩|⟨h1,e1⟩
 ·rw[e1,g0 i6];omega
 ·rw[e1,g0 i6];omega
 ·rw[e1,g9 i6];rcases jK a.2.1 b.2.1 with⟨h2,e2⟩|⟨h2,e2⟩|⟨h2,e2⟩
  ·rw[e2,g0 i6];omega
  ·rw[e2,g0 i6];omega
  ·rw[e2,g9 i6];rcases jK a.2.2.1 b.2.2.1 with⟨h3,e3⟩|⟨h3,e3⟩|⟨h3,e3⟩<;>rw[e3]<;>omega
theorem th(a b:bI):mD a b<0↔¬cC b a=eR:=by
 unfold cC;rw[decide_eq_true_eq,Ec];unfold mD;rcases jK a.1 b.1 with⟨h1,e1⟩|⟨h1,e1⟩|⟨h1,e1⟩
 ·rw[e1,g0 i6];omega
 ·rw[e1,g0 i6];omega
 ·rw[e1,g9 i6];rcases jK a.2.1 b.2.1 with⟨h2,e2⟩|⟨h2,e2⟩|⟨h2,e2⟩
  ·rw[e2,g0 i6];omega
  ·rw[e2,g0 i6];omega
  ·rw[e2,g9 i6];rcases jK a.2.2.1 b.2.2.1 with⟨h3,e3⟩|⟨h3,e3⟩|⟨h3,e3⟩<;>rw[e3]<;>omega
theorem acf(a b:bI):mD a b=0↔(a.1=b.1/\a.2.1=b.2.1/\a.2.2.1=b.2.2.1):=by
 unfold mD;rcases jK a.1 b.1 with⟨h1,e1⟩|⟨h1,e1⟩|⟨h1,e1⟩
 ·rw[e1,g0 i6];omega
 ·rw[e1,g0 i6];omega
 ·rw[e1,g9 i6];rcases jK a.2.1 b.2.1 with⟨h2,e2⟩|⟨h2,e2⟩|⟨h2,e2⟩
  ·rw[e2,g0 i6];omega
  ·rw[e2,g0 i6];omega
  ·rw[e2,g9 i6];rcases jK a.2.2.1 b.2.2.1 with⟨h3,e3⟩|⟨h3,e3⟩|⟨h3,e3⟩<;>rw[e3]<;>omega
theorem dY:Ord cC:=⟨λa b c e d=>by
 unfold cC at*;rw[decide_eq_true_eq,Ec]at*;omega,λa b=>by
 unfold cC;rw[Bool.or_eq_true,decide_eq_true_eq,decide_eq_true_eq,Ec,Ec];omega⟩
theorem Uy{α:Type}(A B C:List α)(x y:α){i j:Nat}(c:i=i1 A)(b:j=i1 A+1+i1 B):
  (A++x::(B++y::C))[i]?=dB x/\(A++x::(B++y::C))[j]?=dB y/\((A++x::(B++y::C)).set i y).set j x=A++y::(B++x::C)/\((A++x::(B++y::C)).set j x).set i y=A++y::(B++x::C):=by
 subst c;subst b;have a:i1 A+1+i1 B-i1 A=i1 B+1:=i5
 refine⟨by rw[qj (qm _),zc];rfl,?_,?_,?_⟩
 ·rw[qj i5,a,qw,qj (qm _),zc];rfl
 ·rw[qV _ _ (qm _),zc,zq,qV _ _ i5,a,zu,qV _ _ (qm _),zc,zq]
 ·rw[qV _ _ (show A.length<=i1 A+1+i1 B by omega),a,zu,qV _ _ (qm _),zc,zq,qV _ _ (qm _),zc,zq]
end Go.Vc
namespace Go.Qw
open Go Go.Vc Go.Proofs Wl
abbrev ajj:bZ C.toDr 161 164 8 [xq xx 0,xq xx 0,xq xx 0,xq xx 0,xq xx 0,xq xx 0,xq xz 0,xr eH 0 0] 80:=⟨_,_,i4,i4,i4,i4,i4,i4⟩
theorem uN(x y:Int)(h:f9):ac xB 207 #[xq xx x,xq xx y] h λv h'=>v=xq xx (iW x y)/\h'=h:=by
 refine sJ x y ?_;unfold ov;have a:∀z:Int,ac xB 263 #[xq xx z] h λv h'=>v=xv eS/\h'=h:=λz=>by
  refine wc z ?_;unfold rP;exact⟨jj,i4⟩
 refine(a x).mono ?_;rintro _ _ ⟨rfl,rfl⟩;refine⟨_,i4,(a y).mono ?_⟩;rintro _ _ ⟨rfl,rfl⟩;refine⟨_,i4,bx (λe=>j1) λ_=>bx (λe=>j1) λ_=>?_⟩;refine aj (λe=>⟨by rw[iW,g0 e],i4⟩) λe=>aj (λe2=>⟨by rw[iW,g9 e,g0 e2],i4⟩) λe2=>⟨by rw[iW,g9 e,g9 e2],i4⟩
theorem rU(a b:bI)(h:f9):ac xB 169 #[recv a,recv b] h λv h'=>v=xq xx (mD a b)/\Sp h h' []:=by
 refine PC a b ?_;unfold Ij;refine(Sp.refl h).boxed λo K F=>F.boxed λu k g=>?_;have g:Sp h k [au o 164 (bT a),au u 164 (bT b)]:=g;have p:=g.box 0 i4;have r:=g.box 1 i4;have B:f8 k (o.add 1)=dB (xq xx a.2.1):=p.cell i4;have z:f8 k (u.add 1)=dB (xq xx b.2.1):=r.cell i4;have c3:f8 k (o.add 2)=dB (xq xx a.2.2.1):=p.cell i4;have s:f8 k (u.add 2)=dB (xq xx b.2.2.1):=r.cell i4;refine⟨a.1,p.cell0 i4,b.1,r.cell0 i4,a.2.1,B,b.2.1,z,a.2.2.1,c3,b.2.2.1,s,(uN _ _ k).mono ?_⟩;rintro _ _ ⟨rfl,rfl⟩;refine⟨_,i4,⟨s,c3,z,B,trivial⟩,(uN _ _ _).mono ?_⟩;rintro _ _ ⟨rfl,rfl⟩;refine⟨_,i4,⟨s,c3,trivial⟩,(uN _ _ _).mono ?_⟩;rintro _ M ⟨rfl,rfl⟩;refine⟨_,i4,trivial,?_⟩;refine g.px af av ⟨_,_,i4,i4,i4,i4,i4,i4⟩ i4 [iW a.1 b.1,iW a.2.1 b.2.1,iW a.2.2.1 b.2.2.1] i4 (show 3*1<=2^20 by decide) i4 trivial ?_;refine g.lit af av ⟨_,_,i4,i4,i4,i4,i4,i4⟩ i4 [iW a.1 b.1,iW a.2.1 b.2.1,iW a.2.2.1 b.2.2.1] i4 (show 3*1<=2^20 by decide) i4 λc y t=>?_;refine(DQ c (R:=λv h'=>v=xq xx (mD a b)/\h'=y) ?_).mono ?_
 ·unfold AT;have A:=t.seq 2 i4 λ_=>rfl;have H:=(t.own 2 i4).len;obtain⟨L,f⟩:∃L,L=[iW a.1 b.1,iW a.2.1 b.2.1,iW a.2.2.1 b.2.2.1]:=⟨_,rfl⟩
  rw[<-f]at A H;have G:i1 L=3:=by rw[f];rfl
  refine aA (λi:Nat=>(i:Int)) (λi h'=>i<=3/\(∀j,j<i->L[j]?=dB 0)/\h'=y) (λi=>3-i) 0 i4 ⟨i5,i5,i4⟩ ?_;rintro i D ⟨J,n,rfl⟩;have d:0<i->iW a.1 b.1=0:=λh0=>by have:=n 0 h0;rw[f]at this;simpa using this
  have l:1<i->iW a.2.1 b.2.1=0:=λh0=>by have:=n 1 h0;rw[f]at this;simpa using this
  have w:2<i->iW a.2.2.1 b.2.2.1=0:=λh0=>by have:=n 2 h0;rw[f]at this;simpa using this
  refine aj (λe=>?_) (λe=>?_)
  ·have m:i<i1 L:=by have E:(i:Int)<(c.len:Int):=e;omega
   refine A.bG i i4 m L[i] i4 ?_;refine bY (λe2=>⟨?_,i4⟩) (λe2=>?_)
   ·congr 1;unfold mD;have:i=0∨i=1∨i=2:=i5
    subst f;rcases this with rfl|rfl|rfl
    ·exact(g0 (show iW a.1 b.1≠0 from e2)).symm
    ·rw[g9 (by rw[d i5];simp)];exact(g0 (show iW a.2.1 b.2.1≠0 from e2)).symm
    ·rw[g9 (by rw[d i5];simp),g9 (by rw[l i5];simp)];rfl
   ·refine⟨i+1,j0,⟨i5,λj I=>?_,i4⟩,i5⟩;by_cases x:j=i
    ·subst x;rw[qd m,e2]
    ·exact n j i5
  ·have q:i=3:=by have E:¬(i:Int)<(c.len:Int):=e;omega
   subst q;refine⟨?_,i4⟩;unfold mD;rw[d i5,l i5,w i5];rfl
 ·rintro _ D ⟨rfl,rfl⟩;exact⟨_,i4,trivial,i4,.zip t.ai⟩
abbrev cP(s:Sl)(d:List bI):HP:=an 164 s 8 bT d
section
variable {B:aC} {h0 h h':f9} {As:List HP} {s:Sl} {d:List bI}
theorem tj(X U M V Y:List bI)(n:Nat)(a b:Int)(P:i1 U=n)(R:i1 V=n)(O:a=(i1 X:Int))(L:b=(i1 X+n+i1 M:Nat))(N:i1 X+n+i1 M+n+i1 Y<=2^40)(H:aa B h0 h (cP s (X++(U++(M++(V++Y))))::As)):
  ac xB 352 #[s,xq xx a,xq xx b,xq xx n,.func (.func 169) #[] #[]] h λv h'=>v=.tuple #[]/\aa B h0 h' (cP s (X++(V++(M++(U++Y))))::As):=by
 refine na s a b n (169,#[],#[]) ?_;unfold jk;subst O;subst L;refine aA (λk:Nat=>(k:Int)) (λk h'=>k<=n/\aa B h0 h' (cP s (X++(V.take k++U.drop k++(M++(U.take k++V.drop k++Y))))::As)) (λk=>n-k) 0 i4 ⟨i5,l7⟩ ?_;rintro k Q ⟨T,f⟩;refine aj (λe=>?_) (λe=>?_)
 ·have F:k<n:=i5
  have o:k<i1 U:=i5
  have q:k<i1 V:=i5
  have d:X++(V.take k++U.drop k++(M++(U.take k++V.drop k++Y)))=(X++V.take k)++U[k]::((U.drop (k+1)++(M++U.take k))++V[k]::(V.drop (k+1)++Y)):=by rw[qP o,qP q];simp only[qp,zx,wy]
  have c:X++(V.take (k+1)++U.drop (k+1)++(M++(U.take (k+1)++V.drop (k+1)++Y)))=(X++V.take k)++V[k]::((U.drop (k+1)++(M++U.take k))++U[k]::(V.drop (k+1)++Y)):=by rw[aK V k q,aK U k o];simp only[qp,zx,wy]
  rw[d]at f;obtain⟨y,x,z,E⟩:=Uy (X++V.take k) (U.drop (k+1)++(M++U.take k)) (V.drop (k+1)++Y) U[k] V[k] (i:=i1 X+k) (j:=i1 X+n+i1 M+k) i9 i9;obtain⟨D,A⟩:∃D,D=(X++V.take k)++U[k]::((U.drop (k+1)++(M++U.take k))++V[k]::(V.drop (k+1)++Y)):=⟨_,rfl⟩
  rw[<-A]at f y x z E;have r:=(qn.1 y)
  have w:=(qn.1 x)
  obtain⟨m,t⟩:=r;obtain⟨p,u⟩:=w;have G:qc xx ((i1 X:Int)+k)=((i1 X+k:Nat):Int):=j4
  have J:qc xx (((i1 X+n+i1 M:Nat):Int)+k)=((i1 X+n+i1 M+k:Nat):Int):=j4
  rw[G,J];refine(f.seq 0 i4 λ_=>rfl).eC (g:=bT) _ i4 p V[k] (by rw[u]) ?_;refine(f.seq 0 i4 λ_=>rfl).eC (g:=bT) _ i4 m U[k] (by rw[t]) ?_;refine f.set af 0 i4 (λ_=>rfl) i4 (i1 X+k) i4 m V[k] i4 i4 i4 λS K=>⟨trivial,?_⟩
  refine K.set af 0 i4 (λ_=>rfl) i4 (i1 X+n+i1 M+k) i4 pa U[k] i4 i4 i4 λh3 I=>⟨trivial,?_⟩
  refine⟨k+1,j0,⟨i5,?_⟩,i5⟩;rw[c,<-z];exact I
 ·have:k=n:=i5
  subst this;rw[qi (l:=V) i5,zf (l:=U) i5,qi (l:=U) i5,zf (l:=V) i5]at f;refine⟨i4,?_⟩;simpa using f
theorem WK(X U V Y:List bI)(a m b:Int)(y:0<i1 U)(F:0<i1 V)(K:a=(i1 X:Int))(w:m=(i1 X+i1 U:Nat))(I:b=(i1 X+i1 U+i1 V:Nat))(J:i1 X+i1 U+i1 V+i1 Y<=2^40)(H:aa B h0 h (cP s (X++(U++(V++Y)))::As)):
  ac xB 337 #[s,xq xx a,xq xx m,xq xx b,.func (.func 169) #[] #[]] h λv h'=>v=.tuple #[]/\aa B h0 h' (cP s (X++(V++(U++Y)))::As):=by
 refine nY s a m b (169,#[],#[]) ?_;unfold jY;subst K;subst w;subst I;have L:qc xx (((i1 X+i1 U:Nat):Int)-i1 X)=(i1 U:Int):=j4
 have e2:qc xx (((i1 X+i1 U+i1 V:Nat):Int)-(i1 X+i1 U:Nat))=(i1 V:Int):=j4
 rw[L,e2];refine aA (λt:List bI×List bI×List bI×List bI=>((i1 t.2.1:Int),(i1 t.2.2.1:Int))) (λt h'=>0<i1 t.2.1/\0<i1 t.2.2.1/\X.length+i1 t.1+i1 t.2.1=i1 X+i1 U/\V++U=t.1++((t.2.2.1++t.2.1)++t.2.2.2)/\aa B h0 h' (cP s (X++(t.1++(t.2.1++(t.2.2.1++(t.2.2.2++Y)))))::As)) (λt=>i1 t.2.1+i1 t.2.2.1) ([],U,V,[]) i4 ⟨y,F,jj,jj,l7⟩ ?_;rintro⟨P,A,c,Q⟩ q ⟨O,N,w,o,r⟩;dsimp only at*;have n:=congrArg vX o;simp only[qx]at n;refine bY (λe=>aj (λG=>?_) λG=>?_) (λe=>?_)
 ·--the left one is longer
  have u:i1 c<i1 A:=i5
  have z:A=A.take c.length++A.drop c.length:=(qE _ _).symm;have g:i1 (A.take c.length)=i1 c:=i9
  have k:qc xx (((i1 X+i1 U:Nat):Int)-i1 A)=(i1 (X++P):Int):=by rw[ak _];simp;omega
  rw[k];have d:aa B h0 q (cP s ((X++P)++(A.take c.length++(A.drop c.length++(c++(Q++Y)))))::As):=by
   have:(X++P)++(A.take c.length++(A.drop c.length++(c++(Q++Y))))=X++(P++(A++(c++(Q++Y)))):=by
    conv=>rhs;rw[z]
    simp only[qp,zx,wy]
   rw[this];exact r
  refine(tj (X++P) (A.take c.length) (A.drop c.length) c (Q++Y) c.length _ _ g i4 i4 i9 i9 d).mono ?_;rintro _ x ⟨rfl,l⟩;refine⟨(),i4,(P++c,A.drop c.length,A.take c.length,Q),?_,⟨lz,i7,lz,?_,?_⟩,lz⟩
  ·dsimp only;rw[g,ak _];simp;omega
  ·dsimp only;rw[o,qE];simp
  ·dsimp only;have:X++((P++c)++(A.drop c.length++(A.take c.length++(Q++Y))))=(X++P)++(c++(A.drop c.length++(A.take c.length++(Q++Y)))):=jj
   rw[this];exact l
 ·have u:i1 A<i1 c:=i5
  obtain⟨j,M⟩:∃j,j=i1 c-i1 A:=⟨_,rfl⟩
  have D:c=c.take j++c.drop j:=(qE _ _).symm;have i:i1 (c.drop j)=i1 A:=i9
  have f:i1 (c.take j)=j:=i9
  have k:qc xx (((i1 X+i1 U:Nat):Int)-i1 A)=(i1 (X++P):Int):=by rw[ak _];simp;omega
  have E:qc xx ((qc xx (((i1 X+i1 U:Nat):Int)+i1 c))-i1 A)=((i1 (X++P)+i1 A+i1 (c.take j):Nat):Int):=by rw[ak (((i1 X+i1 U:Nat):Int)+i1 c),ak _,f];simp;omega
  rw[k,E];have d:aa B h0 q (cP s ((X++P)++(A++(c.take j++(c.drop j++(Q++Y)))))::As):=by
   have:(X++P)++(A++(c.take j++(c.drop j++(Q++Y))))=X++(P++(A++(c++(Q++Y)))):=by
    conv=>rhs;rw[D]
    simp only[qp,zx,wy]
   rw[this];exact r
  refine(tj (X++P) A (c.take j) (c.drop j) (Q++Y) A.length _ _ i4 i i4 i4 i9 d).mono ?_;rintro _ x ⟨rfl,l⟩;refine⟨(),i4,(P,c.drop j,c.take j,A++Q),?_,⟨i7,i7,i7,?_,?_⟩,i7⟩
  ·dsimp only;rw[f,i,ak _];congr 1;omega
  ·dsimp only;rw[o,qE];simp
  ·dsimp only;have:X++(P++(c.drop j++(c.take j++((A++Q)++Y))))=(X++P)++(c.drop j++(c.take j++(A++(Q++Y)))):=jj
   rw[this];exact l
 ·have p:i1 A=i1 c:=i5
  have k:qc xx (((i1 X+i1 U:Nat):Int)-i1 A)=(i1 (X++P):Int):=by rw[ak _];simp;omega
  rw[k];have d:aa B h0 q (cP s ((X++P)++(A++([]++(c++(Q++Y)))))::As):=by
   have:(X++P)++(A++([]++(c++(Q++Y))))=X++(P++(A++(c++(Q++Y)))):=jj
   rw[this];exact r
  refine(tj (X++P) A [] c (Q++Y) A.length _ _ i4 p.symm i4 i9 i9 d).mono ?_;rintro _ x ⟨rfl,l⟩;refine⟨(),i4,i4,?_⟩;have:X++(V++(U++Y))=(X++P)++(c++([]++(A++(Q++Y)))):=by
   have:V++(U++Y)=(V++U)++Y:=jj
   rw[this,o];simp
  rw[this];exact l
end
end Go.Qw
namespace Wl
open Go
theorem Zy(l:bf)(x:UInt8):dw (l++[x])=dw l*256+x.toNat:=by unfold dw;rw[List.foldl_append];rfl
theorem Uz:∀l:bf,i1 l<=4->0<=dw l/\dw l<4294967296/\(i1 l<=3->dw l<16777216)
 |[],_=>by simp[dw]
 |[a],_=>by have:=a.toNat_lt;simp only[dw,zA,wx];omega
 |[a,b],_=>by have:=a.toNat_lt;have:=b.toNat_lt;simp only[dw,zA,wx];omega
 |[a,b,c],_=>by have:=a.toNat_lt;have:=b.toNat_lt;have:=c.toNat_lt;simp only[dw,zA,wx];omega
 |[a,b,c,d],_=>by have:=a.toNat_lt;have:=b.toNat_lt;have:=c.toNat_lt;have:=d.toNat_lt;simp only[dw,zA,wx,zn,yX];omega
 |_::_::_::_::_::_,h=>m9
theorem ajk(n x:Nat)(f:n<2^32)(e:x<256):qc xx (((qD (qk xx) (qc xx ((n:Int)*2^min (8:Int).toNat (qk xx)))|||qD (qk xx) (qc xx (x:Int))).toNat:Nat):Int)=(n:Int)*256+x:=by
 have c:min (8:Int).toNat (qk xx)=8:=rfl;rw[c];have d:qc xx ((n:Int)*2^8)=((n*256:Nat):Int):=by rw[Go.Vc.ak _];omega
 have e2:qc xx (x:Int)=((x:Nat):Int):=Go.Vc.ak _;rw[d,e2];have a:(qD (qk xx) ((n*256:Nat):Int)|||qD (qk xx) ((x:Nat):Int)).toNat=n*256+x:=by show((qD 64 ((n*256:Nat):Int)|||qD 64 ((x:Nat):Int):BitVec 64)).toNat=n*256+x;rw[BitVec.toNat_or,w8,w8,wK,wK,wg i5,wg i5];have:=Nat.shiftLeft_add_eq_or_of_lt (b:=x) (i:=8) i5 n;rw[Nat.shiftLeft_eq,show(2:Nat)^8=256 from rfl]at this;omega
 rw[a,Go.Vc.ak _];omega
end Wl
namespace Go.Vc
open Go Wl
def fv:jp bI dj:=⟨λh q a b=>(a.1=b.object/\a.2.1=b.block/\a.2.2.1=b.id/\(a.2.2.2.1,a.2.2.2.2.1,a.2.2.2.2.2.1)=b.p/\a.2.2.2.2.2.2.1=b.seed/\0<=b.seed/\b.seed<4294967296)/\Seq h q a.2.2.2.2.2.2.2 1 aF b.data,λa d=>⟨a.1,a.2.ai d⟩,λa c=>⟨a.1,a.2.mono c⟩⟩
end Go.Vc
namespace Go.Qw
open Go Go.Vc Go.Proofs Wl
theorem rV{p q:aC}(a b:Sl)(c d:bf)(h:f9)(f:Seq h p a 1 aF c)(e:Seq h q b 1 aF d):
  ac xB 64 #[a,b] h λv h'=>v=xv (decide (c=d))/\h'=h:=by
 refine MY a b ?_;unfold Ge;refine XW af ⟨_,i4,i4⟩ ⟨_,i4,i4⟩ ⟨_,i4,i4⟩ f (XW af ⟨_,i4,i4⟩ ⟨_,i4,i4⟩ ⟨_,i4,i4⟩ e ⟨?_,i4⟩);rw[ByteArray.toList_mk,ByteArray.toList_mk];have:(c==d)=decide (c=d):=by rw[Bool.eq_iff_iff];simp
 rw[this]
theorem Fo(b:Sl)(c:bf)(h:f9)(i:Rd h b 1 aF c)(y:i1 c<=2^30)(f:b.len<=b.cap):
  ac xB 42 #[b] h λv h'=>(fx c=eH->v=.tuple #[xq xx 0,xr eH 0 0,xv eS]/\Sp h h' [])/\
   ∀k x,fx c=dB (k,x)->∃r:Sl,v=.tuple #[xq xx k,r,xv eR]/\Sp h h' [an 5 r 1 aF x]:=by
 refine RT b ?_;unfold Ku;have A:=i.len;refine bY (λe=>?_) (λe=>?_)
 ·have:fx c=eH:=by unfold fx;rw[g9 λa=>e i5]
  rw[this];exact⟨λ_=>⟨i4,Sp.refl h⟩,λk x h=>j9⟩
 have j:i1 c=64:=i5
 have h3:3<i1 c:=i5
 refine i.SF 3 i4 h3 ((c.getD 3 0).toNat:Int) (by rw[getD_lt h3];rfl) λw l=>⟨⟨i6,i6,i5⟩,?_⟩
 have d:=(i.drop 4 f).take 55 i9;have q:i1 ((c.drop 4).take 55)=55:=i9
 refine(eW ⟨_,55,b.cap-4⟩ ((c.drop 4).take 55) h d i5).mono ?_;rintro _ s ⟨r,rfl,m⟩;refine⟨r,i4,kP m.ai ⟨l,trivial⟩,?_⟩;have z:=(c.getD 3 0).toNat_lt;rw[ak ((c.getD 3 0).toNat:Int)];refine(IH ((c.getD 3 0).toNat:Int) r ((c.drop 4).take 55) s (m.seq 0 i4 λ_=>rfl)).mono ?_;rintro _ u ⟨p,rfl,t⟩;have g:=m.comp t;refine⟨p,i4,(rV b p c _ u (i.up g.ai) (g.seq 1 i4 λ_=>rfl)).mono ?_⟩;rintro _ h3 ⟨rfl,rfl⟩;refine⟨_,i4,bo (λe2=>?_) λe2=>?_⟩
 ·have n:c≠dW ((c.getD 3 0).toNat:Int) ((c.drop 4).take 55):=of_decide_eq_false e2;have:fx c=eH:=by unfold fx;rw[g9 λa=>n a.2.symm]
  rw[this];exact⟨λ_=>⟨i4,.zip g.ai⟩,λk x h=>j9⟩
 ·have o:c=dW ((c.getD 3 0).toNat:Int) ((c.drop 4).take 55):=i0 e2;have:fx c=dB (((c.getD 3 0).toNat:Int),(c.drop 4).take 55):=by unfold fx;rw[g0 ⟨j,o.symm⟩]
  rw[this];refine⟨λh=>j9,λk x a=>?_⟩;injection a with a
  injection a with hh1 hh2
  subst hh1;subst hh2;exact⟨r,i4,g.cK [0]⟩
theorem Rb(b:Sl)(l:bf)(h:f9)(d:Rd h b 1 aF l)(p:i1 l<=4):ac xB 237 #[b] h λv h'=>v=xq xx (dw l)/\h'=h:=by
 refine ND b ?_;unfold Gz;have g:=d.len;refine aA (λi:Nat=>(dw (l.take i),(i:Int))) (λi h'=>i<=i1 l/\h'=h) (λi=>i1 l-i) 0 i4 ⟨i5,i4⟩ ?_;rintro i m ⟨k,rfl⟩;dsimp only;refine aj (λe=>?_) (λe=>?_)
 ·have a:i<i1 l:=i5
  refine d.bG i i4 a (l[i].toNat:Int) i4 ⟨i6,?_⟩;have c:=(Uz (l.take i) i9)
  have f:=c.2.2 i9;have o:=l[i].toNat_lt;obtain⟨n,j⟩:∃n:Nat,dw (l.take i)=(n:Int):=⟨(dw (l.take i)).toNat,i5⟩
  refine⟨i+1,?_,⟨i5,i4⟩,i5⟩;rw[aK _ _ a,Zy,j,ajk n _ i5 i5,ak ((i:Int)+1)];rfl
 ·rw[qi i5];exact⟨i4,i4⟩
theorem KM(x:bI)(r:dj)(h:f9)(F:dV fv h x r):ac xB 196 #[recv x] h λv h'=>v=xv (jz r)/\Sp h h' []:=by
 refine PG x ?_;unfold Ir;obtain⟨⟨I,e2,G,n,J,_⟩,z⟩:=F;have o:x.2.2.2.1=r.p.1:=congrArg (·.1) n;have q:x.2.2.2.2.1=r.p.2.1:=congrArg (·.2.1) n;have c:x.2.2.2.2.2.1=r.p.2.2:=congrArg (·.2.2) n;have f:=Seq.len z;refine(Sp.refl h).boxed λa e i=>?_;have i:Sp h e [au a 164 (bT x)]:=i;have l:=i.box 0 i4;have t:f8 e a=dB (xq xx r.object):=by rw[<-I];exact l.cell0 i4
 have y:f8 e (a.add 1)=dB (xq xx r.block):=by rw[<-e2];exact l.cell i4
 have w:f8 e (a.add 2)=dB (xq xx r.id):=by rw[<-G];exact l.cell i4
 have u:∀{h':f9},Sp h h' [au a 164 (bT x)]->(jz r=eR->False)->Value.bool eS=xv (jz r)/\Sp h h' []:=λ{h'} H' hn=>⟨by cases hq:jz r with|false=>rfl|true=>exact absurd hq hn,.zip H'.ai⟩
 refine bP (λb h'=>b=decide ((0<=r.object/\r.object<=16777215)/\(0<=r.block/\r.block<=7)/\(0<=r.id/\r.id<=65535))/\h'=e) ?_ ?_
 ·refine⟨_,t,aj (λA=>⟨_,t,aj (λd=>⟨_,y,aj (λB=>⟨_,y,aj (λD=>⟨_,w,aj (λE=>⟨_,w,?_,i4⟩) λE=>⟨?_,i4⟩⟩) λD=>⟨?_,i4⟩⟩) λB=>⟨?_,i4⟩⟩) λd=>⟨?_,i4⟩⟩) λA=>⟨?_,i4⟩⟩
  ·rw[decide_eq_decide];omega
  all_goals (symm;rw[decide_eq_false_iff_not];omega)
 ·rintro _ _ ⟨rfl,rfl⟩;refine aj (λg=>?_) λg=>u i λm=>g (by have:=(lr r).1 m;omega);refine⟨r.p,by rw[<-o,<-q,<-c];exact l.JS 3 i4 i4 i4,(eK r.p _).mono ?_⟩;rintro _ h3 ⟨rfl,H⟩;have s:Sp h h3 [au a 164 (bT x)]:=i.up H.ai;have j:=s.box 0 i4;refine⟨_,i4,bx (λd=>?_) λd=>u s λm=>by have:=((lr r).1 m).2.2.2.1;rw[d]at this;cases this⟩;refine⟨x.2.2.2.2.2.2.2,j.cell i4,r.p.2.2,by rw[<-c];exact j.Cl 3 2 i4,?_,.zip s.ai⟩;congr 1;by_cases k:(r.data.length:Int)=r.p.2.2
  ·have:jz r=eR:=(lr r).2 ⟨i5,i5,i5,d,k⟩;rw[this,f];simpa using k
  ·have:jz r=eS:=by
    cases hq:jz r with
    |false=>rfl
    |true=>exact absurd ((lr r).1 hq).2.2.2.2 k
   rw[this,f];simpa using k
section
variable {B:aC} {h0 h h':f9} {As:List HP}
theorem oc(s:Sl)(l:bf)(n:Int)(k:Nat)(p:k<=4)(q:i1 l<=2^30)(H:aa B h0 h (an 5 s 1 aF l::As)):
  ac xB 197 #[s,xq xx n,xq xx k] h λv h'=>∃r:Sl,v=r/\aa B h0 h' (an 5 r 1 aF (l++cg n k)::As):=by
 refine Kf s n k ?_;unfold Ch;rw[ak ((k:Int)-1)];refine aA (λt:Sl×Nat=>(t.1,(k:Int)-1-t.2)) (λt h'=>t.2<=k/\aa B h0 h' (an 5 t.1 1 aF (l++(cg n k).take t.2)::As)) (λt=>k-t.2) (s,0) jj ⟨jj,l7⟩ ?_;rintro⟨r,t⟩ j ⟨m,b⟩;dsimp only at*;refine aj (λe=>?_) (λe=>?_)
 ·have a:t<k:=i5
  have i:qc xx ((8:Int)*((k:Int)-1-t))=((8*(k-1-t):Nat):Int):=by rw[ak _];omega
  rw[i,ql];have e2:min (8*(k-1-t)) (qk xx)=8*(k-1-t):=by have:qk xx=64:=rfl;omega
  rw[e2,ee];refine⟨i5,?_⟩;refine b.push af 0 i4 hO i4 i6 (λ_=>rfl) iP (b8 (qX n (2^(8*(k-1-t))))) i4 i6 mn λg o c=>?_;refine⟨(g,t+1),?_,⟨i7,?_⟩,i7⟩
  ·dsimp only;have f:qc xx ((k:Int)-1-t-1)=(k:Int)-1-((t+1:Nat):Int):=by rw[ak _];omega
   rw[f]
  ·dsimp only;have d:(cg n k).take t++[b8 (qX n (2^(8*(k-1-t))))]=(cg n k).take (t+1):=by rw[aK _ _ (by rw[cF];exact a)];congr 2;simp[cg]
   rw[<-d,<-qp];exact c
 ·have:t=k:=i5
  subst this;rw[qi (by rw[cF];omega)]at b;exact⟨r,i4,b⟩
end
theorem tZ(x:bI)(r:dj)(h:f9)(A:dV fv h x r):ac xB 132 #[recv x] h λv h'=>∃s:Sl,v=s/\Sp h h' [an 5 s 1 aF (dE r)]:=by
 refine Py x ?_;unfold Ie;obtain⟨⟨W,e2,S,n,Y,e7,e8⟩,L⟩:=id A;have q:x.2.2.2.1=r.p.1:=congrArg (·.1) n;have t:x.2.2.2.2.1=r.p.2.1:=congrArg (·.2.1) n;have i:x.2.2.2.2.2.1=r.p.2.2:=congrArg (·.2.2) n;refine(Sp.refl h).boxed λd B b=>?_;have b:Sp h B [au d 164 (bT x)]:=b;refine⟨x,(b.box 0 i4).aV _ i4,(KM x r B (fv.mono (fv.loc A b.ai) λ_ T=>qR T b.ai.1)).mono ?_⟩;rintro _ R ⟨rfl,P⟩;have o:Sp h R [au d 164 (bT x)]:=b.up P.ai;refine⟨_,i4,bo (λg=>?_) λg=>?_⟩
 ·unfold dE;rw[g];exact⟨⟨eH,0,0⟩,i4,(o.nil 5 1 aF).cK [1]⟩
 have U:=pA g;have j:=o.box 0 i4;refine⟨r.object,by rw[<-W];exact j.cell0 i4,(oc ⟨eH,0,0⟩ [] r.object 3 i6 jj (o.nil 5 1 aF).bB).mono ?_⟩;rintro _ h3 ⟨D,rfl,K⟩;have w:=K.box 1 i4;refine⟨D,i4,r.block,by rw[<-e2];exact w.cell i4,(oc D _ r.block 1 i6 pb K).mono ?_⟩;rintro _ h4 ⟨H,rfl,F⟩;have l:=F.box 1 i4;refine⟨H,i4,r.id,by rw[<-S];exact l.cell i4,(oc H _ r.id 2 i6 pb F).mono ?_⟩;rintro _ h5 ⟨O,rfl,G⟩;have a:=G.box 1 i4;refine⟨O,i4,r.p.1,by rw[<-q];exact a.cell i4,r.p.2.1,by rw[<-t];exact a.Cl 3 1 i4,r.p.2.2,by rw[<-i];exact a.Cl 3 2 i4,?_⟩;dsimp only;rw[ee,ee,ee];refine G.lit af aF hO i4 [b8 r.p.1,b8 r.p.2.1,b8 r.p.2.2] i4 (show 3*1<=2^20 by decide) i4 λQ Z z=>?_;refine z.append af 0 i4 hO ⟨_,_,i4,i4⟩ i4 i6 (λ_=>rfl) (z.seq 2 i4 λ_=>rfl) iP pb λE M e=>?_;have e:Sp h M [an 5 E 1 aF ([]++cg r.object 3++cg r.block 1++cg r.id 2++[b8 r.p.1,b8 r.p.2.1,b8 r.p.2.2]),au d 164 (bT x)]:=e.cK [0,1];have y:=e.box 1 i4;refine⟨r.seed,by rw[<-Y];exact y.cell i4,?_⟩;dsimp only;rw[ak r.seed];refine(oc E _ r.seed 4 i6 pb e).mono ?_;rintro _ h8 ⟨N,rfl,u⟩;have m:=u.box 1 i4;refine⟨N,i4,x.2.2.2.2.2.2.2,m.cell i4,?_⟩;refine u.append af 0 i4 hO ⟨_,_,i4,i4⟩ i4 i6 (λ_=>rfl) (Seq.up L u.ai) iP mn λI J f=>?_;have V:[]++cg r.object 3++cg r.block 1++cg r.id 2++[b8 r.p.1,b8 r.p.2.1,b8 r.p.2.2]++cg r.seed 4++r.data=jr r:=by unfold jr;simp[qp]
 have f:Sp h J [an 5 I 1 aF (jr r),au d 164 (bT x)]:=by rw[<-V];exact f
 refine(IH 1 I (jr r) J (f.seq 0 i4 λ_=>rfl)).mono ?_;rintro _ X ⟨c,rfl,k⟩;refine⟨c,i4,c,i4,?_⟩;unfold dE;rw[g,g0 rfl];exact(f.comp k).cK [2]
theorem UA(b:Sl)(c:bf)(h:f9)(hb:Rd h b 1 aF c)(hc:c.length<=2^30)(W:b.len<=b.cap):
  ac xB 166 #[b] h λv h'=>∃x:bI,v=.tuple #[recv x,xv (ey c).isSome]/\(ey c=eH->Sp h h' [])/\∀r,ey c=dB r->Sp h h' [EA fv x r]:=by
 refine Nt b ?_;unfold Gs;refine(Sp.refl h).alloc af i4 λd h1 S=>?_;have S:Sp h h1 [au d 164 (bT (0,0,0,0,0,0,0,⟨eH,0,0⟩))]:=S;have D:∀{h':f9} {Bs:List HP},Sp h h' (au d 164 (bT (0,0,0,0,0,0,0,⟨eH,0,0⟩))::Bs)->ey c=eH->
   ag xB (qf 164 (xt (dB d)) (recv (0,0,0,0,0,0,0,⟨eH,0,0⟩))) h' λ_ F=>∃Y:bI,aq F d 0 (bT Y)/\∃x:bI,Value.tuple #[recv Y,xv eS]=.tuple #[recv x,xv (ey c).isSome]/\(ey c=eH->Sp h F [])/\∀r,ey c=dB r->Sp h F [EA fv x r]:=λ{h' Bs} H' H=>by
  refine H'.storeAll af 0 i4 i4 (bT (0,0,0,0,0,0,0,⟨eH,0,0⟩)) i4 i4 i4 i4 λF H4=>?_;exact⟨(0,0,0,0,0,0,0,⟨eH,0,0⟩),(H4.box 0 i4).aV _ i4,(0,0,0,0,0,0,0,⟨eH,0,0⟩),by rw[H];rfl,λ_=>.zip H4.ai,λr O=>by rw[H]at O;cases O⟩
 refine(Fo b c h1 (hb.up S.ai) hc W).mono ?_;rintro _ h2 ⟨Q0,Q1⟩;cases htc:fx c with
 |none=>
  obtain⟨rfl,R2⟩:=Q0 htc;have H:ey c=eH:=by unfold ey;rw[htc]
  exact⟨(0,⟨eH,0,0⟩,eS),i4,bi (bo (λ_=>D (S.up R2.ai) H) λe=>j1)⟩
 |some kx=>
  obtain⟨k,x⟩:=kx;obtain⟨r,rfl,R2⟩:=Q1 k x htc;have s:Sp h h2 [au d 164 (bT (0,0,0,0,0,0,0,⟨eH,0,0⟩)),an 5 r 1 aF x]:=S.comp R2;have a2:x.length=55:=by
   unfold fx at htc;split at htc
   ·rename_i m;injection htc with htc
    injection htc with _ htc
    rw[<-htc];simp;omega
   ·cases htc
  have a7:=(s.own 1 i4).len;have Q:=(s.own 1 i4).cap;refine⟨(k,r,eR),i4,bi (bo (λe=>j1) λ_=>bY (λe=>D s ?_) λM=>?_)⟩
  ·unfold ey;rw[htc];exact g9 λm=>e m.1
  dsimp only;have M:k=1:=M;obtain⟨R,t⟩:∃R,R=xF x:=⟨_,rfl⟩
  have I:ey c=if bO R.p=eR/\dE R=c then dB R else eH:=by
   unfold ey;rw[htc];dsimp only;rw[<-t];by_cases m:bO R.p=eR/\dE R=c
   ·rw[g0 m];exact g0 ⟨M,m⟩
   ·rw[g9 m];exact g9 λh=>m h.2
  have tA:∀{h':f9},Rd h' r 1 aF x->ac xB 237 #[xr r.ptr 3 r.cap] h' λv L=>v=xq xx R.object/\L=h':=λ{h'} O=>by
   rw[t];exact Rb ⟨r.ptr,3,r.cap⟩ (x.take 3) h' (O.take 3 i5) i9
  have N:∀{h':f9} (j n:Nat),j+n<=55->n<=4->Rd h' r 1 aF x->ac xB 237 #[.slice (if r.cap=j then r.ptr else r.ptr.map (·.add (j*1))) n (r.cap-j)] h' λv L=>v=xq xx (dw ((x.drop j).take n))/\L=h':=λ{h'} j n hjn H O=>
   Rb ⟨if r.cap=j then r.ptr else r.ptr.map (·.add (j*1)),n,r.cap-j⟩ ((x.drop j).take n) h' ((O.drop j Q).take n l5) i9
  have rd:∀{h':f9} {A:HP} {Bs:List HP},Sp h h' (A::an 5 r 1 aF x::Bs)->Rd h' r 1 aF x:=λ{h' A Bs} H'=>H'.seq 1 i4 λ_=>rfl;have Hj:∀{h':f9} {A A2:HP} {Bs:List HP},Sp h h' (A::A2::an 5 r 1 aF x::Bs)->Rd h' r 1 aF x:=λ{h' A A2 Bs} H'=>H'.seq 2 i4 λ_=>rfl;refine bP (λ(a:f7) h'=>Sp h h' [au a 164 (bT (R.object,R.block,R.id,0,0,0,0,⟨eH,0,0⟩)),au d 164 (bT (0,0,0,0,0,0,0,⟨eH,0,0⟩)),an 5 r 1 aF x]) ?_ ?_
  ·have eb:dw ((x.drop 3).take 1)=R.block:=p5
   have ei:dw ((x.drop 4).take 2)=R.id:=p5
   have fin:∀{h':f9} {a:f7},Sp h h' [au d 164 (bT (0,0,0,0,0,0,0,⟨eH,0,0⟩)),an 5 r 1 aF x,au a 164 (bT (0,0,0,0,0,0,0,⟨eH,0,0⟩))]->
     ag xB (qf 164 (xt (dB a)) (recv (R.object,R.block,R.id,0,0,0,0,⟨eH,0,0⟩))) h' λ_ F=>az.ok [] F/\Sp h F [au a 164 (bT (R.object,R.block,R.id,0,0,0,0,⟨eH,0,0⟩)),au d 164 (bT (0,0,0,0,0,0,0,⟨eH,0,0⟩)),an 5 r 1 aF x]:=λ{h' a} H'=>
    H'.storeAll af 2 i4 i4 (bT (R.object,R.block,R.id,0,0,0,0,⟨eH,0,0⟩)) i4 i4 i4 i4 λF H4=>⟨trivial,H4.cK [2,0,1]⟩
   have A_:∀{h':f9} {Bs:List HP} {K:Int->f9->Prop},Sp h h' (au d 164 (bT (0,0,0,0,0,0,0,⟨eH,0,0⟩))::an 5 r 1 aF x::Bs)->K R.object h'->ae xB 237 #[xr r.ptr 3 r.cap] (.one (.sc (.int .i64))) h' K:=λ{h' Bs K} H' hK=>by
    refine(tA (rd H')).mono ?_;rintro _ _ ⟨rfl,rfl⟩;exact⟨_,i4,hK⟩
   have B_:∀{h':f9} {Bs:List HP} {K:Int->f9->Prop},Sp h h' (au d 164 (bT (0,0,0,0,0,0,0,⟨eH,0,0⟩))::an 5 r 1 aF x::Bs)->K R.block h'->ae xB 237 #[.slice (if r.cap=3 then r.ptr else r.ptr.map (·.add (3*1))) 1 (r.cap-3)] (.one (.sc (.int .i64))) h' K:=λ{h' Bs K} H' hK=>by
    refine(N 3 1 i6 i6 (rd H')).mono ?_;rintro _ _ ⟨rfl,rfl⟩;exact⟨_,i4,by rw[eb];exact hK⟩
   have C_:∀{h':f9} {Bs:List HP} {K:Int->f9->Prop},Sp h h' (au d 164 (bT (0,0,0,0,0,0,0,⟨eH,0,0⟩))::an 5 r 1 aF x::Bs)->K R.id h'->ae xB 237 #[.slice (if r.cap=4 then r.ptr else r.ptr.map (·.add (4*1))) 2 (r.cap-4)] (.one (.sc (.int .i64))) h' K:=λ{h' Bs K} H' hK=>by
    refine(N 4 2 i6 i6 (rd H')).mono ?_;rintro _ _ ⟨rfl,rfl⟩;exact⟨_,i4,by rw[ei];exact hK⟩
   refine⟨⟨i6,i5⟩,⟨i6,i6,i5⟩,⟨i6,i6,i5⟩,A_ s ⟨trivial,B_ s ⟨trivial,C_ s ⟨trivial,?_⟩,?_⟩,?_⟩,?_⟩
   ·refine s.alloc af i4 λa9 h9 l=>⟨trivial,?_⟩
    exact fin l
   ·refine s.alloc af i4 λa9 h9 l=>⟨trivial,?_⟩
    exact C_ l ⟨trivial,fin l⟩
   ·refine s.alloc af i4 λa9 h9 l=>⟨trivial,?_⟩
    exact B_ l ⟨trivial,C_ l ⟨trivial,fin l⟩⟩
   ·refine s.alloc af i4 λa9 h9 l=>⟨trivial,?_⟩
    exact A_ l ⟨trivial,B_ l ⟨trivial,C_ l ⟨trivial,fin l⟩⟩⟩
  ·rintro a9 h5 H5;have J:0<=R.seed/\R.seed<4294967296:=by have:=Uz ((x.drop 9).take 4) i9;rw[t];exact⟨this.1,this.2.1⟩
   have e6:dw ((x.drop 6).take 1)=R.p.1:=p5
   have e7:dw ((x.drop 7).take 1)=R.p.2.1:=p5
   have e8:dw ((x.drop 8).take 1)=R.p.2.2:=p5
   have e9:dw ((x.drop 9).take 4)=R.seed:=p5
   refine bi ⟨⟨i6,i6,i5⟩,⟨i6,i6,i5⟩,⟨i6,i6,i5⟩,(N 6 1 i6 i6 (Hj H5)).mono ?_⟩;rintro _ _ ⟨rfl,rfl⟩;refine⟨_,i4,trivial,(N 7 1 i6 i6 (Hj H5)).mono ?_⟩;rintro _ _ ⟨rfl,rfl⟩;refine⟨_,i4,trivial,(N 8 1 i6 i6 (Hj H5)).mono ?_⟩;rintro _ a5 ⟨rfl,rfl⟩;refine⟨_,i4,trivial,?_⟩;dsimp only;rw[e6,e7,e8];refine H5.store af 0 i4 i4 3 [xq xx R.p.1,xq xx R.p.2.1,xq xx R.p.2.2] i4 i4 i4 jj λap B=>⟨trivial,?_⟩
   have B:Sp h ap [au a9 164 (bT (R.object,R.block,R.id,R.p.1,R.p.2.1,R.p.2.2,0,⟨eH,0,0⟩)),au d 164 (bT (0,0,0,0,0,0,0,⟨eH,0,0⟩)),an 5 r 1 aF x]:=B;refine⟨⟨i6,i6,i5⟩,(N 9 4 i6 i6 (Hj B)).mono ?_⟩;rintro _ a6 ⟨rfl,rfl⟩;refine⟨_,i4,?_⟩;dsimp only;have ew:qc xz (dw ((x.drop 9).take 4))=R.seed:=by rw[e9];unfold qc;simp[qk,va];omega
   rw[ew];refine B.store af 0 i4 i4 6 [xq xz R.seed] i4 i4 i4 jj λZ y=>?_;have y:Sp h Z [au a9 164 (bT (R.object,R.block,R.id,R.p.1,R.p.2.1,R.p.2.2,R.seed,⟨eH,0,0⟩)),au d 164 (bT (0,0,0,0,0,0,0,⟨eH,0,0⟩)),an 5 r 1 aF x]:=y;refine⟨R.p,(y.box 0 i4).JS 3 i4 i4 i4,(eK R.p Z).mono ?_⟩;rintro _ P ⟨rfl,ar⟩;have w:Sp h P [au a9 164 (bT (R.object,R.block,R.id,R.p.1,R.p.2.1,R.p.2.2,R.seed,⟨eH,0,0⟩)),au d 164 (bT (0,0,0,0,0,0,0,⟨eH,0,0⟩)),an 5 r 1 aF x]:=y.up ar.ai;refine⟨_,i4,bo (λg=>D (w.aX 2 [1,0]) (by rw[I,g9 λm=>by rw[g]at m;cases m.1])) λg=>?_⟩;have bb:=(co R.p).1 g;refine⟨R.p.2.2,(w.box 0 i4).Cl 3 2 i4,?_⟩;dsimp only;rw[ak ((13:Int)+R.p.2.2)];refine⟨⟨i6,i5,i5⟩,?_⟩;have ay:((13:Int)+R.p.2.2).toNat-(13:Int).toNat=R.p.2.2.toNat:=i5
   rw[ay];have E:(x.drop 13).take R.p.2.2.toNat=R.data:=p5
   have G:=((Hj w).drop 13 Q).take R.p.2.2.toNat l5;rw[E]at G;have a8:R.data.length=R.p.2.2.toNat:=by rw[<-E];simp;omega
   refine(eW ⟨if r.cap=13 then r.ptr else r.ptr.map (·.add (13*1)),R.p.2.2.toNat,r.cap-13⟩ R.data P G i5).mono ?_;rintro _ a3 ⟨u,rfl,ax⟩;have ao:=w.comp ax;refine⟨u,i4,?_⟩;refine ao.store af 0 i4 i4 7 [u] i4 i4 i4 jj λU i=>?_;have i:Sp h U [au a9 164 (bT (R.object,R.block,R.id,R.p.1,R.p.2.1,R.p.2.2,R.seed,u)),au d 164 (bT (0,0,0,0,0,0,0,⟨eH,0,0⟩)),an 5 r 1 aF x,an 5 u 1 aF R.data]:=i;obtain⟨X,hX⟩:∃X:bI,X=(R.object,R.block,R.id,R.p.1,R.p.2.1,R.p.2.2,R.seed,u):=⟨_,rfl⟩
   rw[<-hX]at i;have T:∀{h':f9} {q:aC},Seq h' q u 1 aF R.data->fv.p h' q X R:=λ{h' q} hs=>by rw[hX];exact⟨⟨i4,i4,i4,i4,i4,J⟩,hs⟩
   refine⟨X,(i.box 0 i4).aV _ i4,(tZ X R U (T (i.seq 3 i4 λ_=>rfl))).mono ?_⟩;rintro _ ah ⟨s5,rfl,am⟩;have o:=i.comp am;refine⟨s5,i4,(rV b s5 c (dE R) ah (hb.up o.ai) (o.seq 4 i4 λ_=>rfl)).mono ?_⟩;rintro _ a4 ⟨rfl,rfl⟩;refine⟨_,i4,bo (λV=>D (o.aX 2 [1,0]) (by rw[I,g9 λm=>(of_decide_eq_false V) m.2.symm])) λV=>?_⟩;have V:c=dE R:=i0 V;refine⟨X,(o.box 0 i4).aV _ i4,?_⟩;refine o.storeAll af 1 i4 i4 (bT X) i4 i4 i4 i4 λad ab=>?_;have f:ey c=dB R:=by rw[I,g0 ⟨g,V.symm⟩]
   refine⟨X,(ab.box 1 i4).aV _ i4,X,by rw[f];rfl,λH=>(by rw[f]at H;cases H),λr' z=>?_⟩;rw[f]at z;injection z with z
   subst z;have a0:Sp h ad [an 5 u 1 aF R.data]:=ab.cK [3];exact a0.fZ 0 i4 λq hq=>T (hq.1.seq (λ_=>rfl) hq.2)
end Go.Qw
namespace Go.Vc
open Go Wl Go.Qw
section
variable {B:aC} {h0 h h':f9} {As L:List HP} {X Y Z:HP}
theorem aa.ake(H:aa B h0 h (X::Y::(L++As))):aa B h0 h (L++(X::Y::As)):=
 H.pick (λi=>if i<i1 L then i+2 else if i=i1 L then 0 else if i=i1 L+1 then 1 else i) (λa b c=>by(try dsimp only at c);split at c<;>split at c<;>(try split at c)<;>(try split at c)<;>(try split at c)<;>(try split at c)<;>omega) λi A d=>by
  try dsimp only
  by_cases g:i<i1 L
  ·rw[qo g]at d;rw[g0 g,qw,qw,qo g];exact d
  ·rw[qj i5]at d;rw[g9 g];by_cases e:i=i1 L
   ·subst e;rw[g0 rfl];rw[zc]at d;exact d
   ·rw[g9 e];by_cases f:i=i1 L+1
    ·subst f;rw[g0 rfl];rw[show L.length+1-i1 L=1 by omega]at d;exact d
    ·rw[g9 f];obtain⟨j,rfl⟩:∃j,i=i1 L+(j+2):=⟨i-i1 L-2,i5⟩
     rw[zr,qw,qw]at d;rw[show L.length+(j+2)=(i1 L+j)+1+1 by omega,qw,qw,qj i5,zr];exact d
theorem aa.Yk(n:Nat)(b:L[n]?=dB X)(H:aa B h0 h (Y::Z::(L++As))):aa B h0 h (X::Z::Y::(L.set n emp++As)):=by
 have a:=(qn.1 b).1;have c:=H.cons (n+2) (A:=X) (by rw[qw,qw,qo a];exact b);have e:(Y::Z::(L++As)).set (n+2) emp=Y::Z::(L.set n emp++As):=by rw[zu,zu,List.set_append_left _ _ a]
 rw[e]at c;exact c.aX 3 [0,2,1]
theorem aa.JT(n:Nat)(f:n<i1 L)(H:aa B h0 h (X::Z::Y::(L.set n emp++As))):aa B h0 h (Y::Z::(L.set n X++As)):=
 H.pick (λi=>if i=0 then 2 else if i=1 then 1 else if i=n+2 then 0 else i+1) (λa b c=>by(try dsimp only at c);split at c<;>split at c<;>(try split at c)<;>(try split at c)<;>(try split at c)<;>(try split at c)<;>omega) λi A d=>by
  try dsimp only
  match i,d with
  |0,d=>exact d
  |1,d=>exact d
  |i+2,d=>
   rw[g9 i5,g9 i5];rw[qw,qw]at d;by_cases e:i=n
   ·subst e;rw[qo rb,zm f]at d;rw[g0 rfl];exact d
   ·rw[g9 i5,qw,qw,qw];by_cases g:i<i1 L
    ·rw[qo l0,zC i5]at d;rw[qo l0,zC i5];exact d
    ·rw[qj i9,zh]at d;rw[qj i9,zh];exact d
end
structure Kit where
 tS:Nat
 tP:Nat
 tD:Nat
 f:f7->bs->Sl->Sl->bh
def ajl(k:Kit)(pw:f7)(a:aM)(d:Option bs):HP:=match a,d with
 |some a,dB d=>iJ k.tD (k.f pw) a d
 |_,_=>emp
abbrev cQ(a:bh)(pw:f7)(offs:Int)(b:List aM):bh:=a++(xt (dB pw)::xq xx offs::b.map .pointer)
structure gh (mc:bh) (da:List aM) (ds:aJ):Prop where
 l8:i1 mc=8
 la:i1 da=64
 ls:i1 ds=64
 same:∀i:Nat,(da.getD i eH).isSome=(ds.getD i eH).isSome
abbrev gc(k:Kit)(pw:f7)(a:List aM)(ds:aJ):List HP:=List.zipWith (ajl k pw) a ds
def bp(k:Kit)(a pw:f7)(c:bh)(offs:Int)(b:List aM)(w:Pow)(ds:aJ):HP:=
 (HP.all (au a k.tS (cQ c pw offs b)::dl k.tP pw w::gc k pw b ds)).and (gh c b ds)
section
variable {k:Kit} {B:aC} {h0 h h':f9} {As:List HP} {a pw:f7} {mc:bh} {offs:Int} {da:List aM} {w w':Pow} {ds:aJ} {d d':bs} {n:Nat}
theorem Fp(ok:gh mc da ds):i1 (gc k pw da ds)=64:=by simp[gc,ok.la,ok.ls]
theorem aa.pu(H:aa B h0 h (bp k a pw mc offs da w ds::As)):gh mc da ds/\aa B h0 h (au a k.tS (cQ mc pw offs da)::dl k.tP pw w::(gc k pw da ds++As)):=by obtain⟨H,ok⟩:=H.Lg;exact⟨ok,H.py⟩
theorem aa.pV(ok:gh mc da ds)(H:aa B h0 h (au a k.tS (cQ mc pw offs da)::dl k.tP pw w::(gc k pw da ds++As))):aa B h0 h (bp k a pw mc offs da w ds::As):=
 (aa.closeAll (au a k.tS (cQ mc pw offs da)::dl k.tP pw w::gc k pw da ds) H).toLg ok
theorem gh.addr(ok:gh mc da ds)(c:ds[n]?=dB (dB d)):∃b,da[n]?=dB (dB b):=by
 have g:n<64:=by have:=(qn.1 c).1;rw[ok.ls]at this;exact this
 have a:=ok.same n;rw[qe,qe,c]at a;have e:n<i1 da:=by rw[ok.la];exact g
 rw[qd e]at a⊢;simp at a;obtain⟨b,f⟩:=y8.1 a;exact⟨b,by rw[f]⟩
theorem gh.acg(ok:gh mc da ds)(d:n<64)(c:ds[n]?=dB eH):da[n]?=dB eH:=by
 have a:=ok.same n;rw[qe,qe,c]at a;have b:n<i1 da:=by rw[ok.la];exact d
 rw[qd b]at a⊢;simp at a;rw[a]
theorem gh.set(ok:gh mc da ds){b:f7}(c:da[n]?=dB (dB b)):gh mc da (ds.set n (dB d')):=by
 refine⟨ok.l8,ok.la,by rw[zh];exact ok.ls,λi=>?_⟩;by_cases a:n=i
 ·subst a;have d:n<i1 ds:=by have:=(qn.1 c).1;rw[ok.la]at this;rw[ok.ls];exact this
  rw[qe,c,qe,zm d];rfl
 ·rw[qe (l:=ds.set n _),zC a,<-qe];exact ok.same i
theorem aeY{b:f7}(c:da[n]?=dB (dB b))(e:n<i1 ds):(gc k pw da ds).set n (iJ k.tD (k.f pw) b d')=gc k pw da (ds.set n (dB d')):=by
 apply zG;intro j;have d:n<i1 da:=(qn.1 c).1;simp only[gc,q8,we,y9];by_cases a:n=j
 ·subst a;rw[g0 i4,g0 i5,g0 i4,g0 e,c];rfl
 ·simp[a]
def SK(k:Kit)(a pw:f7)(c:bh)(offs:Int)(b:List aM)(ds:aJ)(n:Nat):HP:=
 (HP.all (au a k.tS (cQ c pw offs b)::(gc k pw b ds).set n emp)).and (gh c b ds)
theorem aa.jZ(H:aa B h0 h (bp k a pw mc offs da w ds::As))(c:ds[n]?=dB (dB d)):∃b,da[n]?=dB (dB b)/\aa B h0 h (iJ k.tD (k.f pw) b d::dl k.tP pw w::SK k a pw mc offs da ds n::As):=by
 obtain⟨ok,l⟩:=H.pu;obtain⟨b,e⟩:=ok.addr c;refine⟨b,e,?_⟩;have i:(gc k pw da ds)[n]?=dB (iJ k.tD (k.f pw) b d):=by simp only[gc,we,e,c];rfl
 have g:=l.Yk n i;have j:aa B h0 h (iJ k.tD (k.f pw) b d::dl k.tP pw w::((au a k.tS (cQ mc pw offs da)::(gc k pw da ds).set n emp)++As)):=g;exact(((aa.closeAll _ j.ake).toLg ok).aX 3 [1,2,0]:aa B h0 h (iJ k.tD (k.f pw) b d::dl k.tP pw w::SK k a pw mc offs da ds n::As))
theorem aa.tk{b:f7}(m:da[n]?=dB (dB b))(H:aa B h0 h (iJ k.tD (k.f pw) b d'::dl k.tP pw w'::SK k a pw mc offs da ds n::As)):aa B h0 h (bp k a pw mc offs da w' (ds.set n (dB d'))::As):=by
 have l:aa B h0 h (SK k a pw mc offs da ds n::dl k.tP pw w'::iJ k.tD (k.f pw) b d'::As):=H.aX 3 [2,1,0];obtain⟨l,ok⟩:=l.Lg;have q:=l.py;have p:n<i1 ds:=by have:=(qn.1 m).1;rw[ok.la]at this;rw[ok.ls];exact this
 have t:=Fp (k:=k) (pw:=pw) ok;have g:n<i1 (gc k pw da ds):=by rw[t,<-ok.ls];exact p
 obtain⟨L,o⟩:∃L,L=gc k pw da ds:=⟨_,rfl⟩
 rw[<-o]at q g;have s:aa B h0 h (iJ k.tD (k.f pw) b d'::dl k.tP pw w'::au a k.tS (cQ mc pw offs da)::(L.set n emp++As)):=by
  refine q.pick (λi=>if i=0 then 1+i1 L+1 else if i=1 then 1+i1 L else if i=2 then 0 else if i<3+i1 L then i-2 else i) (λx y c=>by(try dsimp only at c);split at c<;>split at c<;>(try split at c)<;>(try split at c)<;>(try split at c)<;>(try split at c)<;>(try split at c)<;>(try split at c)<;>omega) λi A e=>?_
  try dsimp only
  have d:i1 (au a k.tS (cQ mc pw offs da)::L.set n emp)=1+i1 L:=i9
  match i,e with
  |0,e=>rw[g0 i4,qj i5,d,show 1+i1 L+1-(1+i1 L)=1 by omega];exact e
  |1,e=>rw[g9 i5,g0 i4,qj i5,d,zc];exact e
  |2,e=>rw[g9 i5,g9 i5,g0 rfl];exact e
  |i+3,e=>
   rw[g9 i5,g9 i5,g9 i5];rw[qw,qw,qw]at e;by_cases j:i<i1 L
   ·rw[g0 i5,show i+3-2=i+1 by omega,qo (by rw[d];omega),qw];rw[qo (by simpa using j)]at e;exact e
   ·rw[g9 i5,qj (by rw[d];omega),d,show i+3-(1+i1 L)=(i-i1 L)+2 by omega,qw,qw];rw[qj i9,zh]at e;exact e
 have r:=aa.JT n g s;rw[o,aeY m p]at r;exact r.pV (ok.set m)
end
def jL:jp (Int×Sl) (Int×bf):=⟨λh q a b=>a.1=b.1/\Seq h q a.2 1 aF b.2,λa d=>⟨a.1,a.2.ai d⟩,λa c=>⟨a.1,a.2.mono c⟩⟩
def piv(x:Int×Sl):bh:=[xq xx x.1,x.2]
theorem PR:∀x,∀c∈piv x,c.oneCell'=eR:=by intro x c a;simp[piv]at a;rcases a with rfl|rfl<;>rfl
def gN(a:List aM)(slot:Int):aM:=if 0<=slot/\slot<64 then(a[slot.toNat]?).join else eH
theorem nG{g:bh}{c:List aM}{ds:aJ}(ok:gh g c ds)(slot:Int):
  (bm ds slot=eH/\gN c slot=eH)∨∃(n:Nat) (d:bs) (b:f7),slot=n/\n<64/\ds[n]?=dB (dB d)/\bm ds slot=dB d/\c[n]?=dB (dB b)/\gN c slot=dB b:=by
 unfold bm gN;by_cases h:0<=slot/\slot<64
 ·rw[g0 h,g0 h];have f:slot.toNat<i1 ds:=by rw[ok.ls];omega
  cases hd:ds[slot.toNat]with
  |none=>
   have a:ds[slot.toNat]?=dB eH:=by rw[qd f,hd]
   exact .inl ⟨by rw[a];rfl,by rw[ok.acg i5 a];rfl⟩
  |some d=>
   have a:ds[slot.toNat]?=dB (dB d):=by rw[qd f,hd]
   obtain⟨b,e⟩:=ok.addr a;exact .inr ⟨slot.toNat,d,b,i5,i5,a,by rw[a];rfl,e,o0⟩
 ·rw[g9 h,g9 h];exact .inl ⟨i4,i4⟩
theorem Cm{a:bh}{pw:f7}{offs:Int}{b:List aM}(h8:i1 a=8)(n:Nat):(cQ a pw offs b)[10+n]?=(b[n]?).map .pointer:=by unfold cQ;rw[qj i5,h8,show 10+n-8=n+1+1 by omega,qw,qw,qU]
theorem UB{a:bh}{pw:f7}{offs:Int}{b:List aM}(h8:i1 a=8):(cQ a pw offs b)[8]?=dB (xt (dB pw)):=by unfold cQ;rw[qj i5,h8];rfl
theorem Zz{a:bh}{pw:f7}{offs:Int}{b:List aM}(h8:i1 a=8):(cQ a pw offs b)[9]?=dB (xq xx offs):=by unfold cQ;rw[qj i5,h8];rfl
end Go.Vc
namespace Go.Qw
open Go Go.Vc Go.Proofs Wl
abbrev bz:Go.Vc.Kit:=⟨91,121,119,λpw=>fu pw⟩
theorem UC{e:TypeId}(s:Sl)(l:aD)(h:f9)(c:Own h e s 1 av l)(a:i1 l<2^40):ac xB 177 #[s] h λv h'=>v=xr s.ptr (Lib.compact l).length s.cap/\Own h' e ⟨s.ptr,i1 (Lib.compact l),s.cap⟩ 1 av (Lib.compact l)/\bc (λb=>¬s.on b) h h':=
 MG Tryz.slices_Compact_int Tryz.slices_Compact_int_empty c a
section
variable {B:aC} {h0 h h':f9} {As:List HP} {a pw:f7} {mc:bh} {offs:Int} {da:List aM} {w:Pow} {ds:aJ}
theorem mW(slot:Int)(ok:gh mc da ds)(d:cx h a 91 (cQ mc pw offs da)):ac xB 23 #[xt (dB a),xq xx slot] h λv h'=>v=.pointer (gN da slot)/\h'=h:=by
 refine Dz (dB a) slot ?_;unfold sE;have c:¬(0<=slot/\slot<64)->Value.pointer eH=.pointer (gN da slot)/\h=h:=λe=>by unfold gN;rw[g9 e];exact⟨i4,i4⟩
 refine bi (bx (λe=>j1) λ_=>aj (λe=>c i5) λf=>aj (λe=>c i5) λe2=>?_);have b:slot.toNat<i1 da:=by rw[ok.la];omega
 refine⟨a,i4,⟨i5,i5⟩,da[slot.toNat],?_,?_,i4⟩
 ·rw[z7];refine d.Cl 10 slot.toNat ?_;rw[Cm ok.l8,qd b];rfl
 ·unfold gN;rw[g0 i5,qd b];rfl
theorem aa.cY(H:aa B h0 h (bp bz a pw mc offs da w ds::As)):gh mc da ds/\cx h a 91 (cQ mc pw offs da):=by obtain⟨ok,b⟩:=Go.Vc.aa.pu H;exact⟨ok,b.box 0 i4⟩
theorem NP(s:Sl)(l:aD)(u:Rd h s 1 av l)(M:i1 l<=2^30)(H:aa B h0 h (bp bz a pw mc offs da w ds::As)):
  ac xB 47 #[.func (.func 23) #[xt (dB a)] #[],s] h λv h'=>∃r:Sl,v=r/\Sp h h' [an 3 r 1 av (aN ds l)]:=by
 refine Uc (23,#[xt (dB a)],#[]) s ?_;unfold MT;have A:=u.len;obtain⟨ok,x⟩:=aa.cY H;refine aA (λt:Sl×Nat=>(t.1,(t.2:Int))) (λt h'=>t.2<=i1 l/\Sp h h' [an 3 t.1 1 av (aN ds (l.take t.2))]) (λt=>i1 l-t.2) (⟨eH,0,0⟩,0) i4 ⟨jj,by simpa[aN]using(Sp.refl h).nil 3 1 av⟩ ?_;rintro⟨o,i⟩ J ⟨I,j⟩;dsimp only at*;refine aj (λe=>?_) (λe=>?_)
 ·have p:i<i1 l:=i5
  have c:aN ds (l.take (i+1))=aN ds (l.take i)++(if isLive ds l[i]then[l[i]]else[]):=by unfold aN;rw[aK _ _ p,zl,zp,vh]
  have D:i1 (aN ds (l.take i))<=i1 l:=by have:=qQ (isLive ds) (l.take i);unfold aN;simp at this⊢;omega
  have next:∀{h':f9} {k:Sl},Sp h h' [an 3 k 1 av (aN ds (l.take (i+1)))]->∃m:Sl×Nat,((⟨k.ptr,k.len,k.cap⟩:Sl),qc xx ((i:Int)+1))=(m.1,(m.2:Int))/\(m.2<=i1 l/\Sp h h' [an 3 m.1 1 av (aN ds (l.take m.2))])/\l.length-m.2<i1 l-i:=λ{h' k} H'=>
   ⟨(k,i+1),js,⟨i7,H'⟩,i7⟩
  refine(Seq.up u j.ai).bG i i4 p l[i] i4 (fd ld ?_);refine(mW l[i] ok (x.ai j.ai x.lt)).mono ?_;rintro _ K ⟨rfl,rfl⟩;refine⟨_,i4,?_⟩;rcases nG ok l[i]with⟨c1,c2⟩|⟨n,d,b,c0,c1,c2,c3,c4,c5⟩
  ·rw[c2];have g:isLive ds l[i]=eS:=by unfold isLive;rw[c1]
   rw[g]at c;refine bo (λe=>j1) λ_=>next (by rw[c];simpa using j)
  ·rw[c5];have g:isLive ds l[i]=!d.lost:=by unfold isLive;rw[c3]
   refine bo (λ_=>?_) λe=>j1
   obtain⟨G,f,E⟩:=Go.Vc.aa.jZ (aa.up H j.ai) c2;rw[c4]at f;injection f with f
   injection f with f
   subst f;obtain⟨y,z,q,_,_⟩:=jl.box E;refine(IG y z q).mono ?_;rintro _ h3 ⟨rfl,rfl⟩;refine⟨_,i4,bo (λe=>?_) λe=>?_⟩
   ·rw[g,e]at c;refine j.push af 0 i4 gM i4 i6 (λ_=>rfl) fD l[i] i4 i6 i5 λk L F=>next ?_
    rw[c];exact F
   ·rw[g,e]at c;exact next (by rw[c];simpa using j)
 ·rw[qi i5]at j;exact⟨o,i4,j⟩
theorem NQ(s:Sl)(l:aD)(Y:St B h0 As λh=>Rd h s 1 av l)(hl:i1 l<=2^30)(z:∀x∈l,0<=x/\x<64)(H:aa B h0 h (bp bz a pw mc offs da w ds::As)):
  ac xB 114 #[.func (.func 23) #[xt (dB a)] #[],s] h λv h'=>v=xq xx (eV (cM l) w ds).1/\aa B h0 h' (bp bz a pw mc offs da (eV (cM l) w ds).2.1 (eV (cM l) w ds).2.2::As):=by
 refine Ug (23,#[xt (dB a)],#[]) s ?_;unfold Ng;refine(kg s l h (Y.at [_] H) i5).mono ?_;rintro _ R ⟨r,rfl,O⟩;have L:=H.cm O;refine⟨r,i4,(IE r l R (L.own 0 i4) i5).mono ?_⟩;rintro _ X ⟨rfl,K,Q⟩;have T:=L.nR 0 i4 Q K;refine⟨(),i4,(UC r (ic l) X K (by rw[Hq];omega)).mono ?_⟩;rintro _ h3 ⟨rfl,S,M⟩;have o:=T.step (D:=an 3 ⟨r.ptr,i1 (Lib.compact (ic l)),r.cap⟩ 1 av (Lib.compact (ic l))) 0 i4 λq A F=>⟨M.mono λb _ m G=>m (A.2 b G),S,λb m=>⟨qR (F b (A.2 b m)) M.1,.inl (A.2 b m)⟩⟩
 rw[Zb l z]at o⊢;obtain⟨u,J⟩:∃u,u=cM l:=⟨_,rfl⟩
 rw[<-J]at o⊢;have o:aa B h0 h3 (an 3 ⟨r.ptr,i1 u,r.cap⟩ 1 av u::bp bz a pw mc offs da w ds::As):=o;have V:i1 u<=64:=by have:=qQ (λi=>decide (i∈l)) ((qA 64).map λi:Nat=>(i:Int));rw[J];unfold cM;simpa using this
 refine⟨⟨r.ptr,i1 u,r.cap⟩,i4,?_⟩;refine aA (λt:Nat×Pow×aJ=>(t.1:Int)) (λt h'=>t.1<=i1 u/\eV u w ds=eV (u.drop t.1) t.2.1 t.2.2/\aa B h0 h' (an 3 ⟨r.ptr,i1 u,r.cap⟩ 1 av u::bp bz a pw mc offs da t.2.1 t.2.2::As)) (λt=>i1 u-t.1) (0,w,ds) i4 ⟨jj,i4,o⟩ ?_;rintro⟨i,j,f⟩ h4 ⟨hi,c,p⟩;dsimp only at*;refine aj (λe=>?_) (λe=>?_)
 ·have y:i<i1 u:=i5
  obtain⟨ok,m⟩:=aa.cY p.rest;rw[qP y,xD]at c;refine(p.seq 0 i4 λ_=>rfl).bG i i4 y u[i] i4 (fd ld ?_);refine(mW u[i] ok m).mono ?_;rintro _ W ⟨rfl,rfl⟩;refine⟨_,i4,?_⟩;rcases nG ok u[i]with⟨c1,c2⟩|⟨n,d,b,c0,c1,c2,c3,c4,c5⟩
  ·rw[c2];refine(Ux W).mono ?_;rintro _ N ⟨rfl,rfl⟩;have E:gQ j f u[i]=(5,j,f):=by unfold gQ;rw[c1]
   rw[E]at c;refine⟨5,i4,bY (λ_=>?_) λe=>absurd e i6⟩;have:eV u w ds=(5,j,f):=c;rw[this];exact⟨i4,p.rest⟩
  ·rw[c5];obtain⟨Z,g,U⟩:=Go.Vc.aa.jZ (p.aX 2 [1,0]) c2;rw[c4]at g;injection g with g
   injection g with g
   subst g;refine(abW U).mono ?_;rintro _ N ⟨rfl,P⟩;have I:=Go.Vc.aa.tk (k:=bz) (n:=n) c4 P;have E:gQ j f u[i]=((d.sync j).1,(d.sync j).2.1,f.set n (dB (d.sync j).2.2)):=by unfold gQ;rw[c3];simp only[bQ,c0,ql]
   rw[E]at c;refine⟨_,i4,bY (λe2=>?_) λe2=>?_⟩
   ·have:eV u w ds=((d.sync j).1,(d.sync j).2.1,f.set n (dB (d.sync j).2.2)):=by rw[c];exact g9 e2
    rw[this];exact⟨i4,I.rh⟩
   ·refine⟨(i+1,(d.sync j).2.1,f.set n (dB (d.sync j).2.2)),js,⟨i7,?_,I.aX 2 [1,0]⟩,i7⟩;rw[c];exact g0 e2
 ·rw[zf i5]at c;rw[c];exact⟨i4,p.rest⟩
end
end Go.Qw
namespace Go.Vc
open Go Wl
theorem HP.Ed{h:f9}:∀{L:List HP} {q:aC} {i:Nat} {A:HP},(HP.all L).p h q->L[i]?=dB A->A.p h q
 |A::L,q,0,A',⟨q1,q2,_,b,_,d,_⟩,hi=>by simp at hi;subst hi;exact A.mono d b
 |A::L,q,i+1,A',⟨q1,q2,_,_,c,_,e⟩,hi=>A'.mono (HP.Ed e (by simpa using hi)) c
 |[],_,i,_,_,hi=>by simp at hi
section
variable {α β:Type} {B:aC} {h0 h:f9} {As:List HP} {e e2 k:Nat} {s:Sl} {f:α->bh} {ll:List (List α)}
theorem aa.ZA(H:aa B h0 h (dJ e s e2 k f ll::As))(j:∀x,i1 (f x)=k):∃rs,aa B h0 h (cN (cz k f) 1 bv s rs ll::As):=by
 obtain⟨rs,H⟩:=H.tQ;obtain⟨H,g⟩:=H.Lg;refine⟨rs,H.fZ 0 i4 λq c=>⟨?_,g,λi r l d a=>?_⟩⟩
 ·have:=HP.Ed (i:=0) c i4;exact this.1.seq (λ_=>rfl) this.2
 ·have b:i<i1 ll:=(qn.1 a).1;have m:=fX (e:=e2) (k:=k) (f:=f) g i b;have:=HP.Ed (i:=i+1) c o7;have n:rs[i]'(by omega)=r:=by rw[qd i5]at d;simpa using d
  have e2:ll[i]=l:=by rw[qd b]at a;simpa using a
  rw[n,e2]at this;exact this.1.seq j this.2
end
end Go.Vc
namespace Wl
def bM(m:aG)(bW:aD):List (Int×bf):=bW.flatMap λn=>(bu m).map λc=>(n,c)
theorem lD{m:aG}{bW:aD}{x:Int×bf}(h:x∈bM m bW):x.1∈bW/\x.2.length=64:=by unfold bM at h;obtain⟨n,b,a⟩:=zU.1 h;obtain⟨c,d,rfl⟩:=qu.1 a;exact⟨b,xE d⟩
end Wl
namespace Go.Qw
open Go Go.Vc Go.Proofs Wl
theorem ka(m:aG)(a:cR m):i1 (bu m)<=3000:=by have:=LS m a;unfold bu iL;simp;omega
abbrev UD:bZ C.toDr 131 141 2 [xq xx 0,xr eH 0 0] 32:=⟨_,_,i4,i4,i4,i4,i4,i4⟩
section
variable {B:aC} {h0 h h':f9} {As:List HP} {a pw:f7} {mc:bh} {offs:Int} {da:List aM} {w:Pow} {ds:aJ}
theorem IJ(s:Sl)(q:List (Int×Sl))(P:List (Int×bf))(I:St B h0 As λh=>oD jL 2 piv h s q P)(hl:i1 P<=2^30)(A:∀x∈P,(0<=x.1/\x.1<64)/\x.2.length<=2^20)(H:aa B h0 h (bp bz a pw mc offs da w ds::As)):
  ac xB 76 #[.func (.func 23) #[xt (dB a)] #[],s] h λv h'=>v=xq xx (layAll P w ds).1/\aa B h0 h' (bp bz a pw mc offs da (layAll P w ds).2.1 (layAll P w ds).2.2::As):=by
 refine Wz (23,#[xt (dB a)],#[]) s ?_;unfold QO;have T:=(I.at [_] H).1.len;have X:=(I.at [_] H).2.1;have R:=(H.nil 3 1 av).bB;refine aA (λt:Sl×Nat×Pow×aJ=>(t.1,(t.2.1:Int))) (λt h'=>t.2.1<=i1 P/\lP P w ds=lP (P.drop t.2.1) t.2.2.1 t.2.2.2/\aa B h0 h' (an 3 t.1 1 av ((P.take t.2.1).map qI)::bp bz a pw mc offs da t.2.2.1 t.2.2.2::As)) (λt=>i1 P-t.2.1) (⟨eH,0,0⟩,0,w,ds) i4 ⟨jj,i4,by simpa using R⟩ ?_;rintro⟨o,i,u,p⟩ h1 ⟨hi,f,G⟩;dsimp only at*;refine aj (λe=>?_) (λe=>?_)
 ·have r:i<i1 P:=i5
  rw[qP r,Ap]at f;have Q:=I.at [_,_] G;have J:=A _ (qg r);refine Q.1.eC (g:=piv) i i4 i5 (q[i]'(by omega)) i4 ?_;refine G.alloc af i4 λa4 h2 D=>?_;have D:=D.bB;refine D.storeAll af 0 i4 i4 (piv (q[i]'(by omega))) i4 i4 i4 i4 λh3 l=>?_;obtain⟨O,N⟩:=Fix.row (I.at [_,_,_] l) r;have l:aa B h0 h3 (au a4 141 (piv (q[i]'(by omega)))::an 3 o 1 av ((P.take i).map qI)::bp bz a pw mc offs da u p::As):=l;have l:=l.aX 3 [2,0,1];obtain⟨ok,hb⟩:=aa.cY l;obtain⟨c,m⟩:∃c,c=fT u p P[i].1 P[i].2:=⟨_,rfl⟩
  rw[<-m]at f;refine bP (λ_ h'=>c.1=0/\aa B h0 h' (bp bz a pw mc offs da c.2.1 c.2.2::au a4 141 (piv (q[i]'(by omega)))::an 3 o 1 av ((P.take i).map qI)::As)) ?_ ?_
  ·refine bP (λe h'=>e=c.1/\aa B h0 h' (bp bz a pw mc offs da c.2.1 c.2.2::au a4 141 (piv (q[i]'(by omega)))::an 3 o 1 av ((P.take i).map qI)::As)) ?_ ?_
   ·refine⟨P[i].1,by rw[<-O];exact(l.box 1 i4).cell0 i4,(q[i]'(by omega)).2,(l.box 1 i4).cell i4,fd ld ?_⟩;refine(mW P[i].1 ok hb).mono ?_;rintro _ M ⟨rfl,rfl⟩;refine⟨_,i4,⟨(l.box 1 i4).cell i4,trivial⟩,?_⟩;rcases nG ok P[i].1 with⟨c1,c2⟩|⟨n,d,b,c0,c1,c2,c3,c4,c5⟩
    ·rw[c2];refine(PO (q[i]'(by omega)).2 P[i].2 M N).mono ?_;rintro _ Z ⟨rfl,rfl⟩;have F:c=(if P[i].2.length≠64 then 1 else 5,u,p):=by rw[m];unfold fT;rw[c1]
     refine⟨_,i4,trivial,by rw[F],?_⟩;rw[F];exact l
    ·rw[c5];obtain⟨b',j,L⟩:=Go.Vc.aa.jZ l c2;rw[c4]at j;injection j with j
     injection j with j
     subst j;refine(KL (q[i]'(by omega)).2 P[i].2 L N J.2).mono ?_;rintro _ h6 ⟨rfl,U⟩;have S:=Go.Vc.aa.tk (k:=bz) (n:=n) c4 U;have F:c=((d.append u P[i].2).1,(d.append u P[i].2).2.1,p.set n (dB (d.append u P[i].2).2.2)):=by rw[m];unfold fT;rw[c3];simp only[bQ,c0,ql]
     refine⟨_,i4,trivial,by rw[F],?_⟩;rw[F];exact S
   ·rintro e4 M ⟨rfl,E⟩;refine bY (λe2=>?_) λe2=>⟨e2,E⟩
    rw[g9 e2]at f;have:layAll P w ds=c:=by unfold layAll;rw[f];exact g9 e2
    rw[this];exact⟨i4,E.rh.rh⟩
  ·rintro _ M ⟨e2,E⟩;rw[g0 e2]at f;refine⟨P[i].1,by rw[<-O];exact(E.box 1 i4).cell0 i4,?_⟩;refine E.push af 2 i4 gM i4 i6 (λ_=>rfl) fD P[i].1 i4 i6 i9 λY Z L=>?_;refine⟨(Y,i+1,c.2.1,c.2.2),js,⟨i7,f,?_⟩,i7⟩;dsimp only;rw[aK _ _ r,qW];exact L.aX 3 [2,0]
 ·have K:i=i1 P:=i5
  subst K;rw[List.drop_length]at f;rw[q9]at G;have D:=(G.freeze 0 i4 λ_=>rfl).aX 2 [1,0];have z:layAll P w ds=eV (cM (P.map qI)) u p:=by unfold layAll;rw[f];rfl
  refine(NQ o (P.map qI) (St.eE 0 i4 λh' V=>V) i9 (λx hx=>?_) D).mono ?_
  ·obtain⟨y,W,rfl⟩:=qu.1 hx;exact(A y W).1
  ·rintro _ h2 ⟨rfl,l⟩;refine⟨_,i4,by rw[z],?_⟩;rw[z];exact l.rh
theorem KN(x:bV)(m:aG)(s:Sl)(bW:aD)(h:f9)(hx:dn h x m)(H:cR m)(S:Rd h s 1 av bW)(ah:i1 bW<=2^10):
  ac xB 77 #[fH x,s] h λv h'=>∃(r:Sl) (ys:List (Int×Sl)),v=r/\Sp h h' [cN jL 2 piv r ys (bM m bW)]:=by
 refine RY x s ?_;unfold Kz;refine(Sp.refl h).boxed λa1 R K=>?_;refine⟨x,(K.box 0 i4).aV _ i4,(nZ x m R (hx.up K.ai) H).mono ?_⟩;rintro _ V ⟨r,rfl,X⟩;have y:=K.cm X;refine⟨r,i4,?_⟩;obtain⟨rs,y⟩:=y.ZA λ_=>rfl;have L:=ka m H;obtain⟨a,D⟩:∃a,a=bu m:=⟨_,rfl⟩
 rw[<-D]at y L;have W:=y.eU 0 i4;have ad:=W.1.len;have ab:=W.2.1;have Y:=S.len;obtain⟨T,F⟩:∃T:Int->List ((Int×Sl)×(Int×bf)),T=λn=>(rs.zip a).map λz=>((n,z.1),(n,z.2)):=⟨_,rfl⟩
 have d:∀n,i1 (T n)=i1 a:=λn=>by rw[F];simp;omega
 have P:∀n,(T n).map zI=a.map λc=>(n,c):=λn=>by
  have H:=List.map_snd_zip (l₁:=rs) (l₂:=a) i5
  conv=>rhs;rw[<-H]
  rw[F];simp[w6,Function.comp_def]
 have O:∀n j (M:j<i1 a),(T n)[j]'(by rw[d];exact M)=((n,rs[j]'(by omega)),(n,a[j])):=λn j M=>by subst F;simp
 have g:Sp h V [an 141 ⟨eH,0,0⟩ 2 piv (((bW.take 0).flatMap T).map qI),cN (cz 1 aF) 1 bv r rs a]:=(y.nil 141 2 piv).cK [2,0];have A:∀i,i<=i1 bW->i1 ((bW.take i).flatMap T)<=i*3000:=λi=>by
  induction i with
  |zero=>simp
  |succ i ih=>
   intro Q;rw[aK _ _ (show i<i1 bW by omega),zg,qx];have R:=ih i5;have V:i1 ([bW[i]].flatMap T)=i1 a:=by rw[zk,z6,qN,d]
   omega
 refine aA (λt:Sl×Nat=>(t.1,(t.2:Int))) (λt h'=>t.2<=i1 bW/\Sp h h' [an 141 t.1 2 piv (((bW.take t.2).flatMap T).map qI),cN (cz 1 aF) 1 bv r rs a]) (λt=>i1 bW-t.2) (⟨eH,0,0⟩,0) i4 ⟨jj,g⟩ ?_;rintro⟨o,i⟩ h3 ⟨Q,g⟩;dsimp only at*;refine aj (λe=>?_) (λe=>?_)
 ·have B:i<i1 bW:=i5
  have ht:=A i Q;have hb:i*3000<=2^10*3000:=zK _ i5;refine(Seq.up S g.ai).bG i i4 B bW[i] i4 ?_;refine aA (λt:Sl×Nat=>(t.1,(t.2:Int))) (λt h'=>t.2<=i1 a/\Sp h h' [an 141 t.1 2 piv (((bW.take i).flatMap T).map qI++((T bW[i]).take t.2).map qI),cN (cz 1 aF) 1 bv r rs a]) (λt=>i1 a-t.2) (o,0) i4 ⟨jj,l0⟩ ?_;rintro⟨u,j⟩ h4 ⟨M,f⟩;dsimp only at*;refine aj (λe2=>?_) (λe2=>?_)
  ·have w:j<i1 a:=i5
   refine(f.eU 1 i4).1.mv j i4 i5 ?_;refine f.push af 0 i4 UD i4 i6 (λ_=>rfl) PR (bW[i],rs[j]'(by omega)) i4 i6 (by simp only[qx,qy,qY,d];omega) λZ h5 H5=>?_;refine⟨(Z,j+1),js,⟨i7,?_⟩,i7⟩;dsimp only;rw[aK (T bW[i]) j (by rw[d];exact w),qW,O _ _ w,<-qp];exact H5
  ·have I:j=i1 a:=i5
   subst I;rw[qi (l:=T bW[i]) (by rw[d];exact qm _)]at f;refine⟨(u,i+1),js,⟨i7,?_⟩,i7⟩;dsimp only;rw[aK _ _ B,zg,qW,zk,z6,qN];exact f
 ·have N:i=i1 bW:=i5
  subst N;rw[q9]at g;refine⟨o,(bW.flatMap T).map qI,i4,?_⟩;have f:=(g.freeze 0 i4 λ_=>rfl).mu;refine f.fZ 0 i4 λq ⟨q1,q2,_,b,c,z1,z2⟩=>?_;have E:(bW.flatMap T).map zI=bM m bW:=by unfold bM;rw[List.map_flatMap,<-D];congr 1;funext n;exact P n
  rw[<-E];refine⟨z2.mono c,jj,λj r' l' p G=>?_⟩;rw[qU]at p G;cases g3:(bW.flatMap T)[j]? with
  |none=>rw[g3]at p;cases p
  |some t=>
   rw[g3]at p G;simp at p G;subst p;subst G;obtain⟨n,_,U⟩:=zU.1 (ya g3);rw[F]at U;obtain⟨z,J,rfl⟩:=qu.1 U;obtain⟨k,hk,rfl⟩:=List.mem_iff_getElem.1 J;rw[vd];exact⟨i4,(z1.2.2 k _ _ (qd _) (qd _)).mono b⟩
end
section
variable {B:aC} {h0 h h':f9} {As:List HP} {s:Sl} {d:List bI}
theorem ZB{b c:List bI}{y:bI}(d:Sd cC (b++c))(g:∀z∈b,cC z y=eR)(f:∀z∈c,¬cC z y=eR):Sd cC (b++y::c):=
 Sd.app dY d.left (zF.2 ⟨λz a=>dY.Hv (f z a),d.right⟩) λx e z a=>by
  rcases zb.1 a with rfl|a
  ·exact g x e
  ·exact d.JG x e z a
theorem Ee(X M Y:List bI)(a b:Int)(ha:a=(i1 X:Int))(hb:b=(i1 X+i1 M:Nat))(ad:i1 X+i1 M+i1 Y<=2^40)(H:aa B h0 h (cP s (X++(M++Y))::As)):
  ac xB 298 #[s,xq xx a,xq xx b,.func (.func 169) #[] #[]] h λv h'=>v=.tuple #[]/\∃W,Sd cC W/\cG cC M W/\aa B h0 h' (cP s (X++(W++Y))::As):=by
 refine lX s a b (169,#[],#[]) ?_;unfold iq;subst ha;subst hb;rw[ak ((i1 X:Int)+1)];refine aA (λt:Nat×List bI=>((i1 X+1+t.1:Nat):Int)) (λt h'=>(t.1+1<=i1 M∨t.1=0)/\Sd cC t.2/\cG cC (M.take (t.1+1)) t.2/\t.2.length=i1 (M.take (t.1+1))/\aa B h0 h' (cP s (X++(t.2++(M.drop (t.1+1)++Y)))::As)) (λt=>i1 M-t.1) (0,M.take 1) i4 ?_ ?_
 ·refine⟨.inr i4,?_,cG.refl _,i4,?_⟩
  ·cases M with
   |nil=>exact List.Pairwise.nil
   |cons x M=>exact zF.2 ⟨λ_ h=>m9,jj⟩
  ·rw[<-qp (M.take (0+1)),qE];exact H
 rintro⟨t,P⟩ h1 ⟨ht,p,A,Z,O⟩;dsimp only at*;refine aj (λe=>?_) (λe=>?_)
 ·have I:t+1<i1 M:=i5
  obtain⟨y,hy⟩:∃y,y=M[t+1]:=⟨_,rfl⟩
  have K:i1 P=t+1:=by rw[Z];simp;omega
  have eD:M.drop (t+1)=y::M.drop (t+1+1):=by rw[qP I,hy]
  rw[eD]at O;refine aA (λu:List bI×List bI=>((i1 X+i1 u.1:Nat):Int)) (λu h'=>u.1++u.2=P/\(∀z∈u.2,¬cC z y=eR)/\aa B h0 h' (cP s (X++(u.1++(y::(u.2++(M.drop (t+1+1)++Y)))))::As)) (λu=>i1 u.1) (P,[]) (by dsimp only;rw[K];congr 1;omega) ⟨jj,jj,by simpa using O⟩ ?_;rintro⟨c,d⟩ U ⟨L,k,J⟩;dsimp only at*;have ah:i1 c+i1 d=t+1:=by rw[<-K,<-L,qx]
  have f:∀{h':f9},(∀z∈c,cC z y=eR)->aa B h0 h' (cP s (X++(c++(y::(d++(M.drop (t+1+1)++Y)))))::As)->
    ∃l:Nat×List bI,qc xx (((i1 X+1+t:Nat):Int)+1)=((i1 X+1+l.1:Nat):Int)/\((l.1+1<=i1 M∨l.1=0)/\Sd cC l.2/\cG cC (M.take (l.1+1)) l.2/\l.2.length=i1 (M.take (l.1+1))/\aa B h0 h' (cP s (X++(l.2++(M.drop (l.1+1)++Y)))::As))/\M.length-l.1<i1 M-t:=λ{h'} hle H'=>by
   refine⟨(t+1,c++y::d),by dsimp only;rw[ak _];omega,⟨.inl i7,?_,?_,?_,?_⟩,i7⟩
   ·exact ZB qs hle k
   ·dsimp only;rw[aK M (t+1) I,<-hy];have h1:cG cC (M.take (t+1)++[y]) (P++[y]):=A.app (cG.refl _);refine h1.trans ?_;rw[<-L,qp];have U:cG cC (d++[y]) ([y]++d):=cG.rot dY λx hx z N=>by rw[qC.1 N];exact k x hx
    exact(cG.refl _).app U
   ·dsimp only;simp;omega
   ·dsimp only;have:X++((c++y::d)++(M.drop (t+1+1)++Y))=X++(c++(y::(d++(M.drop (t+1+1)++Y)))):=jj
    rw[this];exact H'
  obtain⟨D,R⟩:∃D,D=X++(c++(y::(d++(M.drop (t+1+1)++Y)))):=⟨_,rfl⟩
  refine bP (λ_ h'=>∃(Q:List bI) (z:bI),c=Q++[z]/\¬cC z y=eR/\aa B h0 h' (cP s D::As)) ?_ ?_
  ·rw[<-R]at J f;refine aj (λe2=>?_) (λe2=>⟨trivial,f (λz N=>?_) J⟩)
   ·have G:c≠[]:=λh=>by rw[h]at e2;simp at e2
    obtain⟨Q,z,n⟩:∃(Q:List bI) (z:bI),c=Q++[z]:=⟨c.dropLast,c.getLast G,(List.dropLast_concat_getLast G).symm⟩
    have ab:i1 c=i1 Q+1:=by rw[n];simp
    have g1:D[i1 X+i1 c]?=dB y:=by rw[R,qj i5,show X.length+i1 c-i1 X=i1 c by omega,qj i5,zc];rfl
    have g2:D[i1 X+i1 c-1]?=dB z:=by rw[R,qj i5,show X.length+i1 c-1-i1 X=i1 Q by omega,n,qp,qj (qm _),zc];rfl
    obtain⟨S,q⟩:=qn.1 g1;obtain⟨T,E⟩:=qn.1 g2;refine(J.seq 0 i4 λ_=>rfl).eC (g:=bT) _ i4 S y (by rw[q]) ?_;have ej:qc xx (((i1 X+i1 c:Nat):Int)-1)=((i1 X+i1 c-1:Nat):Int):=j4
    rw[ej];refine(J.seq 0 i4 λ_=>rfl).eC (g:=bT) _ i4 T z (by rw[E]) (fd ld ?_);refine(rU y z U).mono ?_;rintro _ h3 ⟨rfl,R3⟩;have F:=J.up R3.ai;refine⟨_,i4,trivial,aj (λV=>⟨Q,z,n,(th y z).1 V,F⟩) λV=>f (λw m=>?_) F⟩;have o:cC z y=eR:=by
     by_cases hc:cC z y=eR
     ·exact hc
     ·exact absurd ((th y z).2 hc) V
    rw[n]at m;rcases qz.1 m with m|m
    ·refine dY.trans _ _ _ ?_ o;have:Sd cC (Q++[z]):=by rw[<-n];exact Sd.left (v:=d) qs
     exact this.JG w m z jj
    ·rw[qC.1 m];exact o
   ·have:c=[]:=by
     cases c with
     |nil=>rfl
     |cons x P=>exfalso;simp only[zn]at e2;omega
    rw[this]at N;cases N
  ·rintro _ h3 ⟨Q,z,n,o,F⟩;have ab:i1 c=i1 Q+1:=by rw[n];simp
   have r:D=(X++Q)++z::([]++y::(d++(M.drop (t+1+1)++Y))):=by rw[R,n];simp
   obtain⟨q1,q2,q3,q4⟩:=Uy (X++Q) [] (d++(M.drop (t+1+1)++Y)) z y (i:=i1 X+i1 c-1) (j:=i1 X+i1 c) i9 i9;rw[<-r]at q1 q2 q3 q4;obtain⟨T,E⟩:=qn.1 q1;obtain⟨S,q⟩:=qn.1 q2;have ej:qc xx (((i1 X+i1 c:Nat):Int)-1)=((i1 X+i1 c-1:Nat):Int):=j4
   rw[ej];refine(F.seq 0 i4 λ_=>rfl).eC (g:=bT) _ i4 T z (by rw[E]) ?_;refine(F.seq 0 i4 λ_=>rfl).eC (g:=bT) _ i4 S y (by rw[q]) ?_;refine F.set af 0 i4 (λ_=>rfl) i4 (i1 X+i1 c) i4 S z i4 i4 i4 λh4 H4=>⟨trivial,?_⟩
   refine H4.set af 0 i4 (λ_=>rfl) i4 (i1 X+i1 c-1) i4 (by simpa using T) y i4 i4 i4 λh5 H5=>⟨trivial,?_⟩
   refine⟨(Q,z::d),by dsimp only;congr 1;omega,⟨by dsimp only;rw[<-L,n];simp,?_,?_⟩,i7⟩
   ·dsimp only;intro w m;rcases zb.1 m with rfl|m
    ·exact o
    ·exact k w m
   ·dsimp only;have:X++(Q++(y::(z::d++(M.drop (t+1+1)++Y))))=(X++Q)++y::([]++z::(d++(M.drop (t+1+1)++Y))):=jj
    rw[this,<-q4];exact H5
 ·refine⟨i4,P,p,?_,?_⟩
  ·rw[qi i5]at A;exact A
  ·rw[zf i5]at O;simpa using O
end
theorem JU(x y:Nat)(h:x+y<=2^62:=by omega):qc xx (qX (qc xA (qc xx ((x:Int)+(y:Int)))) (2^min (1:Int).toNat (qk xA)))=(((x+y)/2:Nat):Int):=by
 rw[ak ((x:Int)+y)];have e:qc xA ((x:Int)+(y:Int))=(x:Int)+y:=by unfold qc;simp[qk,va];omega
 rw[e,show min (1:Int).toNat (qk xA)=1 from i4,Int.fdiv_eq_ediv_of_nonneg _ i6,ak _];omega
section
variable {B:aC} {h0 h h':f9} {As:List HP} {s:Sl} {d:List bI}
theorem Db{x y:bI}(h:¬mD x y<0):cC y x=eR:=by
 by_cases a:cC y x=eR
 ·exact a
 ·exact absurd ((th x y).2 a) h
theorem kK{K:bI->Prop}(H:aa B h0 h (cP s d::As)){i:Int}(n:Nat)(e:i=n){x:bI}(c:d[n]?=dB x)(f:K x):
  ∃a:f7,(s.ptr=dB a/\0<=i/\i<((s.len:Nat):Int))/\∃x:bI,aq h (a.add (i.toNat*8)) 0 (bT x)/\K x:=by
 obtain⟨j,b⟩:=qn.1 c;exact(H.seq 0 i4 λ_=>rfl).eC (g:=bT) n e j x (by rw[b]) f
theorem PS(x:bI)(X R Y:List bI)(ad:i1 X+1+i1 R+i1 Y<=2^40)(I:Sd cC R)(H:aa B h0 h (cP s (X++(x::(R++Y)))::As)){K:Hb}
  (f:∀h',(∃M,Sd cC M/\cG cC (x::R) M/\aa B h0 h' (cP s (X++(M++Y))::As))->K (.tuple #[]) h') (a m b:Int) (ha:a=(i1 X:Int)) (hm:m=(i1 X+1:Nat)) (hb:b=(i1 X+1+i1 R:Nat)):
  aL (σ:=Int×Int) (λc K1 g=>
   Br (decide (c.1<c.2))
   ((0<=(1:Int))/\
   ∃a2:f7,(s.ptr=dB a2/\0<=(qc xx (qX (qc xA (qc xx (c.1+c.2))) (2^min (1:Int).toNat (qk xA))))/\(qc xx (qX (qc xA (qc xx (c.1+c.2))) (2^min (1:Int).toNat (qk xA))))<((s.len:Nat):Int))/\
   ∃x3:bI,aq g (a2.add ((qc xx (qX (qc xA (qc xx (c.1+c.2))) (2^min (1:Int).toNat (qk xA)))).toNat*8)) 0 (bT x3)/\
   ∃a4:f7,(s.ptr=dB a4/\0<=a/\a<((s.len:Nat):Int))/\
   ∃x5:bI,aq g (a4.add (a.toNat*8)) 0 (bT x5)/\
   gY C 169 ((#[]:Array Value).toList++[recv x3,recv x5]++(#[]:Array Value).toList) (.one (.sc (.int .i64))) g λr6 n=>
   (az.ok [] n)/\
   Br (decide (r6<(0:Int)))
   (K1 (qc xx ((qc xx (qX (qc xA (qc xx (c.1+c.2))) (2^min (1:Int).toNat (qk xA))))+(1:Int)),c.2) n)
   (K1 (c.1,qc xx (qX (qc xA (qc xx (c.1+c.2))) (2^min (1:Int).toNat (qk xA)))) n))
   (aL (σ:=Int) (λd K2 h3=>
   Br (decide (d<(qc xx (c.1-(1:Int)))))
   (∃a8:f7,(s.ptr=dB a8/\0<=(qc xx (d+(1:Int)))/\(qc xx (d+(1:Int)))<((s.len:Nat):Int))/\
   ∃x9:bI,aq h3 (a8.add ((qc xx (d+(1:Int))).toNat*8)) 0 (bT x9)/\
   ∃D:f7,(s.ptr=dB D/\0<=d/\d<((s.len:Nat):Int))/\
   ∃G:bI,aq h3 (D.add (d.toNat*8)) 0 (bT G)/\
   ∃L:f7,(s.ptr=dB L/\0<=d/\d<((s.len:Nat):Int))/\
   ag xB (qf 164 (xt (dB (L.add (d.toNat*8)))) (recv x9)) h3 λ_ Q=>
   (az.ok [] Q)/\
   ∃E:f7,(s.ptr=dB E/\0<=(qc xx (d+(1:Int)))/\(qc xx (d+(1:Int)))<((s.len:Nat):Int))/\
   ag xB (qf 164 (xt (dB (E.add ((qc xx (d+(1:Int))).toNat*8)))) (recv G)) Q λ_ T=>
   (az.ok [] T)/\
   K2 (qc xx (d+(1:Int))) T)
   (K (.tuple #[]) h3)) a g)) (m,b) h:=by
 subst ha;subst hm;subst hb;refine aA (λt:Nat×Nat=>(((i1 X+1+t.1:Nat):Int),((i1 X+1+t.2:Nat):Int))) (λt h'=>t.1<=t.2/\t.2<=i1 R/\(∀k (f:k<i1 R),k<t.1->¬cC x R[k]=eR)/\(∀k (f:k<i1 R),t.2<=k->cC x R[k]=eR)/\aa B h0 h' (cP s (X++(x::(R++Y)))::As)) (λt=>t.2-t.1) (0,i1 R) i4 ⟨jj,jj,λ_ _ h=>m9,λ_ g n=>absurd g (by simpa using n),H⟩ ?_;rintro⟨i,j⟩ g ⟨ab,hj,q,J,N⟩;dsimp only at*;refine aj (λe=>?_) (λe=>?_)
 ·have o:i<j:=i5
  rw[JU _ _];have eh:((i1 X+1+i)+(i1 X+1+j))/2=i1 X+1+(i+j)/2:=i5
  rw[eh];have f:(i+j)/2<i1 R:=i5
  refine⟨i6,kK N _ i4 (x:=R[(i+j)/2]) ?_ (kK N X.length i4 (x:=x) ?_ (fd ld ?_))⟩
  ·rw[qj i5,show X.length+1+(i+j)/2-i1 X=(i+j)/2+1 by omega,qw,qo f,qd f]
  ·rw[qj (qm _),zc];rfl
  refine(rU R[(i+j)/2] x g).mono ?_;rintro _ n ⟨rfl,R2⟩;have H2:=N.up R2.ai;refine⟨_,i4,trivial,aj (λe2=>?_) λe2=>?_⟩
  ·have W:=(th _ _).1 e2;refine⟨((i+j)/2+1,j),js,⟨i7,hj,λk r Z=>?_,J,H2⟩,i7⟩;intro hc;exact W (dY.trans _ _ _ hc (I.at_ dY (i:=k) (j:=(i+j)/2) (by dsimp only at Z;omega) f))
  ·refine⟨(i,(i+j)/2),i4,⟨i7,i7,q,λk r U=>?_,H2⟩,i7⟩;exact dY.trans _ _ _ (Db e2) (I.at_ dY (by dsimp only at U;omega) r)
 ·have o:i=j:=i5
  subst o;have hM:Sd cC (R.take i++x::R.drop i):=by
   refine Sd.app dY (Sd.left (v:=R.drop i) (by rw[qE];exact I)) (zF.2 ⟨λz A=>?_,Sd.right (u:=R.take i) (by rw[qE];exact I)⟩) λz A w F=>?_
   ·obtain⟨k,f,rfl⟩:=qK A;rw[wi];exact J _ _ i5
   ·obtain⟨k,f,rfl⟩:=qK A;rw[yh];have V:k<i:=p6
    have g:=dY.Hv (q k p6 V);rcases zb.1 F with rfl|F
    ·exact g
    ·obtain⟨l,hl,rfl⟩:=qK F;rw[wi];exact I.at_ dY i5 (by simp at hl;omega)
  have hE:cG cC (x::R) (R.take i++x::R.drop i):=by
   have g:cG cC ([x]++R.take i) (R.take i++[x]):=cG.rot dY λz A w F=>by
    rw[qC.1 A];obtain⟨k,f,rfl⟩:=qK F;rw[yh];exact q k p6 p6
   have n:=g.app (cG.refl (le:=cC) (R.drop i));have e1:([x]++R.take i)++R.drop i=x::R:=by rw[qp,qE];rfl
   have e2:(R.take i++[x])++R.drop i=R.take i++x::R.drop i:=jj
   rw[e1,e2]at n;exact n
  have el:qc xx (((i1 X+1+i:Nat):Int)-1)=((i1 X+i:Nat):Int):=j4
  rw[el];refine aA (λt:Nat=>((i1 X+t:Nat):Int)) (λt h'=>t<=i/\aa B h0 h' (cP s (X++(R.take t++(x::(R.drop t++Y))))::As)) (λt=>i-t) 0 i4 ⟨i5,by simpa using N⟩ ?_;rintro t h3 ⟨ht,O⟩;refine aj (λe2=>?_) (λe2=>?_)
  ·have ah:t<i:=i5
   have y:t<i1 R:=i5
   have p:X++(R.take t++(x::(R.drop t++Y)))=(X++R.take t)++x::([]++R[t]::(R.drop (t+1)++Y)):=by rw[qP y];simp only[qp,zx,wy]
   obtain⟨P,S,q3,q4⟩:=Uy (X++R.take t) [] (R.drop (t+1)++Y) x R[t] (i:=i1 X+t) (j:=i1 X+t+1) i9 i9;rw[<-p]at P S q3 q4;have ek:qc xx (((i1 X+t:Nat):Int)+1)=((i1 X+t+1:Nat):Int):=j4
   rw[ek];refine kK O _ i4 S (kK O _ i4 P ?_);refine O.set af 0 i4 (λ_=>rfl) i4 (i1 X+t) i4 (qn.1 P).1 R[t] i4 i4 i4 λQ H4=>⟨trivial,?_⟩
   refine H4.set af 0 i4 (λ_=>rfl) i4 (i1 X+t+1) i4 (by rw[zh];exact(qn.1 S).1) x i4 i4 i4 λT H5=>⟨trivial,?_⟩
   refine⟨t+1,i4,⟨i5,?_⟩,i5⟩;have e3:X++(R.take (t+1)++(x::(R.drop (t+1)++Y)))=(X++R.take t)++R[t]::([]++x::(R.drop (t+1)++Y)):=by rw[aK R t y];simp only[qp,zx,wy]
   rw[e3,<-q3];exact H5
  ·have:t=i:=i5
   subst this;refine f h3 ⟨R.take t++x::R.drop t,hM,hE,?_⟩;have:X++((R.take t++x::R.drop t)++Y)=X++(R.take t++(x::(R.drop t++Y))):=jj
   rw[this];exact O
end
section
variable {B:aC} {h0 h h':f9} {As:List HP} {s:Sl} {d:List bI}
theorem NR(y:bI)(X L Y:List bI)(ar:i1 X+i1 L+1+i1 Y<=2^40)(F:Sd cC L)(H:aa B h0 h (cP s (X++(L++(y::Y)))::As)){K:Hb}
  (d:∀h',(∃M,Sd cC M/\cG cC (L++[y]) M/\aa B h0 h' (cP s (X++(M++Y))::As))->K (.tuple #[]) h') (a m:Int) (ha:a=(i1 X:Int)) (hm:m=(i1 X+i1 L:Nat)):
  aL (σ:=Int×Int) (λb K3 W=>
   Br (decide (b.1<b.2))
   ((0<=(1:Int))/\
   ∃E:f7,(s.ptr=dB E/\0<=m/\m<((s.len:Nat):Int))/\
   ∃q:bI,aq W (E.add (m.toNat*8)) 0 (bT q)/\
   ∃r:f7,(s.ptr=dB r/\0<=(qc xx (qX (qc xA (qc xx (b.1+b.2))) (2^min (1:Int).toNat (qk xA))))/\(qc xx (qX (qc xA (qc xx (b.1+b.2))) (2^min (1:Int).toNat (qk xA))))<((s.len:Nat):Int))/\
   ∃U:bI,aq W (r.add ((qc xx (qX (qc xA (qc xx (b.1+b.2))) (2^min (1:Int).toNat (qk xA)))).toNat*8)) 0 (bT U)/\
   gY C 169 ((#[]:Array Value).toList++[recv q,recv U]++(#[]:Array Value).toList) (.one (.sc (.int .i64))) W λab h7=>
   (az.ok [] h7)/\
   Br (!(decide (ab<(0:Int))))
   (K3 (qc xx ((qc xx (qX (qc xA (qc xx (b.1+b.2))) (2^min (1:Int).toNat (qk xA))))+(1:Int)),b.2) h7)
   (K3 (b.1,qc xx (qX (qc xA (qc xx (b.1+b.2))) (2^min (1:Int).toNat (qk xA)))) h7))
   (aL (σ:=Int) (λc K4 h8=>
   Br (decide (c>b.1))
   (∃O:f7,(s.ptr=dB O/\0<=(qc xx (c-(1:Int)))/\(qc xx (c-(1:Int)))<((s.len:Nat):Int))/\
   ∃J:bI,aq h8 (O.add ((qc xx (c-(1:Int))).toNat*8)) 0 (bT J)/\
   ∃T:f7,(s.ptr=dB T/\0<=c/\c<((s.len:Nat):Int))/\
   ∃S:bI,aq h8 (T.add (c.toNat*8)) 0 (bT S)/\
   ∃a25:f7,(s.ptr=dB a25/\0<=c/\c<((s.len:Nat):Int))/\
   ag xB (qf 164 (xt (dB (a25.add (c.toNat*8)))) (recv J)) h8 λ_ h9=>
   (az.ok [] h9)/\
   ∃N:f7,(s.ptr=dB N/\0<=(qc xx (c-(1:Int)))/\(qc xx (c-(1:Int)))<((s.len:Nat):Int))/\
   ag xB (qf 164 (xt (dB (N.add ((qc xx (c-(1:Int))).toNat*8)))) (recv S)) h9 λ_ D=>
   (az.ok [] D)/\
   K4 (qc xx (c-(1:Int))) D)
   (K (.tuple #[]) h8)) m W)) (a,m) h:=by
 subst ha;subst hm;refine aA (λt:Nat×Nat=>(((i1 X+t.1:Nat):Int),((i1 X+t.2:Nat):Int))) (λt h'=>t.1<=t.2/\t.2<=i1 L/\(∀k (d:k<i1 L),k<t.1->cC L[k] y=eR)/\(∀k (d:k<i1 L),t.2<=k->¬cC L[k] y=eR)/\aa B h0 h' (cP s (X++(L++(y::Y)))::As)) (λt=>t.2-t.1) (0,i1 L) i4 ⟨jj,jj,λ_ _ h=>m9,λ_ g G=>absurd g q6,H⟩ ?_;rintro⟨i,j⟩ g ⟨ap,hj,Q,o,V⟩;dsimp only at*;refine aj (λe=>?_) (λe=>?_)
 ·have f:i<j:=i5
  rw[JU _ _];have eh:((i1 X+i)+(i1 X+j))/2=i1 X+(i+j)/2:=i5
  rw[eh];have d:(i+j)/2<i1 L:=i5
  refine⟨i6,kK V (i1 X+i1 L) i4 (x:=y) ?_ (kK V _ i4 (x:=L[(i+j)/2]) ?_ (fd ld ?_))⟩
  ·rw[qj i5,show X.length+i1 L-i1 X=i1 L by omega,qj (qm _),zc];rfl
  ·rw[qj i5,show X.length+(i+j)/2-i1 X=(i+j)/2 by omega,qo d,qd d]
  refine(rU y L[(i+j)/2] g).mono ?_;rintro _ G ⟨rfl,R2⟩;have H2:=V.up R2.ai;refine⟨_,i4,trivial,?_⟩;by_cases e2:mD y L[(i+j)/2]<0
  ·have am:=(th _ _).1 e2;refine bo (λI=>absurd I ns) λ_=>?_;refine⟨(i,(i+j)/2),i4,⟨i7,i7,Q,λk p ad=>?_,H2⟩,i7⟩;intro hc;exact am (dY.trans _ _ _ (F.at_ dY (i:=(i+j)/2) (j:=k) (by dsimp only at ad;omega) p) hc)
  ·refine bo (λ_=>?_) λI=>absurd I ns;refine⟨((i+j)/2+1,j),js,⟨i7,hj,λk p ao=>?_,o,H2⟩,i7⟩;exact dY.trans _ _ _ (F.at_ dY (by dsimp only at ao;omega) d) (Db e2)
 ·have f:i=j:=i5
  subst f;have hM:Sd cC (L.take i++y::L.drop i):=by
   refine Sd.app dY (Sd.left (v:=L.drop i) (by rw[qE];exact F)) (zF.2 ⟨λz A=>?_,Sd.right (u:=L.take i) (by rw[qE];exact F)⟩) λz A w P=>?_
   ·obtain⟨k,d,rfl⟩:=qK A;rw[wi];exact dY.Hv (o _ l9 i5)
   ·obtain⟨k,d,rfl⟩:=qK A;rw[yh];have ah:k<i:=l9
    have g:=Q k l9 ah;rcases zb.1 P with rfl|P
    ·exact g
    ·obtain⟨l,hl,rfl⟩:=qK P;rw[wi];exact F.at_ dY i5 (by simp at hl;omega)
  have hE:cG cC (L++[y]) (L.take i++y::L.drop i):=by
   have g:cG cC (L.drop i++[y]) ([y]++L.drop i):=cG.rot dY λz A w P=>by
    rw[qC.1 P];obtain⟨k,d,rfl⟩:=qK A;rw[wi];exact o _ l9 i5
   have G:=(cG.refl (le:=cC) (L.take i)).app g;have e1:L.take i++(L.drop i++[y])=L++[y]:=by rw[<-qp,qE]
   rw[e1]at G;exact G
  refine aA (λt:Nat=>((i1 X+t:Nat):Int)) (λt h'=>i<=t/\t<=i1 L/\aa B h0 h' (cP s (X++(L.take t++(y::(L.drop t++Y))))::As)) (λt=>t-i) L.length i4 ⟨i5,i5,by simpa using V⟩ ?_;rintro t h3 ⟨ht,ax,Z⟩;refine aj (λe2=>?_) (λe2=>?_)
  ·obtain⟨u,rfl⟩:∃u,t=u+1:=⟨t-1,i5⟩
   have R:u<i1 L:=i5
   have n:X++(L.take (u+1)++(y::(L.drop (u+1)++Y)))=(X++L.take u)++L[u]::([]++y::(L.drop (u+1)++Y)):=by rw[aK L u R];simp only[qp,zx,wy]
   obtain⟨q1,q2,q3,q4⟩:=Uy (X++L.take u) [] (L.drop (u+1)++Y) L[u] y (i:=i1 X+u) (j:=i1 X+(u+1)) i9 i9;rw[<-n]at q1 q2 q3 q4;have ek:qc xx (((i1 X+(u+1):Nat):Int)-1)=((i1 X+u:Nat):Int):=j4
   rw[ek];refine kK Z _ i4 q1 (kK Z _ i4 q2 ?_);refine Z.set af 0 i4 (λ_=>rfl) i4 (i1 X+(u+1)) i4 (qn.1 q2).1 L[u] i4 i4 i4 λh4 H4=>⟨trivial,?_⟩
   refine H4.set af 0 i4 (λ_=>rfl) i4 (i1 X+u) i4 (by rw[zh];exact(qn.1 q1).1) y i4 i4 i4 λh5 H5=>⟨trivial,?_⟩
   refine⟨u,i4,⟨i5,i5,?_⟩,i5⟩;have I:X++(L.take u++(y::(L.drop u++Y)))=(X++L.take u)++y::([]++L[u]::(L.drop (u+1)++Y)):=by rw[qP R];simp only[qp,zx,wy]
   rw[I,<-q4];exact H5
  ·have:t=i:=i5
   subst this;refine d h3 ⟨L.take t++y::L.drop t,hM,hE,?_⟩;have:X++((L.take t++y::L.drop t)++Y)=X++(L.take t++(y::(L.drop t++Y))):=jj
   rw[this];exact Z
end
end Go.Qw
namespace Wl
open Go Go.Vc
theorem ach{L R:List bI}(k:Sd cC L)(l:Sd cC R)(p q:Nat)(s:p<=i1 L)(r:q<=i1 R)
  (n:∀i j (b:i<i1 L) (a:j<i1 R),i+1=p->j=q->cC L[i] R[j]=eR)
  (m:∀i j (b:i<i1 L) (a:j<i1 R),i=p->j+1=q->¬cC L[i] R[j]=eR):
  (∀x∈L.take p,∀y∈R.drop q,cC x y=eR)/\(∀x∈L.drop p,∀y∈R.take q,¬cC x y=eR):=by
 constructor
 ·intro x g y f;obtain⟨i,b,rfl⟩:=qK g;obtain⟨j,a,rfl⟩:=qK f;rw[yh,wi];have d:i<p:=by simp at b;omega
  have c:q+j<i1 R:=by simp at a;omega
  have e:=k.at_ dY (i:=i) (j:=p-1) i5 i5;have o:=n (p-1) q i5 i5 i5 i4;have h3:=l.at_ dY (i:=q) (j:=q+j) i5 c;exact dY.trans _ _ _ e (dY.trans _ _ _ o h3)
 ·intro x g y f h;obtain⟨i,b,rfl⟩:=qK g;obtain⟨j,a,rfl⟩:=qK f;rw[yh,wi]at h;have c:j<q:=by simp at a;omega
  have d:p+i<i1 L:=by simp at b;omega
  have e:=k.at_ dY (i:=p) (j:=p+i) i5 d;have h3:=l.at_ dY (i:=j) (j:=q-1) i5 i5;exact m p (q-1) i5 i5 i4 i5 (dY.trans _ _ _ e (dY.trans _ _ _ h h3))
end Wl
namespace Go.Qw
open Go Go.Vc Go.Proofs Wl
theorem GD:∀(N:Nat) {B:aC} {h0 h:f9} {As:List HP} {s:Sl} (X L R Y:List bI) (a m b:Int),0<i1 L->0<i1 R->i1 L+i1 R<=N->a=(i1 X:Int)->m=(i1 X+i1 L:Nat)->b=(i1 X+i1 L+i1 R:Nat)->i1 X+i1 L+i1 R+i1 Y<=2^40->Sd cC L->Sd cC R->
  aa B h0 h (cP s (X++(L++(R++Y)))::As)->
  ac xB 299 #[s,xq xx a,xq xx m,xq xx b,.func (.func 169) #[] #[]] h λv h'=>v=.tuple #[]/\∃M,Sd cC M/\cG cC (L++R) M/\aa B h0 h' (cP s (X++(M++Y))::As):=by
 intro N
 induction N with
 |zero=>intro B h0 h As s X L R Y a m b hL hR hN;omega
 |succ N ih=>
  intro B h0 h As s X L R Y a m b hL hR hN ha hm hb W U V H;refine nk s a m b (169,#[],#[]) ?_;unfold jv;have e1:qc xx (m-a)=(i1 L:Int):=j4
  have e2:qc xx (b-m)=(i1 R:Int):=j4
  rw[e1,e2];refine ck (λc=>?_) λc=>ck (λc2=>?_) λc2=>?_
  ·obtain⟨x,hx⟩:∃x,L=[x]:=by
    match L,hL,c with
    |[x],_,_=>exact⟨x,i4⟩
    |x::y::L,_,c=>simp at c;omega
   subst hx;exact PS (K:=λv h'=>v=.tuple #[]/\∃M,Sd cC M/\cG cC ([x]++R) M/\aa B h0 h' (cP s (X++(M++Y))::As)) x X R Y (by simp at W⊢;omega) V H (λh' ⟨M,T,P,q3⟩=>⟨i4,M,T,P,q3⟩) a m b ha (by rw[hm];simp) (by rw[hb];simp)
  ·obtain⟨y,hy⟩:∃y,R=[y]:=by
    match R,hR,c2 with
    |[x],_,_=>exact⟨x,i4⟩
    |x::y::L,_,c=>simp at c;omega
   subst hy;exact NR (K:=λv h'=>v=.tuple #[]/\∃M,Sd cC M/\cG cC (L++[y]) M/\aa B h0 h' (cP s (X++(M++Y))::As)) y X L Y (by simp at W⊢;omega) U H (λh' ⟨M,T,P,q3⟩=>⟨i4,M,T,P,q3⟩) a m ha hm
  ·refine⟨i6,?_⟩;subst ha;subst hm;subst hb;have c':i1 L≠1:=λE=>c i5;have bl:i1 R≠1:=λE=>c2 i5;rw[JU X.length (i1 X+i1 L+i1 R)];obtain⟨FR,am⟩:∃FR,FR=(i1 X+(i1 X+i1 L+i1 R))/2:=⟨_,rfl⟩
   rw[<-am];have en:qc xx ((FR:Int)+((i1 X+i1 L:Nat):Int))=((FR+(i1 X+i1 L):Nat):Int):=j4
   rw[en];obtain⟨n,hn⟩:∃n,n=FR+(i1 X+i1 L):=⟨_,rfl⟩
   rw[<-hn];have ep:qc xx ((n:Int)-1)=((n-1:Nat):Int):=j4
   rw[ep];obtain⟨D,hD⟩:∃D,D=X++(L++(R++Y)):=⟨_,rfl⟩
   have gL:∀i (f:i<i1 L),D[i1 X+i]?=dB L[i]:=λi f=>by
    rw[hD,qj i5,zr,qo f,qd f]
   have gR:∀i (f:i<i1 R),D[i1 X+i1 L+i]?=dB R[i]:=λi f=>by
    rw[hD,qj i5,show X.length+i1 L+i-i1 X=i1 L+i by omega,qj i5,zr,qo f,qd f]
   rw[<-hD]at H;refine bP (λ(g:Int×Int) h'=>h'=h/\∃o f:Nat,g=((o:Int),(f:Int))/\o<=f/\X.length<=o/\f<=i1 X+i1 L/\f<=FR/\n<=o+(i1 X+i1 L+i1 R)/\(o=i1 X∨n=o+(i1 X+i1 L+i1 R))/\(f=i1 X+i1 L∨f=FR)) ?_ ?_
   ·refine aj (λe=>⟨i4,n-(i1 X+i1 L+i1 R),FR,?_,i5,i5,i5,i5,i5,i5,i5⟩) λe=>⟨i4,i1 X,i1 X+i1 L,i4,i5,i5,i5,i5,i5,i5,i5⟩
    have:qc xx ((n:Int)-((i1 X+i1 L+i1 R:Nat):Int))=((n-(i1 X+i1 L+i1 R):Nat):Int):=j4
    rw[this]
   ·rintro⟨bq,br⟩ _ ⟨rfl,o,f,a6,b1,b2,b3,b4,b5,b6,b7⟩;injection a6 with est1 est2
    subst est1;subst est2;dsimp only;refine aA (λt:Nat×Nat=>((t.1:Int),(t.2:Int))) (λt h'=>o<=t.1/\t.1<=t.2/\t.2<=f/\
     (∀i j (l:i<i1 L) (Z:j<i1 R),i1 X+i+1=t.1->i1 X+i+(i1 X+i1 L+j)=n-1->o<t.1->cC L[i] R[j]=eR)/\
     (∀i j (l:i<i1 L) (Z:j<i1 R),i1 X+i=t.2->i1 X+i+(i1 X+i1 L+j)=n-1->t.2<f->¬cC L[i] R[j]=eR)/\
     aa B h0 h' (cP s D::As)) (λt=>t.2-t.1) (o,f) i4 ⟨jj,by simpa using b1,jj,λ_ _ _ _ _ _ F=>absurd F jj,λ_ _ _ _ _ _ F=>absurd F jj,H⟩ ?_
    rintro⟨g,r⟩ h1 ⟨t1,t2,t3,F1,F2,H1⟩;dsimp only at*;refine aj (λe=>?_) (λe=>?_)
    ·have F:g<r:=i5
     rw[JU _ _];obtain⟨I,bb⟩:∃I,I=(g+r)/2:=⟨_,rfl⟩
     rw[<-bb];have ay:qc xx (((n-1:Nat):Int)-(I:Int))=((n-1-I:Nat):Int):=j4
     rw[ay];obtain⟨i,l⟩:∃i,I=i1 X+i:=⟨I-i1 X,i5⟩
     obtain⟨j,ar⟩:∃j,n-1-I=i1 X+i1 L+j:=⟨n-1-I-(i1 X+i1 L),i5⟩
     have a5:i<i1 L:=i5
     have bk:j<i1 R:=i5
     rw[ar,l];refine⟨i6,kK H1 _ i4 (gR j bk) (kK H1 _ i4 (gL i a5) (fd ld ?_))⟩;refine(rU R[j] L[i] h1).mono ?_;rintro _ h2 ⟨rfl,R2⟩;have G:=H1.up R2.ai;refine⟨_,i4,trivial,?_⟩;by_cases e2:mD R[j] L[i]<0
     ·have a8:=(th _ _).1 e2;refine bo (λe3=>absurd e3 ns) λ_=>?_;refine⟨(g,i1 X+i),i4,⟨t1,i7,i7,F1,λi2 j2 a7 a1 z A _=>?_,G⟩,i7⟩;dsimp only at z;have:i2=i:=i5
      subst this;have:j2=j:=i5
      subst this;exact a8
     ·refine bo (λ_=>?_) λe3=>absurd e3 ns;refine⟨(i1 X+i+1,r),js,⟨i7,i7,t3,λi2 j2 a7 a1 z A _=>?_,F2,G⟩,i7⟩;dsimp only at z;have:i2=i:=i5
      subst this;have:j2=j:=i5
      subst this;exact Db e2
    ·have ax:g=r:=i5
     subst ax;have a0:qc xx ((n:Int)-(g:Int))=((n-g:Nat):Int):=j4
     rw[a0];obtain⟨p,hp⟩:∃p,g=i1 X+p:=⟨g-i1 X,i5⟩
     obtain⟨q,hq⟩:∃q,n-g=i1 X+i1 L+q:=⟨n-g-(i1 X+i1 L),i5⟩
     have a3:p<=i1 L:=i5
     have ao:q<=i1 R:=i5
     obtain⟨a2,ap⟩:=ach U V p q a3 ao (λi j l Z z A=>F1 i j l Z i5 i5 (by
      by_cases a4:o<g
      ·exact a4
      ·exfalso;have:g=o:=i5
       omega)) (λi j l Z z A=>F2 i j l Z i5 i5 (by
      by_cases bd:g<f
      ·exact bd
      ·exfalso;have:g=f:=i5
       omega))
     have eL:L.take p++L.drop p=L:=qE _ _;have S:R.take q++R.drop q=R:=qE _ _;have l1:i1 (L.take p)=p:=i9
     have l2:i1 (L.drop p)=i1 L-p:=jj
     have r1:i1 (R.take q)=q:=i9
     have r2:i1 (R.drop q)=i1 R-q:=jj
     have ah:Sd cC (L.take p):=Sd.left (v:=L.drop p) (by rw[eL];exact U);have ab:Sd cC (L.drop p):=Sd.right (u:=L.take p) (by rw[eL];exact U);have ad:Sd cC (R.take q):=Sd.left (v:=R.drop q) (by rw[S];exact V);have Q:Sd cC (R.drop q):=Sd.right (u:=R.take q) (by rw[S];exact V);rw[hq,hp];refine bP (λ_ h'=>aa B h0 h' (cP s (X++(L.take p++(R.take q++(L.drop p++(R.drop q++Y)))))::As)) ?_ ?_
     ·have w:aa B h0 h1 (cP s ((X++L.take p)++(L.drop p++(R.take q++(R.drop q++Y))))::As):=by
       have:(X++L.take p)++(L.drop p++(R.take q++(R.drop q++Y)))=D:=by
        rw[hD]
        conv=>rhs;rw[<-eL,<-S]
        simp only[qp,zx,wy]
       rw[this];exact H1
      refine aj (λz=>aj (λA=>?_) λA=>?_) λz=>?_
      ·refine(WK (X++L.take p) (L.drop p) (R.take q) (R.drop q++Y) _ _ _ i5 i5 i9 i9 i9 i9 w).mono ?_;rintro _ h2 ⟨rfl,G⟩;refine⟨(),i4,?_⟩;rw[qp]at G;exact G
      ·have:R.take q=[]:=za i5;rw[this]at w⊢;simpa using w
      ·have:L.drop p=[]:=za i5;rw[this]at w⊢;simpa using w
     ·rintro _ h2 G;refine bP (λ_ h'=>∃k,Sd cC k/\cG cC (L.take p++R.take q) k/\k.length=p+q/\aa B h0 h' (cP s (X++(k++(L.drop p++(R.drop q++Y))))::As)) ?_ ?_
      ·have d:(L.take p=[]∨R.take q=[])->∃k,Sd cC k/\cG cC (L.take p++R.take q) k/\k.length=p+q/\aa B h0 h2 (cP s (X++(k++(L.drop p++(R.drop q++Y))))::As):=λJ=>by
        refine⟨L.take p++R.take q,?_,cG.refl _,i9,by rw[qp];exact G⟩;rcases J with E|E
        ·rw[E];exact ad
        ·rw[E,qN];exact ah
       refine aj (λz=>aj (λA=>?_) λA=>d (.inr (za i5))) λz=>d (.inl (za i5));refine(ih X (L.take p) (R.take q) (L.drop p++(R.drop q++Y)) _ _ _ i5 i5 i5 i4 (by rw[l1]) (by rw[l1,r1];omega) i9 ah ad G).mono ?_;rintro _ h3 ⟨rfl,k,T,P,q3⟩;refine⟨(),i4,k,T,P,?_,q3⟩;have O:=yx dY P;rw[<-O];simp;omega
      ·rintro _ h3 ⟨k,m1,m2,m3,H3⟩;have fin:∀{h':f9} {M2:List bI},Sd cC M2->cG cC (L.drop p++R.drop q) M2->aa B h0 h' (cP s (X++(k++(M2++Y)))::As)->(Value.tuple #[]=.tuple #[]/\∃M,Sd cC M/\cG cC (L++R) M/\aa B h0 h' (cP s (X++(M++Y))::As)):=λ{h' M2} k1 k2 k3=>by
        obtain⟨f1,f2⟩:=abs dY (by rw[eL];exact U) (by rw[S];exact V) a2 ap m2 m1 k2 k1;rw[eL,S]at f2;exact⟨i4,k++M2,f1,f2,by rw[qp];exact k3⟩
       have d:(L.drop p=[]∨R.drop q=[])->(Value.tuple #[]=.tuple #[]/\∃M,Sd cC M/\cG cC (L++R) M/\aa B h0 h3 (cP s (X++(M++Y))::As)):=λJ=>by
        refine fin (M2:=L.drop p++R.drop q) ?_ (cG.refl _) (by rw[qp];exact H3);rcases J with E|E
        ·rw[E];exact Q
        ·rw[E,qN];exact ab
       refine aj (λz=>aj (λA=>?_) λA=>d (.inr (za i5))) λz=>d (.inl (za i5));have a9:aa B h0 h3 (cP s ((X++k)++(L.drop p++(R.drop q++Y)))::As):=by rw[qp];exact H3
       refine(ih (X++k) (L.drop p) (R.drop q) Y _ _ _ i5 i5 i5 i9 i9 i9 i9 ab Q a9).mono ?_;rintro _ h4 ⟨rfl,M2,k1,k2,k3⟩;refine⟨(),i4,fin k1 k2 (by rw[qp]at k3;exact k3)⟩
end Go.Qw
namespace Wl
open Go Go.Vc
def Bs(k:Nat)(l:List bI):Prop:=∀q,Sd cC ((l.drop (q*k)).take k)
theorem Bs.nil(k:Nat):Bs k []:=λq=>by simp[Sd]
theorem Bs.first{k:Nat}{l:List bI}(h:Bs k l):Sd cC (l.take k):=by have:=h 0;simpa using this
theorem Bs.rest{k:Nat}{l:List bI}(h:Bs k l):Bs k (l.drop k):=λq=>by
 have:=h (q+1);rw[zH,show k+q*k=(q+1)*k by rw[zT,Nat.add_comm]];exact this
theorem Bs.snoc{k t:Nat}{l M:List bI}(h:Bs k l)(c:i1 l=t*k)(d:Sd cC M)(b:i1 M<=k:=by omega):Bs k (l++M):=λq=>by
 rcases Nat.lt_trichotomy q t with hq|hq|hq
 ·have a:(q+1)*k<=t*k:=zK _ hq;rw[zT]at a;rw[List.drop_append_of_le_length i5,wm l5];exact h q
 ·subst hq;rw[<-c,List.drop_left,qi b];exact d
 ·have a:(t+1)*k<=q*k:=zK _ hq;rw[zT]at a;rw[zf (by rw[qx];omega)];simp[Sd]
theorem Bs.whole{k:Nat}{l:List bI}(h:Bs k l)(a:i1 l<=k):Sd cC l:=by have:=h.first;rw[qi a]at this;exact this
end Wl
namespace Go.Qw
open Go Go.Vc Go.Proofs Wl
section
variable {B:aC} {h0 h h':f9} {As:List HP} {s:Sl} {d:List bI}
theorem WL(d:List bI)(n:Int)(Z:n=i1 d)(hd:i1 d<=2^30)(H:aa B h0 h (cP s d::As)):
  ac xB 239 #[s,xq xx n,.func (.func 169) #[] #[]] h λv h'=>v=.tuple #[]/\aa B h0 h' (cP s (d.mergeSort cC)::As):=by
 subst Z;refine nX s d.length (169,#[],#[]) ?_;unfold jX;refine aA (λP:List bI=>((i1 P:Int),((i1 P+20:Nat):Int))) (λP h'=>i1 P<=i1 d/\(∃t,i1 P=t*20)/\Bs 20 P/\cG cC (d.take P.length) P/\aa B h0 h' (cP s (P++d.drop P.length)::As)) (λP=>i1 d-i1 P) [] i4 ⟨jj,⟨0,jj⟩,Bs.nil _,by simpa using cG.refl _,l7⟩ ?_;rintro P X ⟨hP,⟨t,J⟩,R,U,F⟩;dsimp only;refine aj (λe=>?_) (λe=>?_)
 ·have am:i1 P+20<=i1 d:=i5
  have eY:(d.drop P.length).take 20++d.drop (i1 P+20)=d.drop P.length:=by rw[<-zH];exact qE _ _
  have V:i1 ((d.drop P.length).take 20)=20:=i9
  rw[<-eY]at F;refine(Ee P ((d.drop P.length).take 20) (d.drop (i1 P+20)) _ _ i4 (by rw[V]) i9 F).mono ?_;rintro _ h2 ⟨rfl,i,p,b,H2⟩;have q:i1 i=20:=by rw[<-yx dY b,V]
  have f:i1 (P++i)=i1 P+20:=by rw[qx,q]
  refine⟨(),i4,P++i,?_,⟨i5,⟨t+1,by rw[f,J,zT]⟩,R.snoc J p,?_,?_⟩,i5⟩
  ·rw[f,ak _];congr 1
  ·rw[f];have:d.take (i1 P+20)=d.take P.length++(d.drop P.length).take 20:=by rw[List.take_add]
   rw[this];exact U.app b
  ·rw[f,qp];exact H2
 ·have E:aa B h0 X (cP s (P++(d.drop P.length++[]))::As):=by rw[qN];exact F
  refine(Ee P (d.drop P.length) [] _ _ i4 l5 i9 E).mono ?_;rintro _ h3 ⟨rfl,i,p,b,W⟩;have q:i1 i=i1 d-i1 P:=by rw[<-yx dY b,ze]
  have N:Bs 20 (P++i):=R.snoc J p;have c:cG cC d (P++i):=by have:=U.app b;rw[qE]at this;exact this
  refine⟨(),i4,?_⟩;refine aA (λt:Nat×List bI=>(t.1:Int)) (λt h'=>0<t.1/\t.1<=2^32/\t.2.length=i1 d/\Bs t.1 t.2/\cG cC d t.2/\aa B h0 h' (cP s t.2::As)) (λt=>2^32-t.1) (20,P++i) i4 ⟨i7,i7,by dsimp only;rw[qx];omega,N,c,by rw[qN]at W;exact W⟩ ?_;rintro⟨k,l⟩ h4 ⟨ao,hk,hl,T,w,G⟩;dsimp only at*;refine aj (λe2=>?_) (λe2=>?_)
  ·have ad:k<i1 d:=i5
   have I:qc xx ((2:Int)*k)=((2*k:Nat):Int):=j4
   have O:qc xx ((k:Int)*2)=((2*k:Nat):Int):=j4
   rw[I];have next:∀{h':f9} (l':List bI),i1 l'=i1 d->Bs (2*k) l'->cG cC l l'->aa B h0 h' (cP s l'::As)->∃g:Nat×List bI,qc xx ((k:Int)*2)=(g.1:Int)/\(0<g.1/\g.1<=2^32/\g.2.length=i1 d/\Bs g.1 g.2/\cG cC d g.2/\aa B h0 h' (cP s g.2::As))/\2^32-g.1<2^32-k:=λ{h'} l' q1 q2 q3 q4=>
    ⟨(2*k,l'),O,⟨i7,i7,q1,q2,w.trans q3,q4⟩,i7⟩
   refine aA (λt:List bI×List bI=>((i1 t.1:Int),((i1 t.1+2*k:Nat):Int))) (λt h'=>(∃u,i1 t.1=u*(2*k))/\t.1.length+i1 t.2=i1 d/\Bs (2*k) t.1/\Bs k t.2/\cG cC l (t.1++t.2)/\aa B h0 h' (cP s (t.1++t.2)::As)) (λt=>i1 t.2) ([],l) (by dsimp only;rw[yX,Nat.zero_add];rfl) ⟨⟨0,jj⟩,by simpa using hl,Bs.nil _,T,by simpa using cG.refl _,q6⟩ ?_;rintro⟨P,Q⟩ S ⟨⟨u,A⟩,ab,j,a,c,K⟩;dsimp only at*;have L:qc xx ((i1 P:Int)+k)=((i1 P+k:Nat):Int):=j4
   rw[L];have eQ:Q.take k++Q.drop k=Q:=qE _ _;refine aj (λe3=>?_) (λe3=>aj (λe4=>?_) λe4=>?_)
   ·have ap:2*k<=i1 Q:=i5
    have y:Q.take k++((Q.drop k).take k++Q.drop (2*k))=Q:=by
     have:Q.drop (2*k)=(Q.drop k).drop k:=by rw[zH];congr 1;omega
     rw[this,qE,eQ]
    have l1:i1 (Q.take k)=k:=i9
    have l2:i1 ((Q.drop k).take k)=k:=i9
    have o:aa B h0 S (cP s (P++(Q.take k++((Q.drop k).take k++Q.drop (2*k))))::As):=by rw[y];exact K
    refine(GD _ P (Q.take k) ((Q.drop k).take k) (Q.drop (2*k)) _ _ _ i5 i5 (qm _) i4 (by rw[l1]) (by rw[l1,l2];omega) i9 a.first a.rest.first o).mono ?_;rintro _ h6 ⟨rfl,M,p,b,z⟩;have r:i1 M=2*k:=by rw[<-yx dY b,qx,l1,l2];omega
    have m:i1 (P++M)=i1 P+2*k:=by rw[qx,r]
    refine⟨(),i4,(P++M,Q.drop (2*k)),?_,⟨⟨u+1,by dsimp only;rw[m,A];exact(zT u (2*k)).symm⟩,by dsimp only;rw[m,ze];omega,j.snoc A p,?_,?_,?_⟩,by dsimp only;rw[ze];omega⟩
    ·dsimp only;rw[m,ak _];congr 1
    ·dsimp only;have:Q.drop (2*k)=(Q.drop k).drop k:=by rw[zH];congr 1;omega
     rw[this];exact a.rest.rest
    ·dsimp only;refine c.trans ?_
     conv=>arg 2;rw[<-y]
     rw[qp];have:=(cG.refl (le:=cC) P).app (b.app (cG.refl (le:=cC) (Q.drop (2*k))));rw[qp]at this;exact this
    ·dsimp only;rw[qp];exact z
   ·have x:k<i1 Q:=i5
    have ah:i1 Q<2*k:=i5
    have l1:i1 (Q.take k)=k:=i9
    have l2:i1 (Q.drop k)=i1 Q-k:=jj
    have D:Sd cC (Q.drop k):=by have:=a.rest.first;rw[qi i5]at this;exact this
    have o:aa B h0 S (cP s (P++(Q.take k++(Q.drop k++[])))::As):=by rw[qN,eQ];exact K
    refine(GD _ P (Q.take k) (Q.drop k) [] _ _ _ i5 i5 (qm _) i4 (by rw[l1]) (by rw[l1,l2];omega) i9 a.first D o).mono ?_;rintro _ h6 ⟨rfl,M,p,b,z⟩;have r:i1 M=i1 Q:=by rw[<-yx dY b,eQ]
    rw[eQ]at b;rw[qN]at z;exact⟨(),i4,next (P++M) (by rw[qx];omega) (j.snoc A p) (c.trans ((cG.refl _).app b)) z⟩
   ·have x:i1 Q<=k:=i5
    exact next (P++Q) (by rw[qx];omega) (j.snoc A (a.whole x)) c K
  ·have Y:Sd cC l:=T.whole i5;rw[agq dY Y w]at G;exact⟨i4,G⟩
theorem NS(d:List bI)(b:i1 d<=2^30)(H:aa B h0 h (cP s d::As)):
  ac xB 168 #[s,.func (.func 169) #[] #[]] h λv h'=>v=.tuple #[]/\aa B h0 h' (cP s (d.mergeSort cC)::As):=by
 refine kD s (169,#[],#[]) ?_;unfold gw;refine(WL d _ (by rw[(H.own 0 i4).len]) b H).mono ?_;rintro _ c ⟨rfl,a⟩;exact⟨(),i4,i4,a⟩
def kC:bI:=(0,0,0,0,0,0,0,⟨eH,0,0⟩)
end
end Go.Qw
namespace Wl
open Go Go.Vc Go.Qw
def kX(l:List bI)(k:Nat):Bool:=decide (k=0)||decide (mD (l.getD k kC) (l.getD (k-1) kC)≠0)
def kY(l:List bI)(k:Nat):List bI:=((qA k).filter (kX l)).map λi=>l.getD i kC
def cpt(l:List bI):List bI:=kY l l.length
theorem od(l:List bI)(k:Nat):kY l (k+1)=kY l k++if kX l k then[l.getD k kC]else[]:=by unfold kY;rw[zV,zl,qW,zp,vh];split<;>rfl
end Wl
namespace Go.Qw
open Go Go.Vc Go.Proofs Wl
section
variable {B:aC} {h0 h h':f9} {As:List HP} {s:Sl} {d:List bI}
theorem NT(a b:bI)(h:f9):ac xB 171 #[recv a,recv b] h λv h'=>v=xv (decide (mD a b=0))/\Sp h h' []:=by refine Ik a b ?_;unfold AQ;refine(Sp.refl h).boxed λe j i=>i.boxed λg d c=>?_;have c:Sp h d [au e 164 (bT a),au g 164 (bT b)]:=c;refine⟨a,(c.box 0 i4).aV _ i4,b,(c.box 1 i4).aV _ i4,(rU a b d).mono ?_⟩;rintro _ h3 ⟨rfl,f⟩;refine⟨_,i4,?_,.zip (aa.up c f.ai).ai⟩;congr 1
theorem LU(l:List bI)(hd:i1 l<=2^30)(H:aa B h0 h (cP s l::As)):
  ac xB 170 #[s,.func (.func 171) #[] #[]] h λv h'=>∃r:Sl,v=r/\aa B h0 h' (cP r (cpt l)::As):=by
 refine lC s (171,#[],#[]) ?_;unfold gV;have am:=(H.own 0 i4).len;have G:=(H.own 0 i4).cap;have m:(∀j,j<i1 l->kX l j=eR)->cpt l=l:=λF=>by
  have:∀k,k<=i1 l->kY l k=l.take k:=λk=>by
   induction k with
   |zero=>simp[kY]
   |succ k ih=>
    intro Q;rw[od,ih i5,g0 (F k i5),aK l k,getD_lt (show k<i1 l by omega)]
  unfold cpt;rw[this _ (qm _),q9]
 refine aj (λe=>⟨s,i4,?_⟩) (λe=>?_)
 ·rw[m λj n=>by unfold kX;rw[hU (show j=0 by omega)];rfl];exact H
 refine aA (λi:Nat=>(i:Int)) (λi h'=>1<=i/\i<=i1 l/\(∀j,j<i->kX l j=eR)/\aa B h0 h' (cP s l::As)) (λi=>i1 l-i) 1 i4 ⟨i5,i5,λj n=>by unfold kX;rw[hU (show j=0 by omega)];rfl,H⟩ ?_;rintro i h1 ⟨ao,hi,F,I⟩;refine aj (λU=>?_) (λU=>?_)
 ·have E:i<i1 l:=by have e':(i:Int)<(s.len:Int):=U;omega
  have ei:qc xx ((i:Int)-1)=((i-1:Nat):Int):=j4
  rw[ei];refine kK I i i4 (x:=l.getD i kC) (by rw[getD_lt E,qd E]) (kK I (i-1) i4 (x:=l.getD (i-1) kC) (by rw[getD_lt (show i-1<i1 l by omega),qd]) (fd ld ?_));refine(NT _ _ h1).mono ?_;rintro _ h2 ⟨rfl,R2⟩;have V:=I.up R2.ai;refine⟨_,i4,trivial,bx (λe2=>?_) λe2=>?_⟩
  ·have p:kX l i=eS:=by unfold kX;rw[ii (show¬i=0 by omega)];simpa using e2
   have o:kY l i=l.take i:=by
    have:∀k,k<=i->kY l k=l.take k:=λk=>by
     induction k with
     |zero=>simp[kY]
     |succ k ih=>
      intro Q;rw[od,ih i5,g0 (F k i5),aK l k,getD_lt (show k<i1 l by omega)]
    exact this i (qm _)
   refine⟨⟨i5,i5⟩,?_⟩;rw[ql];refine aA (λt:Nat×List bI=>((i1 (kY l (i+t.1)):Int),(t.1:Int))) (λt h'=>1<=t.1/\i+t.1<=i1 l/\t.2.length=i1 l/\(kY l (i+t.1)).length+1<=i+t.1/\t.2.take (kY l (i+t.1)).length=kY l (i+t.1)/\(∀j,i+t.1-1<=j->t.2[j]?=l[j]?)/\aa B h0 h' (cP s t.2::As)) (λt=>i1 l-t.1) (1,l) ?_ ⟨jj,i7,i4,?_,?_,λ_ _=>rfl,V⟩ ?_
   ·dsimp only;rw[od,p,o];simp;omega
   ·dsimp only;rw[od,p,o];simp;omega
   ·dsimp only;rw[od,p,o];simp
   rintro⟨k,D⟩ h3 ⟨ah,ab,y,T,d,u,J⟩;dsimp only at*;obtain⟨c,L⟩:∃c,c=i1 (kY l (i+k)):=⟨_,rfl⟩
   rw[<-L]at T d⊢;have ad:=(J.own 0 i4).len;have w:=(J.seq 0 i4 λ_=>rfl).drop i G;refine aj (λe3=>?_) (λe3=>?_)
   ·have R:i+k<i1 l:=i5
    have ek:qc xx ((k:Int)-1)=((k-1:Nat):Int):=j4
    rw[ek];have X:∀j,k-1<=j->(n:i+j<i1 l)->(D.drop i)[j]?=dB (l.getD (i+j) kC):=λj n z=>by
     rw[List.getElem?_drop,u _ i5,getD_lt z,qd z]
    have gk:=X k i5 R;have M:=X (k-1) i5 i5;obtain⟨W,Z⟩:=qn.1 gk;obtain⟨q1,q2⟩:=qn.1 M;refine Seq.eC (f:=bT) (g:=bT) w k i4 W (l.getD (i+k) kC) (by rw[Z]) ?_;refine Seq.eC (f:=bT) (g:=bT) w (k-1) i4 q1 (l.getD (i+(k-1)) kC) (by rw[q2]) (fd ld ?_);refine(NT _ _ h3).mono ?_;rintro _ h4 ⟨rfl,R4⟩;have O:=J.up R4.ai;have q:kX l (i+k)=!decide (mD (l.getD (i+k) kC) (l.getD (i+(k-1)) kC)=0):=by unfold kX;rw[ii (show¬i+k=0 by omega),show i+k-1=i+(k-1)by omega];simp
    have a:=od l (i+k);rw[q]at a;refine⟨_,i4,trivial,bo (λS=>?_) λS=>?_⟩
    ·rw[S]at a;have b:i1 (kY l (i+(k+1)))=c+1:=by rw[<-wX,a];simp[L]
     have A:=(O.seq 0 i4 λ_=>rfl).drop i G;refine Seq.eC (f:=bT) (g:=bT) A k i4 W (l.getD (i+k) kC) (by rw[Z]) ?_;refine O.set af 0 i4 (λ_=>rfl) i4 c i4 i5 (l.getD (i+k) kC) i4 i4 i4 λh5 H5=>?_;refine⟨(k+1,D.set c (l.getD (i+k) kC)),?_,⟨i7,i7,by dsimp only;rw[zh];exact y,by dsimp only;rw[b];omega,?_,λj n=>?_,H5⟩,i7⟩
     ·dsimp only;rw[b,ak _,ak _];rfl
     ·dsimp only;rw[b,aK _ c (by rw[zh];omega),List.getElem_set_self,List.take_set_of_le (qm _),d,<-wX,a];simp
     ·dsimp only at n⊢;rw[zC i5];exact u j i5
    ·rw[S]at a;have b:i1 (kY l (i+(k+1)))=c:=by rw[<-wX,a];simp[L]
     refine⟨(k+1,D),?_,⟨i7,i7,y,by dsimp only;rw[b];omega,?_,λj n=>u j (by dsimp only at n;omega),O⟩,i7⟩
     ·dsimp only;rw[b,ak _];rfl
     ·dsimp only;rw[b,d,<-wX,a];simp
   ·have P:i+k=i1 l:=i5
    refine⟨⟨i5,i5⟩,?_⟩;rw[ql];refine J.pB af 0 i4 ajj (λ_=>rfl) i4 i6 c i5 λh6 Y=>⟨⟨i5,i5⟩,⟨s.ptr,c,s.cap⟩,i4,?_⟩
    rw[d,P]at Y;exact Y
  ·refine⟨i+1,j0,⟨i5,i5,λj n=>?_,V⟩,i5⟩;by_cases N:j=i
   ·subst N;unfold kX;rw[hU (show mD (l.getD j kC) (l.getD (j-1) kC)≠0 by simpa using e2)];simp
   ·exact F j i5
 ·have K:i=i1 l:=by have e':¬(i:Int)<(s.len:Int):=U;omega
  subst K;rw[m F];exact⟨s,i4,I⟩
end
def fieldsOf(d:Option TypeDesc):List (Bool×TypeId×Nat):=match d with|some (.struct fs)=>fs.toList.map (λf=>(f.name== "_",f.type,f.offset))|_=>[]
theorem acj:fieldsOf (Tryz.prog.underlying 26)=[(eS,3,0),(eS,3,1),(eS,3,2)]:=j3
theorem aeZ:Tryz.prog.stoodInHeld 26=eS:=j3
theorem afa:Tryz.prog.eqGuardType Tryz.prog.depth 26=eS:=j3
theorem UE{P:Program}{t:TypeId}{a b c:TypeId×Nat}(h:fieldsOf (P.underlying t)=[(eS,a.1,a.2),(eS,b.1,b.2),(eS,c.1,c.2)]):
  ∃f g e:Field,P.underlying t=dB (.struct #[f,g,e])/\(f.name≠ "_" /\f.type=a.1/\f.offset=a.2)/\(g.name≠ "_" /\g.type=b.1/\g.offset=b.2)/\(e.name≠ "_" /\e.type=c.1/\e.offset=c.2):=by
 cases hu:P.underlying t with
 |none=>rw[hu]at h;cases h
 |some d=>
  rw[hu]at h;cases d with
  |struct fs=>
   simp only[fieldsOf]at h;obtain⟨l⟩:=fs;have i:i1 l=3:=by simpa using congrArg vX h
   obtain⟨f,r,rfl⟩:=yD i;obtain⟨g,k,rfl⟩:=yD (by simpa using i:i1 r=1+1);obtain⟨e,j,rfl⟩:=yD (by simpa using i:i1 k=0+1);obtain rfl:j=[]:=by simpa using i
   simp at h;exact⟨f,g,e,i4,⟨h.1.1,h.1.2.1,h.1.2.2⟩,⟨h.2.1.1,h.2.1.2.1,h.2.1.2.2⟩,⟨h.2.2.1,h.2.2.2.1,h.2.2.2.2⟩⟩
  |_=>cases h
theorem jM{P:Program}{d:Nat}{t:TypeId}{k:IntKind}(h:∃c,P.underlying t=dB (.int c))(a b:Int):aP P (Op.equalIn (d+1) t (.int k a) (.int k b)) (a==b):=by obtain⟨c,h⟩:=h;unfold Op.equalIn;refine(aW h).bind ?_;simp only[if_true];exact .pure
theorem mX{P:Program}{t:TypeId}{k:IntKind}(h:P.underlying t=dB (.int k)){a:Array Value}{i:Nat}{v:Value}(b:a[i]?=dB v):aP P (part t a i) v:=by unfold part isAgg;refine aP.bind (v:=eS) ((aW h).bind .pure) ?_;simp only[zj,if_false,b];exact .pure
theorem akf(p q:Pm):aP xB (Op.equal 26 (xw #[xq xx p.1,xq xx p.2.1,xq xx p.2.2]) (xw #[xq xx q.1,xq xx q.2.1,xq xx q.2.2])) (decide (p=q)):=by
 obtain⟨f,g,u,B,⟨H,E,D⟩,⟨z,A,F⟩,⟨I,G,u3⟩⟩:=UE (a:=(3,0)) (b:=(3,1)) (c:=(3,2)) acj;have y:∃k,Tryz.prog.underlying 3=dB (.int k):=⟨.i64,j3⟩
 obtain⟨k,d⟩:=y;unfold Op.equal;rw[show Op.maxDepth=9998+1+1 from i4,Op.equalIn];refine(aW B).bind ?_;refine aP.bind (v:=xB) (λw=>rfl) ?_;simp only[aeZ,zj,if_false,List.forIn_toArray,List.forIn_cons,List.forIn_nil,ne_eq,H,z,I,not_false_eq_true,if_true,E,D,A,F,G,u3];obtain⟨a,b,c⟩:=p;obtain⟨h,i,j⟩:=q;dsimp only;have o:aP xB (part 3 #[Value.int xx a,Value.int xx b,Value.int xx c] 0) _:=mX d i4;have n:aP xB (part 3 #[Value.int xx h,Value.int xx i,Value.int xx j] 0) _:=mX d i4;have r:aP xB (part 3 #[Value.int xx a,Value.int xx b,Value.int xx c] 1) _:=mX d i4;have s:aP xB (part 3 #[Value.int xx h,Value.int xx i,Value.int xx j] 1) _:=mX d i4;have x:aP xB (part 3 #[Value.int xx a,Value.int xx b,Value.int xx c] 2) _:=mX d i4;have t:aP xB (part 3 #[Value.int xx h,Value.int xx i,Value.int xx j] 2) _:=mX d i4;by_cases l:a=h
 ·by_cases m:b=i
  ·by_cases h3:c=j
   ·have e:decide ((a,b,c)=(h,i,j))=eR:=by simp[l,m,h3]
    rw[e];refine aP.bind (v:=(eH,())) (aP.bind (v:=ForInStep.yield (eH,())) (o.bind (n.bind ((jM ⟨k,d⟩ a h).bind ?_))) (aP.bind (v:=ForInStep.yield (eH,())) (r.bind (s.bind ((jM ⟨k,d⟩ b i).bind ?_))) (aP.bind (v:=ForInStep.yield (eH,())) (x.bind (t.bind ((jM ⟨k,d⟩ c j).bind ?_))) .pure))) .pure
    ·simp only[l,beq_self_eq_true,yd,zj,if_false];exact .pure
    ·simp only[m,beq_self_eq_true,yd,zj,if_false];exact .pure
    ·simp only[h3,beq_self_eq_true,yd,zj,if_false];exact .pure
   ·have e:decide ((a,b,c)=(h,i,j))=eS:=by simp[h3]
    rw[e];refine aP.bind (v:=(dB eS,())) (aP.bind (v:=ForInStep.yield (eH,())) (o.bind (n.bind ((jM ⟨k,d⟩ a h).bind ?_))) (aP.bind (v:=ForInStep.yield (eH,())) (r.bind (s.bind ((jM ⟨k,d⟩ b i).bind ?_))) (aP.bind (v:=ForInStep.done (dB eS,())) (x.bind (t.bind ((jM ⟨k,d⟩ c j).bind ?_))) .pure))) .pure
    ·simp only[l,beq_self_eq_true,yd,zj,if_false];exact .pure
    ·simp only[m,beq_self_eq_true,yd,zj,if_false];exact .pure
    ·rw[show(c==j)=eS by simpa using h3];simp only[ye,if_true];exact .pure
  ·have e:decide ((a,b,c)=(h,i,j))=eS:=by simp[m]
   rw[e];refine aP.bind (v:=(dB eS,())) (aP.bind (v:=ForInStep.yield (eH,())) (o.bind (n.bind ((jM ⟨k,d⟩ a h).bind ?_))) (aP.bind (v:=ForInStep.done (dB eS,())) (r.bind (s.bind ((jM ⟨k,d⟩ b i).bind ?_))) .pure)) .pure
   ·simp only[l,beq_self_eq_true,yd,zj,if_false];exact .pure
   ·rw[show(b==i)=eS by simpa using m];simp only[ye,if_true];exact .pure
 ·have e:decide ((a,b,c)=(h,i,j))=eS:=by simp[l]
  rw[e];refine aP.bind (v:=(dB eS,())) (aP.bind (v:=ForInStep.done (dB eS,())) (o.bind (n.bind ((jM ⟨k,d⟩ a h).bind ?_))) .pure) .pure;rw[show(a==h)=eS by simpa using l];simp only[ye,if_true];exact .pure
theorem ajm(x y:Operand)(p q:Pm):kN xB .neq 26 x y (xw #[xq xx p.1,xq xx p.2.1,xq xx p.2.2]) (xw #[xq xx q.1,xq xx q.2.1,xq xx q.2.2]) (xv (!decide (p=q))):=by
 unfold kN eqGuard;refine aP.bind (v:=()) ?_ ?_
 ·simp only[yd,zj,if_false];refine aP.bind (v:=xB) (λw=>rfl) ?_;refine aP.bind (v:=xB) (λw=>rfl) ?_;simp only[afa,ye,if_true];exact .pure
 ·exact(akf p q).bind .pure
end Go.Qw
namespace Wl
def afb(P:cw->Bool)(l:List cw)(i:Int):Prop:=(i=-1/\l.any P=eS)∨∃n:Nat,∃h:n<i1 l,i=n/\P l[n]=eR/\(l.take n).any P=eS
theorem UF{P:cw->Bool}{l:List cw}{i:Int}(h:afb P l i):decide (i>=0)=l.any P:=by
 rcases h with⟨rfl,h⟩|⟨n,hn,rfl,h,_⟩
 ·rw[h];rfl
 ·rw[zQ.2 ⟨_,qg hn,h⟩];exact hU i5
end Wl
namespace Go.Qw
open Go Go.Vc Go.Proofs Wl
theorem KO(f:FuncId)(pre post:Array Value)(P:Wl.cw->Bool)(l:Sl)(a:List Wl.cw)(h:f9)(s:C.fns[f]?=dB eR)(o:dV Ae h l a)(D:i1 a<=2^30)
  (p:∀(u:dT) (E:Wl.cw) (h':f9),Sp h h' []->dV jD h' u E->E∈a->ac xB f (pre.toList++[Value.agg #[xu u.1,xq xx u.2.1,xq xx u.2.2.1,u.2.2.2]]++post.toList).toArray h' λv j=>v=xv (P E)/\Sp h' j []):
  ac xB 151 #[l,.func (.func f) pre post] h λv h'=>(∃i:Int,v=xq xx i/\afb P a i)/\Sp h h' []:=by
 refine im l (f,pre,post) ?_;unfold fG;obtain⟨e,x,B,z⟩:=bK.kO o;have w:=bK.len o;refine aA (λi:Nat=>(i:Int)) (λi h'=>i<=i1 a/\(a.take i).any P=eS/\Sp h h' []) (λi=>i1 a-i) 0 i4 ⟨i5,jj,Sp.refl h⟩ ?_;rintro i m ⟨A,b,d⟩;refine aj (λk=>?_) (λk=>?_)
 ·have c:i<i1 a:=by have r:(i:Int)<(l.len:Int):=k;omega
  have t:dV jD m (e[i]'(by omega)) a[i]:=jD.mono (jD.loc (z i i5 c) d.ai) λ_ y=>qR y d.ai.1;refine(Seq.up x d.ai).eC (g:=bH) i i4 i5 (e[i]'(by omega)) i4 (fd s ?_);refine(p (e[i]'(by omega)) a[i] m d t (qg c)).mono ?_;rintro _ F ⟨rfl,q⟩;have n:=d.up q.ai;refine⟨_,i4,bx (λe2=>⟨⟨i,i4,.inr ⟨i,c,i4,e2,b⟩⟩,n⟩) λe2=>?_⟩;refine⟨i+1,j0,⟨i5,?_,n⟩,i5⟩;rw[aK _ _ c,yF,b,List.any_cons,List.any_nil,e2];rfl
 ·have r:¬(i:Int)<(l.len:Int):=k;rw[qi i5]at b;exact⟨⟨-1,i4,.inl ⟨i4,b⟩⟩,d⟩
theorem PT(f:FuncId)(pre post:Array Value)(P:Wl.cw->Bool)(l:Sl)(a:List Wl.cw)(h:f9)(g:C.fns[f]?=dB eR)(k:dV Ae h l a)(j:i1 a<=2^30)
  (e:∀(u:dT) (E:Wl.cw) (h':f9),Sp h h' []->dV jD h' u E->E∈a->ac xB f (pre.toList++[Value.agg #[xu u.1,xq xx u.2.1,xq xx u.2.2.1,u.2.2.2]]++post.toList).toArray h' λv b=>v=xv (P E)/\Sp h' b []):
  ac xB 193 #[l,.func (.func f) pre post] h λv h'=>v=xv (a.any P)/\Sp h h' []:=by
 refine gI l (f,pre,post) ?_;unfold fc;refine(KO f pre post P l a h g k j e).mono ?_;rintro _ m ⟨⟨i,rfl,d⟩,c⟩;exact⟨i,i4,by rw[UF d],c⟩
theorem rX(o b t:Int)(h:f9):ac xB 48 #[xq xx o,xq xx b,xq xx t] h λv h'=>v=xq xz (cI o b t)/\h'=h:=by
 refine RU o b t ?_;unfold Kv;refine⟨?_,i4⟩;have:qc xz ((qc xz ((qc xz ((128:Int)*(qc xz o)))+(qc xz ((16:Int)*(qc xz b)))))+(qc xz t))=cI o b t:=by unfold cI qc;simp[qk,va];omega
 rw[this]
theorem WM(x:bV)(m:aG)(y:bI)(r:dj)(h:f9)(q:dn h x m)(Z:cR m)(M:dV fv h y r):
  ac xB 167 #[fH x,recv y] h λv h'=>v=xv (fg m r)/\Sp h h' []:=by
 refine Nu x y ?_;unfold Gt;refine(Sp.refl h).boxed λJ h1 H1=>H1.boxed λd S e=>?_;have e:Sp h S [au J 29 (aY x),au d 164 (bT y)]:=e;obtain⟨⟨e1,e2,e3,D,e5,e7,e8⟩,e6⟩:=id M;have H:x.2.2.1=m.p.1:=congrArg (·.1) q.p;have F:x.2.2.2.1=m.p.2.1:=congrArg (·.2.1) q.p;have s:x.2.2.2.2.1=m.p.2.2:=congrArg (·.2.2) q.p;have A:y.2.2.2.1=r.p.1:=congrArg (·.1) D;have t:y.2.2.2.2.1=r.p.2.1:=congrArg (·.2.1) D;have I:y.2.2.2.2.2.1=r.p.2.2:=congrArg (·.2.2) D;have ab:=Z.ob;refine bi ⟨y,(e.box 1 i4).aV _ i4,(KM y r S (fv.mono (fv.loc M e.ai) λ_ hb=>qR hb e.ai.1)).mono ?_⟩;rintro _ h3 ⟨rfl,R3⟩;have j:Sp h h3 [au J 29 (aY x),au d 164 (bT y)]:=e.up R3.ai;have K:=j.box 0 i4;have z:=j.box 1 i4;refine⟨_,i4,bo (λg=>⟨by unfold fg;rw[g];rfl,.zip j.ai⟩) λg=>?_⟩;obtain⟨_,g2,_⟩:=(lr r).1 g;refine⟨r.p,by rw[<-A,<-t,<-I];exact z.JS 3 i4 i4 i4,m.p,by rw[<-H,<-F,<-s];exact K.JS 2 i4 i4 i4,_,ajm _ _ r.p m.p,bo (λB=>⟨?_,.zip j.ai⟩) λB=>?_⟩
 ·unfold fg;rw[g,B];rfl
 obtain⟨P,R⟩:∃P:Wl.cw->Bool,P=λx=>decide (x.object=r.object)&&(decide (r.block<(x.tries.length:Int))&&decide (r.seed=cI r.object r.block (x.tries.getD r.block.toNat 0))):=⟨_,rfl⟩
 have w:fg m r=m.aH.any P:=by unfold fg;rw[g,B,R];rfl
 refine⟨x.2.2.2.2.2.2.2,K.cell i4,?_⟩;refine(PT 238 #[] #[xt (dB d)] P x.2.2.2.2.2.2.2 m.aH h3 ld (q.up j.ai).aH i5 λu E T H4 X _=>?_).mono ?_
 ·obtain⟨⟨y1,U,y3⟩,L⟩:=X;have Y:=Seq.len L;have k:=z.ai H4.ai z.lt;refine Ki u d ?_;unfold Ck;refine(Sp.refl T).boxed λa5 b a=>?_;have a:Sp T b [au a5 94 (bH u)]:=a;have O:=a.box 0 i4;have c:=k.ai a.ai k.lt;have o:f8 b (a5.add 1)=dB (xq xx E.object):=by rw[<-U];exact O.cell i4
  have n:f8 b (a5.add 3)=dB (xr u.2.2.2.ptr u.2.2.2.len u.2.2.2.cap):=O.cell i4;have l:f8 b d=dB (xq xx r.object):=by rw[<-e1];exact c.cell0 i4
  have i:f8 b (d.add 1)=dB (xq xx r.block):=by rw[<-e2];exact c.cell i4
  have N:f8 b (d.add 6)=dB (xq xz r.seed):=by rw[<-e5];exact c.cell i4
  rw[R];refine⟨E.object,o,r.object,l,ck (λG=>?_) λG=>⟨⟨l,o,trivial⟩,?_,.zip a.ai⟩⟩
  ·refine⟨u.2.2.2,n,r.block,i,aj (λV=>?_) λV=>⟨⟨i,n,l,o,trivial⟩,?_,.zip a.ai⟩⟩
   ·have Q:r.block.toNat<E.tries.length:=i5
    refine⟨r.seed,N,r.object,l,r.block,i,u.2.2.2,n,r.block,i,?_⟩;refine Seq.bG (f:=av) (Seq.up L a.ai) r.block.toNat i5 Q (E.tries.getD r.block.toNat 0) (by rw[getD_lt Q];rfl) ?_;refine(rX _ _ _ b).mono ?_;rintro _ _ ⟨rfl,rfl⟩;refine⟨_,i4,⟨i,n,N,i,n,l,o,trivial⟩,?_,.zip a.ai⟩;dsimp only;rw[hU G,hU (show r.block<(E.tries.length:Int)by omega),z8,z8];congr 1
   ·dsimp only;rw[ii (show¬r.block<(E.tries.length:Int)by omega)];simp
  ·dsimp only;rw[ii G];rfl
 ·rintro _ b ⟨rfl,W⟩;exact⟨_,i4,by rw[w],.zip (aa.up j W.ai).ai⟩
section
variable {α:Type}
def oZ(k:Nat)(f:α->bh):jp Sl (List α):=⟨λh q s l=>Seq h q s k f l/\s.len<=s.cap,λa c=>⟨a.1.ai c,a.2⟩,λa b=>⟨a.1.mono b,a.2⟩⟩
theorem aa.agU{B:aC}{m h:f9}{As:List HP}{e b k:Nat}{s:Sl}{f:α->bh}{a:List (List α)}(H:aa B m h (dJ e s b k f a::As))(o:∀x,i1 (f x)=k):∃rs,aa B m h (cN (oZ k f) 1 bv s rs a::As):=by
 obtain⟨rs,H⟩:=H.tQ;obtain⟨H,n⟩:=H.Lg;refine⟨rs,H.fZ 0 i4 λq g=>⟨?_,n,λi r l j c=>?_⟩⟩
 ·have:=HP.Ed (i:=0) g i4;exact this.1.seq (λ_=>rfl) this.2
 ·have d:i<i1 a:=(qn.1 c).1;have p:=fX (e:=b) (k:=k) (f:=f) n i d;have:=HP.Ed (i:=i+1) g pa;have t:rs[i]'(by omega)=r:=by rw[qd i5]at j;simpa using j
  have b:a[i]=l:=by rw[qd d]at c;simpa using c
  rw[t,b]at this;exact⟨this.1.seq o this.2,this.1.cap⟩
end
def ua(T:List (bI×dj)):HP:=⟨λh q=>∀t∈T,fv.p h q t.1 t.2,λa d t b=>fv.loc (a t b) d,λa c t b=>fv.mono (a t b) c⟩
end Go.Qw
namespace Wl
open Go Go.Vc Go.Qw
def Keyed(T:List (bI×dj)):Prop:=∀t∈T,t.1.1=t.2.object/\t.1.2.1=t.2.block/\t.1.2.2.1=t.2.id
def Rc(a b:bI×dj):Bool:=sA a.2 b.2
theorem afc{T:List (bI×dj)}(k:Keyed T):∀a∈T,∀b∈T,Rc a b=cC a.1 b.1:=λa h b f=>by
 obtain⟨e,i,a3⟩:=k a h;obtain⟨g,c,d⟩:=k b f;unfold Rc sA cC;rw[decide_eq_decide,Ec,e,i,a3,g,c,d]
theorem ZC{T:List (bI×dj)}(k:Keyed T):(T.mergeSort Rc).map qI=(T.map qI).mergeSort cC/\(T.mergeSort Rc).map zI=(T.map zI).mergeSort sA/\Keyed (T.mergeSort Rc):=
 ⟨vG (afc k),vG λa _ b _=>rfl,λt c=>k t (yO.1 c)⟩
def NU:bI×dj:=(kC,MH)
def Fq(T:List (bI×dj)):List (bI×dj):=((qA T.length).filter (ro (T.map zI))).map λi=>T.getD i NU
theorem getD_map{α β:Type}(f:α->β)(l:List α)(i:Nat)(d:α):(l.map f).getD i (f d)=f (l.getD i d):=by rw[qe,qe,qU];cases l[i]?<;>rfl
theorem ack{T:List (bI×dj)}(k:Keyed T):(Fq T).map qI=cpt (T.map qI)/\(Fq T).map zI=sZ (T.map zI)/\∀t∈Fq T,t∈T:=by
 have r:∀i,i<i1 T->kX (T.map qI) i=ro (T.map zI) i:=λi a=>by
  unfold kX ro;have g:∀j,j<i1 T->(T.map qI).getD j kC=(T[j]?.getD NU).1/\(T.map zI).getD j MH=(T[j]?.getD NU).2:=λj f=>by
   rw[qe,qe,qU,qU,qd f];exact⟨i4,i4⟩
  by_cases h0:i=0
  ·rw[hU h0];rfl
  ·rw[ii h0,vi,vi,(g i a).1,(g i a).2,(g (i-1) i5).1,(g (i-1) i5).2];rw[qd a,qd (show i-1<i1 T by omega)];obtain⟨e,p,a3⟩:=k _ (qg a);obtain⟨l,m,q⟩:=k _ (qg (show i-1<i1 T by omega));unfold oW;simp only[Option.getD_some];have c:=acf T[i].1 (T[i-1]'(by omega)).1;rw[e,p,a3,l,m,q]at c;by_cases b:mD T[i].1 (T[i-1]'(by omega)).1=0
   ·rw[ii λh=>h b,hU (c.1 b)];rfl
   ·rw[hU b,ii λo=>b (c.2 o)];rfl
 have n:(qA T.length).filter (kX (T.map qI))=(qA T.length).filter (ro (T.map zI)):=List.filter_congr λi a=>r i (qG.1 a);refine⟨?_,?_,λt d=>?_⟩
 ·unfold Fq cpt kY;rw[qy,n,w6];congr 1;funext i;exact(getD_map qI T i NU).symm
 ·unfold Fq sZ;rw[qy,w6];congr 1;funext i;exact(getD_map zI T i NU).symm
 ·unfold Fq at d;obtain⟨i,a,rfl⟩:=qu.1 d;have:=qG.1 (qJ.1 a).1;rw[getD_lt this];exact qg this
end Wl
namespace Go.Qw
open Go Go.Vc Go.Proofs Wl
theorem Sn(a pw:f7)(d:bs)(s b:Sl)(x:bV)(m:aG)(h:f9)(H:cx h a 119 (fu pw d s b))(hl:fE h s 1 aF d.l)(ok:gE d)(hx:dn h x m)(hz:cR m):
  ac xB 106 #[xt (dB a),fH x] h λv h'=>∃(r:Sl) (T:List (bI×dj)),v=r/\T.map zI=fy m d.l/\Keyed T/\Sp h h' [cP r (T.map qI),ua T]:=by
 refine Lz (dB a) x ?_;unfold DH;have ab:=ok.len;have S:=ok.room;refine(Sp.refl h).boxed λp h1 I=>?_;have I:Sp h h1 [au p 29 (aY x)]:=I;refine(LP s b (H.ai I.ai H.lt) (hl.up I.ai) ok).mono ?_;rintro _ h2 ⟨B,rfl,R2⟩;have M:=I.cm R2;obtain⟨rs,M⟩:=aa.agU M λ_=>rfl;refine⟨B,i4,?_⟩;have F2:=M.eU 0 i4;have ap:=F2.1.len;have am:=F2.2.1;have G:Sp h h2 [cP ⟨eH,0,0⟩ [],ua [],cN (oZ 1 aF) 1 bv B rs d.l,au p 29 (aY x)]:=
  ((M.comp (.one (A:=ua []) (bc.refl _ _) λt f=>(by cases f))).nil 164 8 bT).cK [3,2,0,1]
 refine aA (λt:Sl×Nat×List (bI×dj)=>(t.1,(t.2.1:Int)-1)) (λt h'=>t.2.1<=i1 d.l/\t.2.2.length<=t.2.1/\Keyed t.2.2/\t.2.2.map zI=(d.l.take t.2.1).filterMap (kA m)/\Sp h h' [cP t.1 (t.2.2.map qI),ua t.2.2,cN (oZ 1 aF) 1 bv B rs d.l,au p 29 (aY x)]) (λt=>i1 d.l-t.2.1) (⟨eH,0,0⟩,0,[]) i4 ⟨jj,jj,(λt f=>(by cases f)),jj,G⟩ ?_;rintro⟨o,i,T⟩ h3 ⟨hi,ad,L,k,G⟩;dsimp only at*;have ei:qc xx ((i:Int)-1+1)=(i:Int):=j4
 rw[ei];refine aj (λe=>?_) (λe=>?_)
 ·have U:i=i1 d.l:=i5
  subst U;rw[q9]at k;refine(NS (T.map qI) n9 G).mono ?_;rintro _ h4 ⟨rfl,H4⟩;obtain⟨s1,s2,s3⟩:=ZC L;rw[<-s1]at H4;refine⟨(),i4,(LU _ (by rw[qy,List.length_mergeSort];omega) H4).mono ?_⟩;rintro _ h5 ⟨r5,rfl,H5⟩;obtain⟨c1,c2,c3⟩:=ack s3;rw[<-c1]at H5;refine⟨r5,i4,r5,Fq (T.mergeSort Rc),i4,?_,λt f=>s3 t (c3 t f),?_⟩
  ·have hr:fy m d.l=(Fq (T.mergeSort Rc)).map zI:=by unfold fy;rw[<-k,c2,s2]
   exact hr.symm
  ·exact(H5.fZ 1 i4 (D:=ua (Fq (T.mergeSort Rc))) λq z t f=>z t (yO.1 (c3 t f))).cK [0,1]
 ·have F:i<i1 d.l:=i5
  have g:=Zc m d.l i F;have next:∀{h':f9} {E:Sl} {T':List (bI×dj)},i1 T'<=i+1->Keyed T'->T'.map zI=(d.l.take (i+1)).filterMap (kA m)->Sp h h' [cP E (T'.map qI),ua T',cN (oZ 1 aF) 1 bv B rs d.l,au p 29 (aY x)]->
    ∃j:Sl×Nat×List (bI×dj),((⟨E.ptr,E.len,E.cap⟩:Sl),(i:Int))=(j.1,(j.2.1:Int)-1)/\(j.2.1<=i1 d.l/\j.2.2.length<=j.2.1/\Keyed j.2.2/\j.2.2.map zI=(d.l.take j.2.1).filterMap (kA m)/\Sp h h' [cP j.1 (j.2.2.map qI),ua j.2.2,cN (oZ 1 aF) 1 bv B rs d.l,au p 29 (aY x)])/\d.l.length-j.2.1<i1 d.l-i:=λ{h' E T'} q1 q2 q3 q4=>
   ⟨(E,i+1,T'),by dsimp only;congr 1;omega,⟨i7,q1,q2,q3,q4⟩,i7⟩
  refine bi ?_;refine(G.eU 2 i4).1.mv i i4 i5 ?_;obtain⟨u,P⟩:=Fix.row (G.eU 2 rfl) F;obtain⟨c,Z⟩:∃c,c=d.l[i]:=⟨_,rfl⟩
  rw[<-Z]at u g;have ao:i1 c=64:=by rw[Z];exact ok.cell _ (qg F)
  refine(UA (rs[i]'(by omega)) c h3 u i5 P).mono ?_;rintro _ h6 ⟨y,rfl,Q0,Q1⟩;refine⟨(y,(ey c).isSome),i4,?_⟩;dsimp only;cases htr:ey c with
  |none=>
   have J:kA m c=eH:=by unfold kA;rw[htr]
   rw[J,Option.toList_none,qN]at g;have W:=G.up (Q0 htr).ai;refine W.alloc af i4 λa9 h7 N=>?_;refine N.storeAll af 4 i4 i4 (bT y) i4 i4 i4 i4 λh8 n=>bx (λe=>j1) λ_=>?_;exact next i5 L (by rw[k,g]) (n.cK [0,1,2,3])
  |some r=>
   have W:=G.cm (Q1 r htr);refine W.alloc af i4 λa9 h7 N=>?_;refine N.storeAll af 5 i4 i4 (bT y) i4 i4 i4 i4 λh8 n=>bx (λ_=>?_) λe=>j1
   have n:Sp h h8 [EA fv y r,cP o (T.map qI),ua T,cN (oZ 1 aF) 1 bv B rs d.l,au p 29 (aY x),au a9 164 (bT y)]:=n;have X:=n.eAt 0 i4;have V:aq h8 p 0 (aY x):=(n.box 4 i4).aV _ i4;have Q:aq h8 a9 0 (bT y):=(n.box 5 i4).aV _ i4;have O:=WM x m y r h8 (hx.up n.ai) hz X;refine⟨x,V,y,Q,O.mono ?_⟩;rintro _ h9 ⟨rfl,R9⟩;have Y:Sp h h9 [EA fv y r,cP o (T.map qI),ua T,cN (oZ 1 aF) 1 bv B rs d.l,au p 29 (aY x),au a9 164 (bT y)]:=n.up R9.ai;refine⟨_,i4,bx (λe2=>?_) λe2=>?_⟩
   ·have J:kA m c=dB r:=by unfold kA;rw[htr];exact g0 e2
    rw[J,Option.toList_some]at g;refine⟨y,(Y.box 5 i4).aV _ i4,?_⟩;refine Y.push af 1 i4 ajj i4 i6 (λ_=>rfl) ahM y j3 i6 n9 λE ah K=>?_;have w:=(K.eAt 0 i4).1;have R:=K.merge 2 0 i6 i4 i4 (D:=ua (T++[(y,r)])) (λq1 q2 _ p1 p2 t f=>by
     rcases qz.1 f with f|f
     ·exact fv.mono (p1 t f) λ_ H=>.inl H
     ·rw[qC.1 f];exact fv.mono p2 λ_ H=>.inr H)
    refine next (T':=T++[(y,r)]) i9 (λt f=>?_) (by rw[qW,k,g];rfl) ?_
    ·rcases qz.1 f with f|f
     ·exact L t f
     ·rw[qC.1 f];exact⟨w.1,w.2.1,w.2.2.1⟩
    ·rw[qW];exact R.cK [1,2,3,4]
   ·have J:kA m c=eH:=by unfold kA;rw[htr];exact g9 (by rw[e2];simp)
    rw[J,Option.toList_none,qN]at g;exact next i5 L (by rw[k,g]) (Y.cK [1,2,3,4])
theorem IK(a pw:f7)(d:bs)(s b:Sl)(x:bV)(m:aG)(h:f9)(w:cx h a 119 (fu pw d s b))(z:fE h s 1 aF d.l)(ok:gE d)(p:dn h x m)(y:cR m):
  ac xB 106 #[xt (dB a),fH x] h λv h'=>∃(r:Sl) (o:List bI),v=r/\Sp h h' [cN fv 8 bT r o (fy m d.l)]:=by
 refine(Sn a pw d s b x m h w z ok p y).mono ?_;rintro _ h' ⟨r,T,rfl,u,_,H⟩;refine⟨r,T.map qI,i4,?_⟩;have n:=(H.freeze 0 i4 λ_=>rfl).mu;have i:aa _ _ _ (cN fv 8 bT r (T.map qI) (fy m d.l)::_):=n.fZ 0 i4 λq ⟨B,A,_,b,c,k,g⟩=>by
  rw[<-u];refine⟨Seq.mono g c,jj,λj D l' e f=>?_⟩;rw[qU]at e f;cases g3:T[j]? with
  |none=>rw[g3]at e;cases e
  |some t=>
   rw[g3]at e f;simp at e f;subst e;subst f;exact fv.mono (k t (ya g3)) b
 exact i.cK [0]
end Go.Qw
namespace Go.Vc
open Go Wl
def bt(l:aD)(k:Nat):aD:=((qA k).map λi:Nat=>(i:Int)).filter λi=>decide (0<l.getD i.toNat 0)
def eN(l:aD):aD×Bool:=
 if l.all (fo · 0 512)then(bt l l.length,decide (i1 l<=64)&&decide (0<i1 (bt l l.length)))else([],eS)
theorem GF(l:aD)(k:Nat)(a:k<i1 l):bt l (k+1)=bt l k++if 0<l[k]then[(k:Int)]else[]:=by unfold bt;rw[zV,qW,zl];congr 1;simp only[List.map_cons,List.map_nil,zp,vh,ql,qe,qd a,Option.getD_some];by_cases h:0<l[k]<;>simp[h]
theorem rY(l:aD)(k:Nat):i1 (bt l k)<=k:=by unfold bt;exact zd (qQ _ _) jj
end Go.Vc
namespace Go.Qw
open Go Go.Vc Go.Proofs Wl
section
theorem oz(s:Sl)(l:aD)(h:f9)(m:Rd h s 1 av l)(F:i1 l<=2^20):
  ac xB 72 #[s] h λv h'=>∃r:Sl,v=.tuple #[r,xv (eN l).2]/\Sp h h' [an 3 r 1 av (eN l).1]:=by
 refine Lx s ?_;unfold DD;have q:=m.len;have n:Sp h h [an 3 ⟨eH,0,0⟩ 1 av (bt l 0)]:=(Sp.refl h).nil 3 1 av;refine aA (λt:Sl×Nat=>(t.1,(t.2:Int))) (λt h'=>t.2<=i1 l/\(l.take t.2).all (fo · 0 512)=eR/\Sp h h' [an 3 t.1 1 av (bt l t.2)]) (λt=>i1 l-t.2) (⟨eH,0,0⟩,0) i4 ⟨jj,jj,n⟩ ?_;rintro⟨o,i⟩ D ⟨B,c,f⟩;dsimp only at*;have d:∀(a:i<i1 l),fo l[i] 0 512=eS->eN l=([],eS):=λa g=>by
  unfold eN;rw[g9];intro p;have:=qZ.1 p _ (qg a);rw[g]at this;cases this
 refine aj (λe=>?_) (λe=>?_)
 ·have a:i<i1 l:=i5
  have A:=rY l i;refine(Seq.up m f.ai).bG i i4 a l[i] i4 ?_;refine bi (aj (λk=>?_) λk=>aj (λe2=>?_) λe2=>?_)
  ·have g:=d a n7;rw[g];exact⟨⟨eH,0,0⟩,i4,(f.cK []).nil 3 1 av⟩
  ·have g:=d a n7;rw[g];exact⟨⟨eH,0,0⟩,i4,(f.cK []).nil 3 1 av⟩
  ·have b:(l.take (i+1)).all (fo · 0 512)=eR:=by rw[aK l i a,yW,c,z8,List.all_cons,List.all_nil,Bool.and_true];unfold fo;simp;omega
   refine aj (λz=>?_) (λz=>?_)
   ·refine f.push af 0 i4 gM i4 i6 (λ_=>rfl) fD (i:Int) i4 i6 i5 λx E w=>?_;refine⟨(x,i+1),js,⟨i7,b,?_⟩,i7⟩;dsimp only;rw[GF l i a,g0 i5];exact w
   ·refine⟨(o,i+1),js,⟨i7,b,?_⟩,i7⟩;dsimp only;rw[GF l i a,g9 i5,qN];exact f
 ·have j:i=i1 l:=i5
  subst j;rw[q9]at c;have u:=(f.own 0 i4).len;have y:eN l=(bt l l.length,decide (i1 l<=64)&&decide (0<i1 (bt l l.length))):=by unfold eN;rw[g0 c]
  rw[y];refine aj (λk=>⟨o,?_,f⟩) (λk=>⟨o,?_,f⟩)
  ·dsimp only;rw[hU (show l.length<=64 by omega),z8];congr 4;refine congrArg Value.bool ?_;rw[decide_eq_decide];omega
  ·dsimp only;rw[ii (show¬i1 l<=64 by omega),Bool.false_and]
end
section
variable {B:aC} {h0 h:f9} {As:List HP} {a pw:f7} {offs:Int} {da:List aM} {w:Pow} {ds:aJ}
theorem gd(x:bV)(m:aG)(b:dn h x m)(g:cR m)(H:aa B h0 h (bp bz a pw (aY x) offs da w ds::As)):
  ac xB 9 #[xt (dB a)] h λv h'=>∃r:Sl,v=r/\Sp h h' [an 3 r 1 av (aN ds m.drives)]:=by
 refine EU (dB a) ?_;unfold ul;obtain⟨ok,d⟩:=aa.cY H;have c:=g.dr;refine bx (λe=>j1) λ_=>⟨a,i4,x.2.2.2.2.2.2.1,d.cell i4,(NP _ m.drives b.drives i5 H).mono ?_⟩;rintro _ i ⟨r,rfl,f⟩;exact⟨r,i4,r,i4,f⟩
theorem PU(x:bV)(m:aG)(l:dn h x m)(j:cR m)(H:aa B h0 h (bp bz a pw (aY x) offs da w ds::As)):
  ac xB 8 #[xt (dB a)] h λv h'=>∃y:bV,v=fH y/\Sp h h' [ct y m]:=by
 refine nz (dB a) ?_;unfold lA;obtain⟨ok,d⟩:=aa.cY H;refine(Sp.refl h).alloc af i4 λn i b=>?_;have c:=d.ai b.ai d.lt;refine bx (λe=>j1) λ_=>⟨a,i4,x,c.aV _ i4,(NO x m i (l.up b.ai) j).mono ?_⟩;rintro _ o ⟨y,rfl,g⟩;have k:=b.comp g;refine⟨y,i4,?_⟩;refine k.store af 0 i4 i4 0 (aY y) i4 i4 i4 j8 λh3 f=>?_;exact⟨y,(f.box 0 i4).aV _ i4,y,i4,f.cK [1]⟩
end
end Go.Qw
namespace Go.Vc
open Go Wl
def dO(w:Pow)(offs:Int):Bool:=w.off||w.offs !=offs
end Go.Vc
namespace Go.Qw
open Go Go.Vc Go.Proofs Wl
section
variable {B:aC} {h0 h:f9} {As:List HP} {a pw:f7} {mc:bh} {offs:Int} {da:List aM} {w:Pow} {ds:aJ}
theorem aa.ahN(H:aa B h0 h (bp bz a pw mc offs da w ds::As)):∃l,NL w l/\cx h pw 121 (powC w l):=by obtain⟨ok,e⟩:=Go.Vc.aa.pu H;have b:=e.rest;obtain⟨l,d,c⟩:=aa.Eb b;exact⟨l,d,c.box 0 i4⟩
theorem tl(H:aa B h0 h (bp bz a pw mc offs da w ds::As)):
  ac xB 52 #[xt (dB a)] h λv h'=>v=xv (dO w offs)/\h'=h:=by
 refine EW (dB a) ?_;unfold un;obtain⟨ok,f⟩:=aa.cY H;obtain⟨l,i,c⟩:=aa.ahN H;have d:f8 h (a.add 8)=dB (xt (dB pw)):=f.cell (UB ok.l8);have g:f8 h (a.add 9)=dB (xq xx offs):=f.cell (Zz ok.l8);refine bx (λ_=>?_) (λe=>j1);refine⟨a,i4,dB pw,d,(JR l c).mono ?_⟩;rintro _ _ ⟨rfl,rfl⟩;refine⟨_,i4,trivial,bo (λe=>⟨trivial,?_⟩) λe=>?_⟩
 ·have b:w.off=eR:=l6
  exact⟨by unfold dO;rw[b];rfl,i4⟩
 ·have b:w.off=eS:=l6
  refine⟨a,i4,dB pw,d,a,i4,offs,g,(QX l c).mono ?_⟩;rintro _ _ ⟨rfl,rfl⟩;exact⟨_,i4,⟨g,trivial⟩,by unfold dO;rw[b];rfl,i4⟩
theorem So(H:aa B h0 h (bp bz a pw mc offs da w ds::As)):
  ac xB 19 #[xt (dB a)] h λv h'=>v=xt (dB pw)/\h'=h:=by
 refine Dy (dB a) ?_;unfold sD;obtain⟨ok,b⟩:=aa.cY H;exact bx (λe=>j1) λ_=>⟨a,i4,dB pw,b.cell (UB ok.l8),i4,i4⟩
end
end Go.Qw
namespace Go.Vc
open Go Wl
section
variable {k:Kit} {B:aC} {h0 h:f9} {As:List HP} {a pw:f7} {mc:bh} {offs:Int} {w:Pow}
theorem aa.ajn(H:aa B h0 h As):∀n,aa B h0 h (qh n emp++As)
 |0=>H
 |n+1=>(((aa.ajn H n).comp (.one (A:=emp) (bc.refl _ _) trivial)).bB:aa B h0 h (emp::(qh n emp++As)))
theorem aa.acl(h8:i1 mc=8)(H:aa B h0 h (au a k.tS (cQ mc pw offs (qh 64 eH))::dl k.tP pw w::As)):aa B h0 h (bp k a pw mc offs (qh 64 eH) w (qh 64 eH)::As):=by
 have ok:gh mc (qh 64 eH) (qh 64 (eH:Option bs)):=⟨h8,jj,jj,λi=>by
  simp only[qe,wh];split<;>rfl⟩
 have e:gc k pw (qh 64 eH) (qh 64 (eH:Option bs))=qh 64 emp:=by simp[gc,ajl]
 refine aa.pV ok ?_;rw[e];have f:=aa.ajn H 64;refine f.pick (λi=>if i=0 then 64 else if i=1 then 65 else if i<66 then i-2 else i) (λx y b=>by(try dsimp only at b);split at b<;>split at b<;>(try split at b)<;>(try split at b)<;>(try split at b)<;>(try split at b)<;>omega) λi A d=>?_;rcases i with _|_|i
 ·simpa using d
 ·simpa using d
 ·by_cases g:i<64
  ·have c:(qh 64 emp++As)[i]?=dB A:=d;rw[qo l0]at c
   try dsimp only
   rw[g9 i5,g9 i5,g0 i5,qo i9];simpa using c
  ·have c:(qh 64 emp++As)[i]?=dB A:=d;rw[qj i9]at c
   try dsimp only
   rw[g9 i5,g9 i5,g9 i5,qj i9];simp only[List.length_replicate]at c⊢;obtain⟨j,rfl⟩:∃j,i=j+64:=⟨i-64,i5⟩
   have e2:j+64+1+1-64=j+1+1:=i5
   rw[e2];simpa using c
end
end Go.Vc
namespace Go.Qw
open Go Go.Vc Go.Proofs Wl
section
theorem acm(x:bV)(pw:f7)(offs:Int):aP xB (Instr.build 91 #[(0,fH x),(1,xt (dB pw)),(2,xq xx offs)]) (xw (cQ (aY x) pw offs (qh 64 eH)).toArray):=
 Hi af (i:=_) i4 i4 i4 (vs:=[(0,fH x),(1,xt (dB pw)),(2,xq xx offs)]) (cells:=(cQ (aY x) pw offs (qh 64 eH)).toArray) j3
end
end Go.Qw
namespace Go.Vc
open Go Wl
section
variable {k:Kit} {B:aC} {h0 h:f9} {As:List HP} {a pw b:f7} {mc:bh} {offs:Int} {da:List aM} {w:Pow} {ds:aJ} {d:bs} {n:Nat}
theorem Re(h8:i1 mc=8):(cQ mc pw offs da).set (10+n) (xt (dB b))=cQ mc pw offs (da.set n (dB b)):=by unfold cQ;rw[qV _ _ i5,h8,show 10+n-8=n+1+1 by omega,zu,zu,List.map_set]
theorem aa.ahO(ok:gh mc da ds)(z:n<64)(x:ds[n]?=dB eH)(H:aa B h0 h (au a k.tS (cQ mc pw offs (da.set n (dB b)))::dl k.tP pw w::(gc k pw da ds++(iJ k.tD (k.f pw) b d::As)))):aa B h0 h (bp k a pw mc offs (da.set n (dB b)) w (ds.set n (dB d))::As):=by
 have r:=ok.acg z x;have m:=ok.la;have t:=ok.ls;have o:gh mc (da.set n (dB b)) (ds.set n (dB d)):=⟨ok.l8,by simp[m],by simp[t],λi=>by
  by_cases c:n=i
  ·subst c;rw[qe,qe,zm i5,zm i5];rfl
  ·have:=ok.same i;rw[qe,qe]at this⊢;rw[zC c,zC c];exact this⟩
 have p:=Fp (k:=k) (pw:=pw) ok;have u:(gc k pw da ds)[n]?=dB emp:=by simp only[gc,we,r,x];rfl
 have l:gc k pw (da.set n (dB b)) (ds.set n (dB d))=(gc k pw da ds).set n (iJ k.tD (k.f pw) b d):=by
  apply zG;intro j;simp only[gc,q8,we,y9];by_cases g:n=j
  ·subst g;rw[g0 i4,g0 i5,g0 i4,g0 i5,g0 i4,g0 i5];rfl
  ·simp[g]
 refine aa.pV o ?_;rw[l];obtain⟨L,q⟩:∃L,L=gc k pw da ds:=⟨_,rfl⟩
 rw[<-q]at H u p⊢;have v:=H.cons (i1 L+2) (A:=iJ k.tD (k.f pw) b d) (by
  rw[qw,qw,qj (qm _),zc];rfl)
 have e:(au a k.tS (cQ mc pw offs (da.set n (dB b)))::dl k.tP pw w::(L++(iJ k.tD (k.f pw) b d::As))).set (i1 L+2) emp=au a k.tS (cQ mc pw offs (da.set n (dB b)))::dl k.tP pw w::(L++(emp::As)):=by rw[zu,zu,qV _ _ (qm _),zc];rfl
 rw[e]at v;have D:=v.aX 3 [0,2,1];have s:L.set n emp=L:=by
  obtain⟨y,G⟩:=qn.1 u
  conv=>lhs;rw[<-G]
  exact List.set_getElem_self y
 have I:aa B h0 h (iJ k.tD (k.f pw) b d::dl k.tP pw w::au a k.tS (cQ mc pw offs (da.set n (dB b)))::(L.set n emp++(emp::As))):=by rw[s];exact D
 have E:=aa.JT n i5 I;have F:=aa.closeAll (au a k.tS (cQ mc pw offs (da.set n (dB b)))::dl k.tP pw w::L.set n (iJ k.tD (k.f pw) b d)) E;exact aa.py (L:=au a k.tS (cQ mc pw offs (da.set n (dB b)))::dl k.tP pw w::L.set n (iJ k.tD (k.f pw) b d)) F.rh
end
open Go Wl Go.Qw
def cD(p:Pm)(extra:Int)(l:aD):aG:=⟨1,0,p,extra,bt l l.length,[]⟩
def iB(l:aD)(k:Nat):aJ:=(qA 64).map λi:Nat=>if(i:Int)∈(bt l l.length).take k then dB (bs.new (l.getD i 0).toNat)else eH
def ge(p:Pm)(extra:Int)(w:Pow)(l:aD):Int×Pow×aJ:=
 if(eN l).2&&(bO p&&fo extra 0 16)then
  if(bt l l.length).any λi=>decide (l.getD i.toNat 0<(i1 (bu (cD p extra l)):Int))then(7,w,[])
  else layAll (bM (cD p extra l) (bt l l.length)) w (iB l (bt l l.length).length)
 else(1,w,[])
theorem UG(l:aD):iB l 0=qh 64 eH:=by
 unfold iB;rw[List.take_zero];apply zG;intro j;simp only[qU,wh,zt,List.not_mem_nil,if_false];by_cases h:j<64
 ·simp[h,zt]
 ·simp[h]
theorem WN(l:aD)(k:Nat):i1 (iB l k)=64:=by simp[iB]
theorem UH(l:aD)(k n:Nat)(e:k<i1 (bt l l.length))(d:(bt l l.length)[k]=(n:Int))(b:n<64):(iB l k).set n (dB (bs.new (l.getD n 0).toNat))=iB l (k+1):=by
 apply zG;intro j;unfold iB;rw[aK _ _ e,d,q8,qy,zE];by_cases c:j<64
 ·simp only[qU,zt c,q7,qz,qC];by_cases a:n=j
  ·subst a;rw[g0 i4,g0 b,g0 (Or.inr i4)]
  ·rw[g9 a];have:¬(j:Int)=(n:Int):=i5
   simp only[this,or_false]
 ·rw[g9 i5];rw[qS i9,qS i9]
theorem Ba(l:aD)(k:Nat)(x:Int):x∈bt l k↔∃n:Nat,n<k/\x=(n:Int)/\0<l.getD n 0:=by
 unfold bt;rw[qJ,qu];constructor
 ·rintro⟨⟨n,b,rfl⟩,a⟩;exact⟨n,qG.1 b,i4,j7⟩
 ·rintro⟨n,b,rfl,a⟩;exact⟨⟨n,qG.2 b,i4⟩,j7⟩
theorem WO(l:aD)(k i:Nat)(a:i<i1 (bt l k)):∃n:Nat,n<k/\(bt l k)[i]=(n:Int)/\0<l.getD n 0:=(Ba l k _).1 (qg a)
end Go.Vc
namespace Wl
open Go
def gx(p:Int×Int×Int):Nat:=(p.1*p.2.2).toNat
def Fs(a:Nat)(b:bf)(i:Nat):bf:=(b.drop (i*a)).take a++(qh a 0).drop (b.drop (i*a)).length
theorem Rf(a:Nat)(b:bf)(i:Nat):i1 (Fs a b i)=a:=by unfold Fs;simp;omega
def splitB(p:Int×Int×Int)(b:bf):cJ:=(qA (countP p b.length).toNat).map (Fs (gx p) b)
def NV(p:Int×Int×Int)(o b:Int)(n:Nat):Bool:=gC p (cI o b n) (fV p)
def rZ(p:Int×Int×Int)(o b:Int):Option Nat:=(qA 16).find? (NV p o b)
def dg(p:Int×Int×Int)(o:Int):Nat->Option (aD)
 |0=>dB []
 |n+1=>(dg p o n).bind λl=>(rZ p o n).map λt=>l++[(t:Int)]
theorem kZ{p:Int×Int×Int}{o:Int}:∀{n:Nat} {l:aD},dg p o n=dB l->i1 l=n
 |0,l,h=>by cases h;rfl
 |n+1,l,h=>by
  unfold dg at h;cases h1:dg p o n with
  |none=>rw[h1]at h;cases h
  |some k=>
   rw[h1]at h;cases h2:rZ p o n with
   |none=>rw[h2]at h;cases h
   |some t=>
    rw[h2]at h;have h:dB (k++[(t:Int)])=dB l:=h;injection h with h
    rw[<-h,qx,kZ h1];rfl
theorem IL{p:Int×Int×Int}{o b:Int}{t:Nat}(h:rZ p o b=dB t):t<16/\NV p o b t=eR/\∀k,k<t->NV p o b k=eS:=by
 unfold rZ at h;obtain⟨e,us,vs,c,h3⟩:=List.find?_eq_some_iff_append.1 h;have d:=congrArg vX c;have g:t=i1 us:=by
  have:(qA 16)[i1 us]?=dB t:=by rw[c,qj (qm _),zc];rfl
  rw[zt l9]at this;injection this with this;exact this.symm
 refine⟨l9,e,λk f=>?_⟩;have a:k∈us:=by
  have:(qA 16)[k]?=us[k]?:=by rw[c,qo i5]
  rw[zt l9]at this;exact ya this.symm
 simpa using h3 k a
theorem Cn{p:Int×Int×Int}{o:Int}:∀{n:Nat} {l:aD},dg p o n=dB l->∀i (b:i<i1 l),∃t:Nat,l[i]=(t:Int)/\rZ p o i=dB t
 |0,l,h=>by cases h;intro i b;simp at b
 |n+1,l,h=>by
  unfold dg at h;cases h1:dg p o n with
  |none=>rw[h1]at h;cases h
  |some k=>
   rw[h1]at h;cases h2:rZ p o n with
   |none=>rw[h2]at h;cases h
   |some t=>
    rw[h2]at h;have h:dB (k++[(t:Int)])=dB l:=h;injection h with h
    subst h;intro i b;have c:=kZ h1;by_cases a:i<i1 k
    ·rw[List.getElem_append_left a];exact Cn h1 i a
    ·have:i=i1 k:=by simp at b;omega
     subst this;refine⟨t,jj,?_⟩;rw[c];exact h2
end Wl
namespace Go.Qw
open Go Go.Vc Go.Proofs Wl
theorem Rg(p:Pm)(h:f9)(d:bO p=eR):ac xB 138 #[kW p] h λv h'=>v=xq xx (gx p)/\Sp h h' []:=by
 have b:=(co p).1 d;refine DI p ?_;unfold AN;refine(Sp.refl h).boxed λf h3 a=>⟨p.1,(a.box 0 i4).cell0 i4,p.2.2,(a.box 0 i4).cell i4,?_,a.cK []⟩
 have e:p.1*p.2.2<=16*24:=yy i5 i5 i5 i5;have c:0<=p.1*p.2.2:=vO i5 i5;rw[ak _];unfold gx;congr 1;omega
theorem sa{p:Pm}(c:bO p=eR):1<=gx p/\gx p<=384/\(gx p:Int)=p.1*p.2.2:=by have a:=(co p).1 c;have d:p.1*p.2.2<=16*24:=yy i5 i5 i5 i5;have b:0<p.1*p.2.2:=Int.mul_pos i5 i5;unfold gx;omega
theorem mO{p:Pm}(a:bO p=eR)(n:Nat):0<=countP p n/\countP p n<=n/\∀i:Nat,(i:Int)<countP p n->i*gx p<n:=by
 obtain⟨g,f,c⟩:=sa a;unfold countP;rw[a,z8];by_cases h0:0<(n:Int)
 ·rw[hU h0,g0 i4,<-c];have h:((n:Int)-1)/(gx p:Int)<=n-1:=Int.ediv_le_self _ i5;have e:0<=((n:Int)-1)/(gx p:Int):=Int.ediv_nonneg i5 i5;refine⟨i5,i5,λi b=>?_⟩;have h3:(i:Int)<=((n:Int)-1)/(gx p:Int):=i5
  have j:=(Int.le_ediv_iff_mul_le i5).1 h3;have d:((i*gx p:Nat):Int)=(i:Int)*(gx p:Int):=wM i (gx p);omega
 ·rw[ii h0,g9 i6];exact⟨i5,i5,λi b=>i5⟩
theorem WP(p:Pm)(s:Sl)(b:bf)(h:f9)(f:bO p=eR)(m:Rd h s 1 aF b)(x:s.len<=s.cap)(Y:i1 b<=2^30):ac xB 139 #[kW p,s] h λv h'=>∃r:Sl,v=r/\Sp h h' [ez r (splitB p b)]:=by
 refine Np p s ?_;unfold Gm;have c:=m.len;obtain⟨P,U,T⟩:=sa f;obtain⟨W,S,c3⟩:=mO f b.length;refine(Sp.refl h).boxed λj A q=>?_;refine⟨p,(q.box 0 i4).aV _ i4,?_⟩;refine(Fk p s.len A).mono ?_;rintro _ I ⟨rfl,y⟩;have E:=q.up y.ai;refine⟨_,i4,?_⟩;obtain⟨n,D⟩:∃n:Nat,n=(countP p b.length).toNat:=⟨_,rfl⟩
 have d:(countP p (s.len:Nat))=(n:Int):=by rw[c];omega
 rw[d];have N:i1 (splitB p b)=n:=by unfold splitB;rw[<-D];simp
 have a:Sp h I [ez ⟨eH,0,0⟩ ((splitB p b).take 0),au j 26 [xq xx p.1,xq xx p.2.1,xq xx p.2.2]]:=E.CH 71 5 1 aF;refine aA (λt:Sl×Nat=>(t.1,(t.2:Int))) (λt h'=>t.2<=n/\Sp h h' [ez t.1 ((splitB p b).take t.2),au j 26 [xq xx p.1,xq xx p.2.1,xq xx p.2.2]]) (λt=>n-t.2) (⟨eH,0,0⟩,0) i4 ⟨jj,a⟩ ?_;rintro⟨o,i⟩ h3 ⟨R,a⟩;dsimp only at*;refine aj (λe=>?_) (λe=>?_)
 ·have M:i<n:=i5
  have w:=c3 i (by rw[<-c,d];omega);refine⟨p,(a.box 1 i4).aV _ i4,(Rg p h3 f).mono ?_⟩;rintro _ X ⟨rfl,B⟩;have F:=a.up B.ai;refine⟨_,i4,F.SH af aF hO i6 (0:UInt8) i4 i4 (gx p) (gx p) i4 i4 (qm _) i5 λv H V Q g=>?_⟩;have g:=g.bB;refine⟨p,(g.box 2 i4).aV _ i4,(Rg p H f).mono ?_⟩;rintro _ O ⟨rfl,z⟩;have l:=g.up z.ai;refine⟨_,i4,?_⟩;have em:qc xx ((i:Int)*(gx p:Int))=((i*gx p:Nat):Int):=by rw[<-wM,ak _]
  dsimp only;rw[em,ql];refine⟨⟨i5,i5⟩,?_⟩;have J:=(Seq.up m l.ai).drop (i*gx p) x;refine l.Mz af 0 i4 hO (λ_=>rfl) (v:=⟨_,s.len-i*gx p,s.cap-i*gx p⟩) J iP λ_ u k=>?_;have k:Sp h u [an 5 v 1 aF (Fs (gx p) b i),ez o ((splitB p b).take i),au j 26 [xq xx p.1,xq xx p.2.1,xq xx p.2.2]]:=by simpa[Fs]using k
  refine(k.aX 2 [1,0]).JB af fM i9 λG h8 K=>?_;refine⟨(G,i+1),js,⟨i7,?_⟩,i7⟩;dsimp only;rw[aK _ _ (show i<i1 (splitB p b) by omega)];have L:(splitB p b)[i]'(by omega)=Fs (gx p) b i:=by simp[splitB]
  rw[L];exact K
 ·rw[qi i5]at a;exact⟨o,i4,a.cK [0]⟩
theorem nH(a b:UInt8):qc xy ((qD (qk xy) (a.toNat:Int)^^^qD (qk xy) (b.toNat:Int)).toNat:Nat)=((a^^^b).toNat:Int):=by
 have e:∀a:UInt8,qD (qk xy) (a.toNat:Int)=a.toBitVec:=λa=>by
  apply BitVec.eq_of_toNat_eq;have:=wY a;simp[qk]
 rw[e,e];have c:=(a.toBitVec^^^b.toBitVec).isLt;have:((a^^^b).toNat:Int)=((a.toBitVec^^^b.toBitVec).toNat:Int):=rfl;rw[this];show(((a.toBitVec^^^b.toBitVec).toNat:Nat):Int)%256=_;have:(a.toBitVec^^^b.toBitVec).toNat<256:=c;omega
def tri(a:UInt8):Nat->Int×Int×Int
 |0=>((a.toNat:Int),(3:Int),(0:Int))
 |1=>(((Gf.x2 a).toNat:Int),(1:Int),(a.toNat:Int))
 |_=>(((Gf.x2 (Gf.x2 a)).toNat:Int),(0:Int),((Gf.x3 a).toNat:Int))
theorem WQ(a:UInt8)(h:f9):ac xB 245 #[xq xy a.toNat,xq xy 3] h λv h'=>v=xq xy (Gf.x3 a).toNat/\h'=h:=by
 have e:∀n:Nat,n<256->
   ((qc xy ((qD (qk xy) (n:Int)&&&(qD (qk xy) (128:Int))).toNat:Nat)) !=(0:Int))=eR->qc xy ((qD (qk xy) (qc xy ((n:Int)*2^min (1:Int).toNat (qk xy)))^^^(qD (qk xy) (27:Int))).toNat:Nat)=((Gf.x2 (yK n)).toNat:Int):=j5
 have c:∀n:Nat,n<256->
   ((qc xy ((qD (qk xy) (n:Int)&&&(qD (qk xy) (128:Int))).toNat:Nat)) !=(0:Int))=eS->qc xy ((n:Int)*2^min (1:Int).toNat (qk xy))=((Gf.x2 (yK n)).toNat:Int):=j5
 refine Uu _ _ ?_;unfold NF;refine aA (tri a) (λt h'=>h'=h/\t<=2) (λt=>2-t) 0 i4 ⟨i4,i5⟩ ?_;rintro t h' ⟨rfl,f⟩;rcases(show t=0∨t=1∨t=2 by omega)with rfl|rfl|rfl
 ·rw[show tri a 0=((a.toNat:Int),(3:Int),(0:Int))from rfl];dsimp only;refine Ak i6 (bi (Hd i6 ?_));refine⟨i6,bi ?_⟩;refine bx (λd=>?_) (λd=>?_)
  ·rw[e _ (wY a) d,y0];refine⟨i6,1,?_,⟨i4,i6⟩,i6⟩;have:=nH 0 a;simp only[wz]at this;exact yQ i4 (yQ i4 this)
  ·rw[c _ (wY a) d,y0];refine⟨i6,1,?_,⟨i4,i6⟩,i6⟩;have:=nH 0 a;simp only[wz]at this;exact yQ i4 (yQ i4 this)
 ·rw[show tri a 1=(((Gf.x2 a).toNat:Int),(1:Int),(a.toNat:Int))from rfl];dsimp only;refine Ak i6 (bi (Hd i6 ?_));refine⟨i6,bi ?_⟩;refine bx (λd=>?_) (λd=>?_)
  ·rw[e _ (wY (Gf.x2 a)) d,y0];refine⟨i6,2,?_,⟨i4,i6⟩,i6⟩;refine yQ i4 (yQ i4 ?_);have:=nH a (Gf.x2 a);rw[vp]at this;exact this
  ·rw[c _ (wY (Gf.x2 a)) d,y0];refine⟨i6,2,?_,⟨i4,i6⟩,i6⟩;refine yQ i4 (yQ i4 ?_);have:=nH a (Gf.x2 a);rw[vp]at this;exact this
 ·exact Hd (b:=(0:Int)==0) i6 ⟨i4,i4⟩
def jN:aD:=(qA 255).map λi=>((Gf.pw i).toNat:Int)
def tm:aD:=(qA 256).map λx=>if x=0 then 0 else((Gf.lg (yK x):Nat):Int)
theorem ir:i1 jN=255:=by simp[jN]
theorem Bb:i1 tm=256:=by simp[tm]
def db:bh:=jN.map (Sc.enc (.int .u8))++tm.map (Sc.enc (.int .i64))
abbrev fN(h:f9)(a:f7):Prop:=cx h a 238 db
theorem PW(k:IntKind)(l:aD):(l.map (Sc.enc (.int k))).all (·.oneCell')=eR:=by rw[List.all_map,qZ];intro x _;rfl
theorem WR(h:f9):ac xB 173 #[] h λv h'=>v=xw (jN.map (Sc.enc (.int .u8))).toArray/\Sp h h' []:=by
 refine Sf ?_;unfold KE;refine(Sp.refl h).alloc af i4 λa r o=>?_;refine aA (λi:Nat=>(((Gf.pw i).toNat:Int),(i:Int))) (λi h'=>i<=255/\Sp h h' [au a 233 (((qA 255).map λj=>if j<i then((Gf.pw j).toNat:Int)else 0).map (Sc.enc (.int .u8)))]) (λi=>255-i) 0 i4 ⟨i5,?_⟩ ?_
 ·have e:((qA 255).map λj=>if j<0 then((Gf.pw j).toNat:Int)else 0).map (Sc.enc (.int .u8))=qh 255 (xq xy 0):=by simp;rfl
  rw[e];exact o
 ·rintro i s ⟨q,f⟩;refine aj (λn=>?_) (λk=>?_)
  ·dsimp only at n;refine⟨⟨i7,i7⟩,?_⟩;dsimp only;rw[show((i:Int).toNat*1)=i by omega];refine f.storeAt af 0 i4 i4 i4 i4 i4 i9 λh3 g=>?_;refine(WQ (Gf.pw i) h3).mono ?_;rintro v t ⟨rfl,rfl⟩;refine⟨_,i4,i+1,?_,⟨i5,?_⟩,i5⟩
   ·rw[ak _];rfl
   ·have e:((((qA 255).map λj=>if j<i then((Gf.pw j).toNat:Int)else 0).map (Sc.enc (.int .u8))).set i (xq xy (Gf.pw i).toNat))=(((qA 255).map λj=>if j<i+1 then((Gf.pw j).toNat:Int)else 0).map (Sc.enc (.int .u8))):=by
     apply zG;intro j;simp only[q8,qU,qy,zE];by_cases b:i=j
     ·subst b;have:i<255:=i5
      simp[this]
     ·by_cases c:j<255
      ·simp only[b,if_false,zt c,q7];by_cases d:j<i
       ·rw[g0 d,g0 i5]
       ·rw[g9 d,g9 i5]
      ·simp[b,c]
    rw[<-e];exact g
  ·have l:i=255:=by dsimp only at k;omega
   subst l;have e:((qA 255).map λj=>if j<255 then((Gf.pw j).toNat:Int)else 0)=jN:=by unfold jN;apply List.map_congr_left;intro j b;rw[g0 (qG.1 b)]
   rw[e]at f;have p:=f.box 0 i4;refine⟨jN,⟨ir,p.aV _ n4⟩,?_⟩;refine f.storeAll af 0 i4 i4 (jN.map (Sc.enc (.int .u8))) i4 (by rw[qy,ir]) (PW _ _) i4 λh3 g=>?_;have m:=g.box 0 i4;exact⟨jN,⟨ir,m.aV _ n4⟩,i4,.zip g.ai⟩
theorem acn(h:f9):ac xB 174 #[xw (jN.map (Sc.enc (.int .u8))).toArray] h λv h'=>v=xw (tm.map (Sc.enc (.int .i64))).toArray/\Sp h h' []:=by
 refine WC jN ?_;unfold QR;refine(Sp.refl h).boxed λa B u=>?_;refine u.alloc af i4 λt E q=>?_;have n:=q.box 0 i4;refine⟨jN,⟨ir,n.aV _ (by show List.take _ (jN.map _)=_;rw[qi (qm _)])⟩,?_⟩;let L:Nat->aD:=λi=>(qA 256).map λx=>if x≠0/\Gf.lg (yK x)<i then((Gf.lg (yK x):Nat):Int)else 0
 refine aA (λi:Nat=>(i:Int)) (λi h'=>i<=255/\Sp h h' [emp,au t 235 ((L i).map (Sc.enc (.int .i64)))]) (λi=>255-i) 0 i4 ⟨i5,?_⟩ ?_
 ·have e:(L 0).map (Sc.enc (.int .i64))=qh 256 (xq xx 0):=by simp[L];rfl
  rw[e];exact q.fZ 0 i4 λ_ _=>trivial
 ·rintro i h3 ⟨A,g⟩;refine aj (λw=>?_) (λs=>?_)
  ·have c:i<255:=i5
   have r:=wY (Gf.pw i);refine⟨((Gf.pw i).toNat:Int),⟨i5,i5,by simp[jN,c]⟩,⟨i5,i5⟩,?_⟩;rw[show(((Gf.pw i).toNat:Int).toNat*1)=(Gf.pw i).toNat by omega];refine g.storeAt af 1 i4 i4 i4 i4 i4 (by simp[L];omega) λy k=>?_;refine⟨i+1,j0,⟨i5,?_⟩,i5⟩;have e:((L i).map (Sc.enc (.int .i64))).set (Gf.pw i).toNat (xq xx i)=(L (i+1)).map (Sc.enc (.int .i64)):=by
    apply zG;intro j;simp only[q8,qU,qy,zE,L];by_cases f:(Gf.pw i).toNat=j
    ·subst f;simp only[if_true,zt r,q7,r];have m:(Gf.pw i).toNat≠0:=λh0=>Gf.YS i c (wL.1 h0);rw[y0,Gf.YR i c,g0 ⟨m,i5⟩]
    ·by_cases d:j<256
     ·simp only[f,if_false,zt d,q7];by_cases b:j=0
      ·simp[b]
      ·have D:Gf.lg (yK j)≠i:=λh0=>by
        apply f;rw[<-h0,Gf.YQ _ λz=>b (by have:=congrArg UInt8.toNat z;simpa[wg d]using this)];simp[wg d]
       by_cases o:Gf.lg (yK j)<i
       ·rw[g0 ⟨b,o⟩,g0 ⟨b,i5⟩]
       ·rw[g9 λp=>o p.2,g9 λp=>o i5]
     ·simp[f,d]
   rw[<-e];exact k
  ·have c:i=255:=i5
   subst c;have e:L 255=tm:=by
    unfold tm;apply List.map_congr_left;intro j f;by_cases b:j=0
    ·simp[b]
    ·rw[g0 ⟨b,Gf.MC _⟩,g9 b]
   rw[e]at g;have n:=g.box 1 i4;refine⟨tm,⟨Bb,n.aV _ n4⟩,?_⟩;refine g.storeAll af 1 i4 i4 (tm.map (Sc.enc (.int .i64))) i4 (by rw[qy,Bb]) (PW _ _) i4 λy k=>?_;have l:=k.box 1 i4;exact⟨tm,⟨Bb,l.aV _ n4⟩,i4,.zip k.ai⟩
theorem se(h:f9):ac xB 109 #[] h λv h'=>∃a:f7,v=xt (dB a)/\Sp h h' [au a 238 db]:=by
 refine Zv ?_;unfold Uf;refine(WR h).mono ?_;rintro v r ⟨rfl,q⟩;refine⟨jN,i4,?_⟩;refine q.alloc af i4 λa t o=>?_;refine o.storeAll af 0 i4 i4 (jN.map (Sc.enc (.int .u8))) i4 (by rw[qy,ir]) (PW _ _) (by rw[qy,ir];rfl) λh3 l=>?_;have k:=l.box 0 i4;have c:aq h3 a 0 (jN.map (Sc.enc (.int .u8))):=k.aV _ n4;refine⟨jN,⟨ir,c⟩,jN,⟨ir,c⟩,?_⟩;refine(acn h3).mono ?_;rintro v u ⟨rfl,g⟩;refine⟨tm,i4,oA.2 ⟨(g.ai).cells k.lt c,trivial⟩,_,Hi af (i:=_) i4 i4 i4 (cells:=db.toArray) ?_,?_⟩
 ·have b:∀z:bh,i1 z=511->wC (λn=>[(0,255),(255,256)][n]?) z.toArray [(0,xw (jN.map (Sc.enc (.int .u8))).toArray),(1,xw (tm.map (Sc.enc (.int .i64))).toArray)]=dB db.toArray:=by
   intro z b;have e:z=[]++z.take 255++z.drop 255:=jj
   conv=>lhs;rw[e]
   rw[Tj (vs:=jN.map (Sc.enc (.int .u8))) i4 (by simp[ir]) (by simp[ir,b])];have e2:[]++jN.map (Sc.enc (.int .u8))++z.drop 255=jN.map (Sc.enc (.int .u8))++z.drop 255++[]:=jj
   rw[e2,Tj (vs:=tm.map (Sc.enc (.int .i64))) i4 (by simp[ir,Bb]) (by simp[Bb,b])];simp[wC,db]
  exact b _ i4
 ·have m:(Value.agg db.toArray).cells.toList=db:=rfl;refine(l.comp g).boxed λp s j=>?_;have d:=j.box 0 i4;exact⟨oA.2 ⟨d.aV _ n4,trivial⟩,p,i4,j.take 1 λi A f=>by cases i with|zero=>exact f|succ i=>simp at f⟩
theorem IM{h:f9}{a:f7}(c:fN h a)(n:Nat)(b:n<255):f8 h (a.add n)=dB (xq xy (Gf.pw n).toNat):=
 c.cell (by rw[db,qo (by simp[ir,b])];simp[jN,b])
theorem IN{h:f9}{a:f7}(c:fN h a)(x:UInt8)(d:x≠0):f8 h ((a.add 255).add x.toNat)=dB (xq xx (Gf.lg x)):=by
 have f:=c.addr;have e:(a.add 255).add x.toNat=a.add (255+x.toNat):=by rw[f,add_eq,add_eq,add_eq];congr 1;omega
 rw[e];refine c.cell ?_;have b:=wY x;have h0:x.toNat≠0:=λh0=>d (wL.1 h0);rw[db,qj (by simp[ir])];simp[ir,tm,b,h0]
theorem tq(a:f7)(h:f9):ac xB 247 #[xt (dB a)] h λv h'=>v=xt (dB a)/\h'=h:=by refine LI (dB a) ?_;unfold DU;exact Ak i4 ⟨i4,i4⟩
theorem uO(a:f7)(h:f9):ac xB 243 #[xt (dB a)] h λv h'=>v=xt (dB a)/\h'=h:=by refine Ut (dB a) ?_;unfold NE;exact Ak i4 ⟨i4,i4⟩
theorem Sq(a:f7)(h:f9):ac xB 338 #[xt (dB a)] h λv h'=>v=xt (dB a)/\h'=h:=by refine Uw (dB a) ?_;unfold NK;exact Ak i4 ⟨i4,i4⟩
theorem Dc{x:UInt8}:((x.toNat:Int)=0)↔x=0:=⟨λh=>wL.1 j6,λh=>by rw[h];rfl⟩
theorem LV(a:f7)(x y:UInt8)(h:f9)(d:fN h a):ac xB 294 #[xt (dB a),xq xy x.toNat,xq xy y.toNat] h λv h'=>v=xq xy (Gf.mul x y).toNat/\h'=h:=by
 refine LK (dB a) _ _ ?_;unfold DY;refine bi ?_;refine ck (λh0=>⟨by rw[Gf.mul,g0 (.inl (Dc.1 h0))];rfl,i4⟩) λi=>?_;refine ck (λh0=>⟨by rw[Gf.mul,g0 (.inr (Dc.1 h0))];rfl,i4⟩) λg=>?_;have b:x≠0:=λh0=>i (Dc.2 h0);have c:y≠0:=λh0=>g (Dc.2 h0);refine(tq a h).mono ?_;rintro v l ⟨rfl,rfl⟩;have j:=wY x;have k:=wY y;have l1:=Gf.MC x;have l2:=Gf.MC y;refine⟨dB a,i4,a,i4,⟨i5,i5⟩,(Gf.lg x:Int),?_,a,i4,⟨i5,i5⟩,(Gf.lg y:Int),?_,i6,a,i4,?_⟩
 ·rw[show((x.toNat:Int).toNat*1)=x.toNat by omega];exact IN d x b
 ·rw[show((y.toNat:Int).toNat*1)=y.toNat by omega];exact IN d y c
 rw[ak _];have e:wk ((Gf.lg x:Int)+(Gf.lg y:Int)) 255=(((Gf.lg x+Gf.lg y)%255:Nat):Int):=by rw[yR i5];rfl
 rw[e];have f:=vm (Gf.lg x+Gf.lg y) (show 255>0 by decide);refine⟨⟨i5,i5⟩,_,?_,by rw[Gf.mul,g9 (by simp[b,c])],i4⟩;rw[show((((Gf.lg x+Gf.lg y)%255:Nat):Int).toNat*1)=(Gf.lg x+Gf.lg y)%255 by omega];exact IM d _ f
theorem afd(a:f7)(x:UInt8)(h:f9)(d:fN h a):ac xB 302 #[xt (dB a),xq xy x.toNat] h λv h'=>v=xq xy (Gf.inv x).toNat/\h'=h:=by
 refine LL (dB a) _ ?_;unfold DZ;refine ck (λh0=>⟨by rw[Gf.inv,g0 (Dc.1 h0)];rfl,i4⟩) λf=>?_;have b:x≠0:=λh0=>f (Dc.2 h0);refine(tq a h).mono ?_;rintro v g ⟨rfl,rfl⟩;have i:=wY x;have l1:=Gf.MC x;refine⟨dB a,i4,a,i4,⟨i5,i5⟩,(Gf.lg x:Int),?_,i6,a,i4,?_⟩
 ·rw[show((x.toNat:Int).toNat*1)=x.toNat by omega];exact IN d x b
 rw[ak _];have e:wk (255-(Gf.lg x:Int)) 255=(((255-Gf.lg x)%255:Nat):Int):=by rw[yR i5];omega
 rw[e];have c:=vm (255-Gf.lg x) (show 255>0 by decide);refine⟨⟨i5,i5⟩,_,?_,by rw[Gf.inv,g9 b],i4⟩;rw[show((((255-Gf.lg x)%255:Nat):Int).toNat*1)=(255-Gf.lg x)%255 by omega];exact IM d _ c
theorem afe(a:f7)(n:Int)(h:f9)(i:fN h a):ac xB 181 #[xt (dB a),xq xx n] h λv h'=>v=xq xy (Gf.pw (n%255).toNat).toNat/\h'=h:=by
 refine LC (dB a) n ?_;unfold DM;have j:=vC n (show(0:Int)<255 by decide);have g:-255<n.tmod 255:=Int.lt_tmod_of_pos n i6;have b:=Ti n 255 i6;have c:=Int.emod_nonneg n (show(255:Int)≠0 by decide);have d:=Int.emod_lt_of_pos n (show(0:Int)<255 by decide);refine⟨i6,bP (λs h'=>s=n%255/\h'=h) ?_ ?_⟩
 ·refine aj (λe=>?_) (λf=>?_)
  ·rw[g0 e]at b;exact⟨by rw[ak _,b],i4⟩
  ·rw[g9 f]at b;exact⟨b.symm,i4⟩
 ·rintro s h' ⟨rfl,rfl⟩;refine(tq a h').mono ?_;rintro v g ⟨rfl,rfl⟩;refine⟨dB a,i4,a,i4,⟨c,d⟩,_,?_,i4,i4⟩;rw[z7];exact IM i _ i5
theorem kL(p:Pm)(h:f9):ac xB 116 #[kW p] h λv h'=>v=xq xx (bJ p)/\Sp h h' []:=by refine Ui p ?_;unfold Ni;refine(Sp.refl h).boxed λa g d=>?_;refine⟨p,(d.box 0 i4).aV _ i4,?_⟩;refine(eK p g).mono ?_;rintro v i ⟨rfl,f⟩;have b:=d.comp f;have c:=b.box 0 i4;refine⟨_,i4,bo (λe=>⟨by simp[bJ,e],.zip b.ai⟩) λe=>?_⟩;refine⟨_,c.cell0 i4,_,c.cell i4,?_,.zip b.ai⟩;have:=(co p).1 e;rw[ak _,bJ,g0 e]
theorem aco(n i:Int)(h:f9):ac xB 180 #[xq xx n,xq xx i] h λv h'=>∃s:Sl,v=s/\
  Sp h h' [an 5 s 1 aF (if 1<=n/\n<=64/\0<=i/\i<n then(qh n.toNat (0:UInt8)).set i.toNat 1 else[])]:=by
 refine Up n i ?_;unfold Nv;have a:∀c:Prop,¬c->[Decidable c]->Sp h h [an 5 ⟨eH,0,0⟩ 1 aF (if c then(qh n.toNat (0:UInt8)).set i.toNat 1 else[])]:=λc b _=>by
  rw[g9 b];exact(Sp.refl h).nil 5 1 aF
 refine bi ?_;refine aj (λe=>⟨⟨eH,0,0⟩,i4,a _ i5⟩) λm=>?_;refine aj (λe=>⟨⟨eH,0,0⟩,i4,a _ i5⟩) λe2=>?_;refine aj (λe=>⟨⟨eH,0,0⟩,i4,a _ i5⟩) λl=>?_;refine aj (λe=>⟨⟨eH,0,0⟩,i4,a _ i5⟩) λj=>?_;refine(Sp.refl h).make af aF ⟨_,_,i4,i4,i4,i4,i4,i4⟩ i6 0 i4 i4 n.toNat n.toNat i5 i5 (qm _) i5 λs g o b f=>?_;refine f.set af 0 i4 (λ_=>rfl) i4 i.toNat i5 i9 1 i4 i4 i4 λk d=>?_;refine⟨s,i4,?_⟩;rw[g0 i5];exact d
theorem Sr(s:Int)(h:f9):ac xB 232 #[xq xz s] h λv h'=>∃a:f7,v=xt (dB a)/\Sp h h' [au a 369 [xq xA (qc xA s)]]:=by refine Us s ?_;unfold NB;exact(Sp.refl h).boxed λa c b=>⟨a,i4,b⟩
theorem Ef(a:f7)(s:Int)(h:f9)(d:cx h a 369 [xq xA s]):ac xB 233 #[xt (dB a)] h λv h'=>v=xq xz (told s)/\cx h' a 369 [xq xA (FP s)]/\bc (·≠a.block) h h':=by refine It (dB a) ?_;unfold AU;refine Ak i4 ⟨a,i4,s,d.cell0 i4,a,i4,?_⟩;refine Ex af d i4 _ i4 i4 i4 (qm _) λe b c _=>?_;exact⟨a,i4,_,b.cell0 i4,i6,i4,b,c⟩
theorem NW(a:f7)(s n:Int)(h:f9)(f:cx h a 369 [xq xA s])(g:0<n:=by omega)(d:n<=2^62:=by omega):ac xB 296 #[xt (dB a),xq xx n] h λv h'=>v=xq xx (mK s n)/\cx h' a 369 [xq xA (FP s)]/\bc (·≠a.block) h h':=by refine GR (dB a) n ?_;unfold wf;refine bi (Ak i4 (aj (λe=>i5) λ_=>?_));refine(Ef a s h f).mono ?_;rintro v i ⟨rfl,c,b⟩;exact⟨_,i4,o9,i4,c,b⟩
theorem Yl(a b:Nat)(d:a<=2^40)(c:b<=2^40):qc xx ((a:Int)+(b:Int))=((a+b:Nat):Int):=by rw[ak _];rfl
theorem acp(l:Nat)(h:f9)(f:l<=20):ac xB 336 #[xq xx l] h λv h'=>v=xq xx (fI l)/\h'=h:=by
 have g:∀l:Nat,l<=20->∀r:Nat,r<=5->(∀j,j<r->j*j<l)->r*r<l->r<5:=i6
 have m:∀l:Nat,l<=20->∀r:Nat,r<=5->(∀j,j<r->j*j<l)->¬r*r<l->r=fI l:=i6
 refine LM l ?_;unfold Ea;refine aA (λr:Nat=>(r:Int)) (λr h'=>h'=h/\r<=5/\∀j,j<r->j*j<l) (λr=>5-r) 0 i4 ⟨i4,i5,λj c=>i5⟩ ?_;rintro r h' ⟨rfl,d,c⟩;have k:r*r<=25:=Nat.mul_le_mul d d;have e:qc xx ((r:Int)*(r:Int))=((r*r:Nat):Int):=by rw[<-wM];exact xC _
 rw[e];refine aj (λn=>?_) (λi=>?_)
 ·have a:r*r<l:=i5
  have o:=g l f r d c a;refine⟨r+1,j0,⟨i4,i5,λj b=>?_⟩,i5⟩;rcases Nat.lt_succ_iff_lt_or_eq.1 b with b|rfl
  ·exact c j b
  ·exact a
 ·exact⟨by rw[m l f r d c i5],i4⟩
theorem acq(r:Nat)(h:f9)(b:r<=5):ac xB 155 #[xq xA r] h λv h'=>v=xq xx (JD r)/\h'=h:=by
 intro w a;refine(Tryz.bits_Len (r:Int) w i5 i5).mono ?_;rintro e w' ⟨rfl,rfl⟩;have k:∀r:Nat,r<=5->Lib.bitLen r=JD r:=j5
 exact⟨_,i4,dC.refl _,by rw[ql,k r b],a⟩
theorem WS(l k:Nat)(h:f9)(b:l<=20)(a:1<=l)(g:k<=20)(d:1<=k):ac xB 297 #[xq xx l,xq xx k] h λv h'=>v=xq xx (sW l k)/\h'=h:=by
 have r:∀k:Nat,k<=20->1<k->qc xx ((k:Int)*qc xx ((k:Int)-1))=((k*(k-1):Nat):Int)/\k*(k-1)≠0:=i6
 have m:∀l:Nat,l<=20->1<=l->1<=fI l/\fI l<=5:=i6
 have c3:∀l:Nat,l<=20->1<=l->qc xx (wA (l:Int) (fI l))=((l/fI l:Nat):Int):=i6
 have j:∀l:Nat,l<=20->1<=l->∀k:Nat,k<=20->1<=k->qc xx ((l:Int)*k)≠0:=j5
 have n:∀k:Nat,k<=20->1<k->qc xx (wA (1048576:Int) (qc xx ((k:Int)*qc xx ((k:Int)-1))))=((1048576/(k*(k-1)):Nat):Int):=j5
 have p:∀l:Nat,l<=20->1<=l->qc xx (wA (1048576:Int) (l:Int))=((1048576/l:Nat):Int):=j5
 have y:∀l:Nat,l<=20->1<=l->∀k:Nat,k<=20->1<=k->qc xx (wA (qc xx ((1048576:Int)*fI l)) (qc xx ((l:Int)*k)))=((1048576*fI l/(l*k):Nat):Int):=j5
 have t:∀l:Nat,l<=20->1<=l->qc xx (wA (qc xx ((qc xx ((1048576:Int)*fI l))*JD (fI l))) (l:Int))=((1048576*fI l*JD (fI l)/l:Nat):Int):=j5
 have x:∀l:Nat,l<=20->∀k:Nat,k<=20->1048576*fI l/(l*k)<=2^30/\1048576*fI l*JD (fI l)/l<=2^30/\1048576/(k*(k-1))<=2^30/\1048576/l<=2^30:=j5
 refine IA l k ?_;unfold AX;have i:=x l b k g;refine(acp l h b).mono ?_;rintro v o ⟨rfl,rfl⟩;have q:=m l b a;refine⟨_,i4,i5,bP (λs h'=>s=(((if k>1 then 1048576/(k*(k-1))else 1048576/l):Nat):Int)/\h'=o) ?_ ?_⟩
 ·refine aj (λe=>?_) (λe=>?_)
  ·have:=r k g i5;refine⟨by rw[this.1];omega,by rw[n k g i5,g0 i5],i4⟩
  ·refine⟨by rw[p l b a,g9 i5],i4⟩
 ·rintro s u ⟨rfl,rfl⟩;have z:(if k>1 then 1048576/(k*(k-1))else 1048576/l)<=2^30:=by split<;>first|exact i.2.2.1|exact i.2.2.2
  refine bi ?_;dsimp only;refine⟨show((fI l:Nat):Int)≠0 by omega,?_⟩;rw[c3 l b a];refine aj (λe=>⟨j l b a k g d,?_,i4⟩) (λe=>?_)
  ·rw[y l b a k g d,Yl _ _ i5 (zd i.1 i6),sW,g0 (c:=k<l/fI l) (Int.ofNat_lt.1 e)]
  ·refine ck (λe2=>?_) (λe2=>?_)
   ·have w:qc xA (fI l:Int)=(fI l:Int):=o9
    rw[w];refine(acq (fI l) u q.2).mono ?_;rintro v h3 ⟨rfl,rfl⟩;refine⟨_,i4,i5,?_,i4⟩;rw[t l b a,Yl _ _ i5 (zd i.2.1 i6),sW,g9 (c:=k<l/fI l) λf=>e (Int.ofNat_lt.2 f),g0 (c:=k=l/fI l) (Int.ofNat_inj.1 e2)]
   ·exact⟨by rw[sW,g9 (c:=k<l/fI l) λf=>e (Int.ofNat_lt.2 f),g9 (c:=k=l/fI l) λf=>e2 (Int.ofNat_inj.2 f),Nat.add_zero],i4⟩
theorem ZD(l:Nat)(h:f9)(c:l<=20)(b:1<=l):ac xB 235 #[xq xx l] h λv h'=>∃s:Sl,v=s/\Sp h h' [an 3 s 1 av (km l)]:=by
 refine Kh l ?_;unfold Cj;refine bi (aj (λe=>i5) λ_=>aj (λe=>i5) λ_=>?_);refine(Sp.refl h).make af av gM i6 0 i4 i4 0 l i4 i4 i5 i5 λs q d o g=>?_;refine aA (λt:Sl×Nat=>(t.1,((nr l t.2:Nat):Int),((t.2+1:Nat):Int))) (λt h'=>t.2<=l/\Sp h h' [an 3 t.1 1 av ((km l).take t.2)]) (λt=>l-t.2) (s,0) i4 ⟨jj,l0⟩ ?_;rintro⟨s,k⟩ i ⟨r,a⟩;dsimp only at*;refine aj (λe=>?_) (λe=>?_)
 ·refine(WS l (k+1) i c b i5 i5).mono ?_;rintro v h3 ⟨rfl,rfl⟩;refine⟨_,i4,?_⟩;have n:=JE l c k i5;have p:=MD l c (k+1) i5;have e2:qc xx ((nr l k:Int)+(sW l (k+1):Int))=((nr l (k+1):Nat):Int):=by rw[ak _,nr];rfl
  dsimp only;rw[e2];refine a.push af 0 i4 gM i4 i6 (λ_=>rfl) fD _ i4 i6 pt λm u f=>?_;refine⟨(m,k+1),js,⟨i7,?_⟩,i7⟩;have j:(km l).take (k+1)=(km l).take k++[((nr l (k+1):Nat):Int)]:=by rw[aK _ _ sb];simp[km]
  dsimp only;rw[j];exact f
 ·refine⟨s,i4,?_⟩;rw[qi sb]at a;exact a
theorem WT{p:aC}(t:Sl)(lt:aD)(x b:Int)(h:f9)(g:Seq h p t 1 av lt)(r:0<=x)(a:lt.getLast?=dB b)(d:x<b)(q:i1 lt<=2^40):
  ac xB 295 #[t,xq xx x] h λv h'=>v=xq xx (YT lt x)/\h'=h:=by
 refine Iz t x ?_;unfold AW;have s:=g.len;have j:lt≠[]:=λe=>by rw[e]at a;cases a
 have m:0<i1 lt:=List.length_pos_iff.2 j;have c:lt[i1 lt-1]=b:=by rw[List.getLast?_eq_getElem?,qd i5]at a;simpa using a
 refine bi (ck (λe=>i5) λ_=>aj (λe=>i5) λ_=>?_);rw[ak _];refine g.bG (i1 lt-1) i5 i5 _ i4 ?_;rw[c];refine aj (λe=>i5) λ_=>?_;have i:(lt.findIdx λy=>decide (y>x))<i1 lt:=List.findIdx_lt_length_of_exists ⟨b,List.mem_of_getLast? a,n5⟩;refine aA (λk:Nat=>(k:Int)) (λk h'=>h'=h/\k<=(lt.findIdx λy=>decide (y>x))) (λk=>i1 lt-k) 0 i4 ⟨i4,i5⟩ ?_;rintro k h' ⟨rfl,n⟩;refine aj (λe=>?_) (λe=>i5);have f:k<i1 lt:=i5
 refine g.bG k i4 f _ i4 ?_;rw[ak _];refine aj (λe2=>?_) (λe2=>?_)
 ·have:(lt.findIdx λy=>decide (y>x))=k:=Nat.le_antisymm (Nat.le_of_not_lt λl=>by have:=List.not_of_lt_findIdx l;simp at this;omega) n;exact⟨by rw[YT,this];rfl,i4⟩
 ·refine⟨k+1,i4,⟨i4,?_⟩,i5⟩;refine Nat.lt_of_le_of_ne n λo=>?_;have:=List.findIdx_getElem (xs:=lt) (p:=λy=>decide (y>x)) (w:=i);simp only[<-o]at this;simp at this;omega
theorem Kj(t:Sl)(n:Nat)(a:f7)(s:Int)(h:f9)(g:Seq h (·≠a.block) t 1 av (km n))(l:cx h a 369 [xq xA s])(c:1<=n)(f:n<=20):
  ac xB 234 #[t,xt (dB a)] h λv h'=>v=xq xx (JF s n)/\cx h' a 369 [xq xA (FP s)]/\bc (·≠a.block) h h':=by
 refine LH t (dB a) ?_;unfold DS;have o:=g.len;rw[mw]at o;refine ck (λe=>i5) λ_=>?_;rw[ak _];refine g.bG (n-1) i5 sb _ i4 ?_;have m:(km n)[n-1]'(by rw[mw];omega)=((nr n n:Nat):Int):=by simp only[km,List.getElem_map,List.getElem_range];rw[show n-1+1=n by omega]
 rw[m];have p:=Tt n f c;have k:=JE n f n f;refine(NW a s _ h l).mono ?_;rintro v j ⟨rfl,i,d⟩;have b:=Aq s (nr n n);refine⟨_,i4,(WT t (km n) _ _ j (g.ai d) b.1 (ME n c) b.2 sb).mono ?_⟩;rintro v q ⟨rfl,rfl⟩;exact⟨_,i4,i4,i,d⟩
theorem acr(a:f7)(s:Int)(n k:Nat)(h:f9)(E:cx h a 369 [xq xA s])(S:n<=64)(U:k<=n):
  ac xB 236 #[xt (dB a),xq xx n,xq xx k] h λv h'=>∃r:Sl,v=r/\aa (λb=>b<h.size/\¬b=a.block) h h' [au a 369 [xq xA (gK n s (upto n) k).1],an 3 r 1 av (JC s n k)]:=by
 refine NC (dB a) n k ?_;unfold Gy;refine bi (aj (λe=>i5) λ_=>aj (λe=>i5) λ_=>aj (λe=>i5) λ_=>aj (λe=>i5) λ_=>?_);have G:aa (λb=>b<h.size/\¬b=a.block) h h [au a 369 [xq xA s]]:=.abd (λb=>b=a.block) (λb B=>by rw[B];exact E.lt) ⟨E,i4⟩;refine G.make af av gM i6 0 i4 i4 n n i4 i4 (qm _) i5 λv R V Q J=>?_;refine aA (λi:Nat=>(i:Int)) (λi h'=>i<=n/\aa (λb=>b<h.size/\¬b=a.block) h h' [au a 369 [xq xA s],an 3 v 1 av ((upto n).take i++qh (n-i) 0)]) (λi=>n-i) 0 i4 ⟨i5,by simpa using J⟩ ?_;rintro i T ⟨P,A⟩;refine aj (λe=>?_) (λe=>?_)
 ·have m:i<n:=i5
  refine A.set af 1 i4 (λ_=>rfl) i4 i i4 (by simp[ib];omega) (i:Int) i4 i4 i4 λh3 f=>?_;refine⟨i+1,j0,⟨i5,?_⟩,i5⟩;have e2:((upto n).take i++qh (n-i) 0).set i (i:Int)=(upto n).take (i+1)++qh (n-(i+1)) 0:=by
   have y:i1 ((upto n).take i)=i:=by rw[qY,ib];omega
   rw[aK _ _ sp,qV _ _ i5,y,zc,show n-i=n-(i+1)+1 by omega,yi,zq];simp[upto]
  rw[<-e2];exact f
 ·have m:i=n:=i5
  subst m;have e2:(upto i).take i++qh (i-i) 0=upto i:=by rw[qi sp];simp
  rw[e2]at A;refine aA (λj:Nat=>(j:Int)) (λj h'=>j<=k/\aa (λb=>b<h.size/\¬b=a.block) h h' [au a 369 [xq xA (gK i s (upto i) j).1],an 3 v 1 av (gK i s (upto i) j).2]) (λj=>k-j) 0 i4 ⟨i5,A⟩ ?_;rintro j h3 ⟨O,f⟩;have p:=Ar i s (upto i) j;rw[ib]at p;refine aj (λM=>?_) (λM=>?_)
  ·rw[ak _];have c:((i:Int)-(j:Int))=((i-j:Nat):Int):=i5
   rw[c];refine(NW a _ _ h3 (f.box 0 i4)).mono ?_;rintro w F ⟨rfl,t,z⟩;have l:=f.Dt 0 i4 z t;have I:=Aq (gK i s (upto i) j).1 ((i-j:Nat):Int);refine⟨_,i4,?_⟩;dsimp only;rw[ak _,ak _];have L:(j:Int)+mK (gK i s (upto i) j).1 ((i-j:Nat):Int)=((j+(mK (gK i s (upto i) j).1 ((i-j:Nat):Int)).toNat:Nat):Int):=i5
   have d:j+(mK (gK i s (upto i) j).1 ((i-j:Nat):Int)).toNat<(gK i s (upto i) j).2.length:=i5
   rw[L];have g:=l.seq 1 i4 λ_=>rfl;refine g.bG _ i4 d _ i4 ?_;refine g.bG j i4 i5 _ i4 ?_;refine l.set af 1 i4 (λ_=>rfl) i4 j i4 i5 _ i4 i4 i4 λK D=>⟨trivial,?_⟩
   refine D.set af 1 i4 (λ_=>rfl) i4 _ i4 n5 _ i4 i4 i4 λN H=>⟨trivial,?_⟩
   refine⟨j+1,i4,⟨i5,?_⟩,i5⟩;rw[gK,tR,lQ,lQ,Go.Vc.getD_lt d,Go.Vc.getD_lt (show j<(gK i s (upto i) j).2.length by omega)];exact H
  ·have u:j=k:=i5
   subst u;refine⟨⟨i5,i5⟩,?_⟩;have o:=f.seq 1 i4 λ_=>rfl;refine(kg ⟨v.ptr,j,v.cap⟩ ((gK i s (upto i) j).2.take j) h3 (o.take j i5) pt).mono ?_;rintro w F ⟨r,rfl,l⟩;refine⟨r,i4,?_⟩;refine(IE r _ F (l.own 0 i4) pt).mono ?_;rintro w K ⟨rfl,x,q⟩;have D:=(f.comp l).nR 2 i4 q x;exact⟨(),i4,r,i4,D.del 1⟩
theorem Co(p:Pm)(seed id:Int)(h:f9):ac xB 164 #[kW p,xq xz seed,xq xx id] h λv h'=>∃r:Sl,v=r/\Sp h h' [an 3 r 1 av (if bO p&&bX id then dv (bJ p).toNat seed id else[])]:=by
 refine WA p seed id ?_;unfold QP;refine(Sp.refl h).boxed λa B F=>?_;refine bi ?_;refine⟨p,(F.box 0 i4).aV _ i4,(eK p B).mono ?_⟩;rintro v u ⟨rfl,K⟩;have o:=F.comp K;have k:(bO p&&bX id)=eS->Sp h u [an 3 ⟨eH,0,0⟩ 1 av (if bO p&&bX id then dv (bJ p).toNat seed id else[])]:=λM=>by
  rw[M];exact(o.nil 3 1 av).take 1 (λi A c=>by cases i with|zero=>exact c|succ i=>simp at c)
 refine⟨_,i4,bo (λe=>⟨⟨eH,0,0⟩,i4,k o0⟩) λs=>?_⟩;refine aj (λe=>⟨⟨eH,0,0⟩,i4,k l4⟩) λV=>?_;refine aj (λe=>⟨⟨eH,0,0⟩,i4,k l4⟩) λe2=>?_;have hid:bX id=eR:=l4
 rw[s,hid];refine⟨p,(o.box 0 i4).aV _ i4,(kL p u).mono ?_⟩;rintro v h3 ⟨rfl,P⟩;have S:=o.comp P;have L:=(co p).1 s;have T:bJ p=p.1+p.2.1:=by rw[bJ,g0 s]
 obtain⟨n,N⟩:∃n:Nat,bJ p=n:=⟨(bJ p).toNat,i5⟩
 refine⟨_,i4,?_⟩;dsimp only;rw[N,ql];refine(Sr _ h3).mono ?_;rintro v Q ⟨d,rfl,D⟩;refine⟨dB d,i4,?_⟩;refine(Ef d _ Q (D.box 0 i4)).mono ?_;rintro v O ⟨rfl,w,l⟩;have z:=D.Dt 0 i4 l w;refine⟨_,i4,?_⟩;refine(ZD n O i5 i5).mono ?_;rintro v G ⟨t,rfl,m⟩;have f:=z.comp m;refine⟨t,i4,?_⟩;have g:∀b,t.on b->b≠d.block:=λb x U=>by
  have B:=(m.fresh 0 i4).2 b x;have u:=(z.box 0 i4).lt;omega
 refine(Kj t n d _ G ((m.own 0 i4).seq (λ_=>rfl) g) (f.box 0 i4) i5 i5).mono ?_;rintro v H ⟨rfl,y,j⟩;have E:=f.Dt 0 i4 j y;refine⟨_,i4,?_⟩;refine(acr d _ n _ H (E.box 0 i4) i5 (Au _ n i5 i5)).mono ?_;rintro v h8 ⟨r,rfl,J⟩;have R:=E.call 0 i4 (λb=>b=d.block) (λq I b x=>by rw[x];exact I.2) J;exact⟨r,i4,r,i4,((S.comp R).take 3 λi A c=>by cases i with|zero=>exact c|succ i=>simp at c)⟩
end Go.Qw
