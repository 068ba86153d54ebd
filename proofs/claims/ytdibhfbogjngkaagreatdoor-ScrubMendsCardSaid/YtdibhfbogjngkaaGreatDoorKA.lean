/- Lemmas for the proof of the law; no condition. -/
import Derived.Test.YtdibhfbogjngkaaGreatDoorTabS
import Derived.Test.YtdibhfbogjngkaaGreatDoorShelfA
set_option linter.unusedVariables false
set_option linter.unusedSimpArgs false
open Go.Proofs.Tryz renaming prog -> xt
open Go.Value renaming agg -> xn, bool -> xm, int -> xi, pointer -> xk, slice -> xj, string -> xl
open Go.IntKind renaming bits -> ql, i64 -> xo, signed -> yY, u32 -> xq, u64 -> xr, u8 -> xp, wrap -> qc
open Option renaming isSome_iff_exists -> vt, some -> zT
open Int renaming fdiv -> q9, ofNat_inj -> vZ, tdiv -> yc, tmod -> wj
open UInt8 renaming ofNat -> yB, ofNat_toNat -> yP, toNat_lt -> wQ
open List renaming exists_cons_of_length_eq_add_one -> yt, length -> vA, length_zipWith -> vn, mem_of_getElem? -> w4, range -> qw, replicate -> qg, take_append_of_le_length -> ym
open Nat renaming mod_eq_of_lt -> yW
open BitVec renaming ofInt -> qF, ofNat -> vR
open Prod renaming fst -> qM, snd -> zF
open Go.Instr renaming fill -> wy, storeAt -> qf
set_option maxRecDepth 100000
open Option renaming some -> dB, none -> eH
open Bool renaming true -> eR, false -> eS
open Go renaming Addr -> fz
open Go.Vc renaming cellOf -> f7, Heap -> f8
open List renaming length -> i0
namespace Go.Vc
open Go Wl
abbrev Cells:=cw
abbrev powC(w:Pow)(l:Int):bc:=[xm w.off,xm w.fuse.isSome,xi xo l,xi xo w.offs]
def Nk(w:Pow)(l:Int):Prop:=∀k,w.fuse=dB k->l=k/\k<2^62
def dE(t:Nat)(a:fz)(w:Pow):HP:=HP.ex λl:Int=>(ao a t (powC w l)).and (Nk w l)
section
variable {B:aB} {h0 h h':f8} {As:List HP} {t:Nat} {a:fz} {w:Pow}
theorem aa.DF(H:aa B h0 h (dE t a w::As)):∃l,Nk w l/\aa B h0 h (ao a t (powC w l)::As):=by obtain⟨l,H⟩:=H.ta;obtain⟨H,b⟩:=H.KM;exact⟨l,b,H⟩
theorem aa.Ls{l:Int}(b:Nk w l)(H:aa B h0 h (ao a t (powC w l)::As)):aa B h0 h (dE t a w::As):=
 (H.toKM b).yT (F:=λl:Int=>(ao a t (powC w l)).and (Nk w l)) l
end
end Go.Vc
namespace Go.Qw
open Go Go.Vc Go.Proofs Wl
section
variable {B:aB} {h0 h h':f8} {As:List HP} {t:Nat} {a:fz} {w:Pow}
theorem Jp(l:Int)(b:cv h a 92 (powC w l)):ab xt 121 #[xk (dB a)] h λv h'=>v=xm (!w.off)/\h'=h:=by refine Hx (dB a) ?_;unfold Aw;exact bD (λ_=>⟨a,i4,w.off,b.cell0 i4,i4,i4⟩) λe=>j3
theorem Qk(l:Int)(b:cv h a 92 (powC w l)):ab xt 41 #[xk (dB a)] h λv h'=>v=xi xo w.offs/\h'=h:=by refine ED (dB a) ?_;unfold tZ;exact bD (λe=>j3) λ_=>⟨a,i4,w.offs,b.cell i4,i4,i4⟩
theorem Ia(h:f8):ab xt 9 #[] h λv h'=>∃a,v=xk (dB a)/\Sp h h' [dE 92 a Pow.new]:=by refine Rh ?_;unfold JV;refine(Sp.refl h).boxed λa c b=>⟨a,i4,aa.Ls (l:=0) (w:=Pow.new) (λk e=>j3) b⟩
theorem Ib(H:aa B h0 h (dE 92 a w::As)):ab xt 170 #[xk (dB a)] h λv h'=>v=xm w.step.1/\aa B h0 h' (dE 92 a w.step.2::As):=by
 obtain⟨l,p,b⟩:=H.DF;refine EK (dB a) ?_;unfold ug;refine(Jp l (b.box 0 i4)).mono ?_;rintro _ t ⟨rfl,rfl⟩;refine⟨_,i4,bh (λe=>?_) λe=>?_⟩
 ·have:w.step=(eS,w):=by unfold Pow.step;rw[f9 l5]
  rw[this];exact⟨i4,H⟩
 have g:w.off=eS:=l5
 refine⟨a,i4,_,(b.box 0 i4).cell i4,bh (λe2=>?_) λe2=>?_⟩
 ·have:w.step=(eR,w):=by
   unfold Pow.step;rw[g0 pa];cases d:w.fuse with
   |none=>rfl
   |some k=>rw[d]at e2;cases e2
  rw[this];exact⟨i4,H⟩
 obtain⟨k,d⟩:∃k,w.fuse=dB k:=vt.1 e2;obtain⟨rfl,u⟩:=p k d;have r:powC w (k:Int)=[xm eS,xm eR,xi xo k,xi xo w.offs]:=by simp[powC,g,d]
 rw[r]at b;refine⟨a,i4,_,(b.box 0 i4).cell i4,de (λo=>?_) λo=>?_⟩
 ·have m:k=0:=i5
  subst m;have i:w.step=(eS,⟨eR,dB 0,qc xo (w.offs+1)⟩):=by unfold Pow.step;rw[g0 pa,d]
  rw[i];refine⟨a,i4,b.lE ac 0 i4 i4 [xm eR] i4 i4 i4 jj λx n=>?_⟩;refine⟨a,i4,w.offs,(n.box 0 i4).cell i4,a,i4,n.store ac 0 i4 i4 3 [xi xo (qc xo (w.offs+1))] i4 i4 i4 (by simp[powC]) λh3 f=>⟨i4,?_⟩⟩;refine aa.Ls (l:=((0:Nat):Int)) (λq c=>by cases c;exact⟨i4,i6⟩) ?_;exact f
 ·obtain⟨j,rfl⟩:∃j,k=j+1:=⟨k-1,i5⟩
  have i:w.step=(eR,⟨eS,dB j,w.offs⟩):=by unfold Pow.step;rw[g0 pa,d]
  rw[i];refine⟨a,i4,_,(b.box 0 i4).cell i4,a,i4,b.store ac 0 i4 i4 2 [xi xo (qc xo (((j+1:Nat):Int)-1))] i4 i4 i4 (by simp[powC]) λh3 f=>⟨i4,?_⟩⟩;refine aa.Ls (l:=(j:Int)) (λq c=>by cases c;exact⟨i4,i5⟩) ?_;rw[ak _]at f;have s:((j+1:Nat):Int)-1=(j:Int):=i5
  rw[s]at f;exact f
end
abbrev Pm:=Int×Int×Int
abbrev lu(p:Pm):Value:=xn #[xi xo p.1,xi xo p.2.1,xi xo p.2.2]
theorem dW(p:Pm)(h:f8):ab xt 40 #[lu p] h λv h'=>v=xm (bB p)/\Sp h h' []:=by refine VC p ?_;unfold Qb;refine(Sp.refl h).boxed λa d g=>?_;have e:=g.box 0 i4;have c:Sp h d []:=.zip g.ag;have f:f7 d a=dB (xi xo p.1):=e.cell0 i4;have j:f7 d (a.add 1)=dB (xi xo p.2.1):=e.cell i4;have i:f7 d (a.add 2)=dB (xi xo p.2.2):=e.cell i4;unfold bB;refine⟨_,f,ai (λb=>?_) λb=>⟨o0,c⟩⟩;rw[g9 b];refine⟨_,f,ai (λb=>?_) λb=>⟨o0,c⟩⟩;rw[g9 b];refine⟨_,j,ai (λb=>?_) λb=>⟨o0,c⟩⟩;rw[g9 b];refine⟨_,j,ai (λb=>?_) λb=>⟨o0,c⟩⟩;rw[g9 b];refine⟨_,i,ai (λb=>?_) λb=>⟨o0,c⟩⟩;rw[g9 b];exact⟨_,i,i4,c⟩
abbrev gm:cj C.toCU 22 3 1 [xi xo 0] 8:=⟨_,_,i4,i4,i4,i4,i4,i4⟩
abbrev gz:cj C.toCU 34 5 1 [xi xp 0] 1:=⟨_,_,i4,i4,i4,i4,i4,i4⟩
abbrev fx:cj C.toCU 85 34 1 [xj eH 0 0] 24:=⟨_,_,i4,i4,i4,i4,i4,i4⟩
theorem jX(s:Sl)(l:az)(h:f8)(b:Rd h s 1 aq l)(c:i0 l<=2^30):ab xt 128 #[s] h λv h'=>∃r:Sl,v=r/\Sp h h' [al 3 r 1 aq l]:=by
 refine Ax s ?_;unfold ox;refine bD (λe=>?_) (λe=>?_)
 ·have:=b.isNil e;subst this;exact⟨⟨eH,0,0⟩,i4,(Sp.refl h).nil 3 1 aq⟩
 ·refine(Sp.refl h).lit ac aq gm i4 [] i4 i6 i4 λg i a=>?_;refine a.append ac 0 i4 gm ⟨_,_,i4,i4⟩ i4 i6 (λ_=>rfl) (b.up a.ag) fN i9 λf j d=>⟨f,i4,d⟩
theorem fC(s:Sl)(l:ba)(h:f8)(b:Rd h s 1 aD l)(c:i0 l<=2^30):ab xt 146 #[s] h λv h'=>∃r:Sl,v=r/\Sp h h' [al 5 r 1 aD l]:=by
 refine MQ s ?_;unfold FN;refine bD (λe=>?_) (λe=>?_)
 ·have:=b.isNil e;subst this;exact⟨⟨eH,0,0⟩,i4,(Sp.refl h).nil 5 1 aD⟩
 ·refine(Sp.refl h).lit ac aD gz i4 [] i4 i6 i4 λg i a=>?_;refine a.append ac 0 i4 gz ⟨_,_,i4,i4⟩ i4 i6 (λ_=>rfl) (b.up a.ag) gV i9 λf j d=>⟨f,i4,d⟩
theorem Ql{e:TypeId}(s:Sl)(l:az)(h:f8)(c:Own h e s 1 aq l)(a:i0 l<2^40):ab xt 148 #[s] h λv h'=>v=.tuple #[]/\Own h' e s 1 aq (ly l)/\aY (λb=>¬s.on b) h h':=
 SH Tryz.slices_Sort_int Tryz.slices_Sort_int_none c a
theorem fA(x n:Int)(h:f8)(a:0<n)(e:n<=2^62):ab xt 12 #[xi xo x,xi xo n] h λv h'=>v=xi xo (x%n)/\h'=h:=by
 refine xz x n ?_;unfold nT;have f:=vw x a;have g:-n<x.tmod n:=Int.lt_tmod_of_pos x a;have d:=Sx x n a;refine⟨i5,bj ?_⟩;refine ai (λb=>?_) (λc=>?_)
 ·rw[ak _];exact⟨by rw[d,f9 b],i4⟩
 ·exact⟨by rw[d,g0 c],i4⟩
theorem Nl{p q:aB}(a b:Sl)(c f:Row)(h:f8)(o:Seq h p a 1 aD c)(r:Seq h q b 1 aD f)(w:i0 c<=2^40:=by omega):
  ab xt 33 #[a,b] h λv h'=>v=xm (decide (c=f))/\h'=h:=by
 refine sD a b ?_;unfold mG;have l:=o.len;have j:=r.len;refine bQ (λd=>⟨?_,i4⟩) (λn=>?_)
 ·rw[hZ λe=>d (by rw[l,j,e])]
 ·refine aw (λk:Nat=>(k:Int)) (λk h'=>h'=h/\k<=i0 c/\c.take k=f.take k) (λk=>i0 c-k) 0 i4 ⟨i4,i5,jj⟩ ?_;rintro k h' ⟨rfl,x,m⟩;refine ai (λt=>?_) (λs=>?_)
  ·have i:k<i0 c:=i5
   have g:k<i0 f:=i5
   refine o.bC k i4 i _ i4 ?_;refine r.bC k i4 g _ i4 ?_;refine bQ (λd=>⟨?_,i4⟩) (λn=>?_)
   ·rw[hZ];intro e;subst e;exact d i4
   ·rw[ak _];have u:c[k]=f[k]:=yy.1 i5;exact⟨k+1,jj,⟨i4,i5,by rw[aG _ _ i,aG _ _ g,m,u]⟩,i5⟩
  ·have:k=i0 c:=i5
   subst this;rw[qi i5,qi i5]at m;exact⟨by rw[g9 m],i4⟩
end Go.Qw
namespace Wl
structure gB (d:bo):Prop where
 wait:d.wait<=i0 d.l
 len:i0 d.l<=d.room
 room:d.room<=512
 cell:∀c∈d.l,i0 c=64
 laid:i0 d.laid<=d.room
 cellL:∀c∈d.laid,i0 c=64
section
variable {d:bo} {w:Pow} {b:ba}
theorem gB.new{n:Nat}(h:n<=512):gB (bo.new n):=⟨qk _,zE _,h,by simp[bo.new],zE _,by simp[bo.new]⟩
theorem gB.rewrite{l:cw}(h:gB d):gB (d.rewrite w l).2.2:=by
 obtain⟨a,b,h3,e,g,i⟩:=h;unfold bo.rewrite;split
 ·exact⟨a,b,h3,e,g,i⟩
 ·rename_i f;have f:∀c∈l,i0 c=64:=o5
  split
  ·exact⟨a,b,h3,e,g,i⟩
  ·split
   ·exact⟨a,b,h3,e,g,i⟩
   ·split
    ·exact⟨a,b,h3,e,g,i⟩
    ·split
     ·exact⟨zE _,i7,h3,f,zE _,jj⟩
     ·exact⟨a,b,h3,e,i7,f⟩
end
end Wl
namespace Go.Vc
open Go Wl Go.Qw
abbrev fa(s:Sl)(l:Cells):HP:=dQ 34 s 5 1 aD l
def iK(t:Nat)(f:bo->Sl->Sl->bc)(a:fz)(d:bo):HP:=
 (HP.ex λb:Sl×Sl=>(ao a t (f d b.1 b.2)).sep ((fa b.1 d.l).sep (fa b.2 d.laid))).and (gB d)
section
variable {B:aB} {h0 h h':f8} {As:List HP} {t:Nat} {f:bo->Sl->Sl->bc} {a:fz} {d:bo}
theorem aa.tj(H:aa B h0 h (iK t f a d::As)):gB d/\∃s b:Sl,aa B h0 h (ao a t (f d s b)::fa s d.l::fa b d.laid::As):=by obtain⟨H,ok⟩:=H.KM;obtain⟨c,H⟩:=H.ta;exact⟨ok,c.1,c.2,H.tH.tH.aZ 3 [2,1,0]⟩
theorem aa.DG{s b:Sl}(ok:gB d)(H:aa B h0 h (ao a t (f d s b)::fa s d.l::fa b d.laid::As)):aa B h0 h (iK t f a d::As):=
 ((((H.aZ 3 [2,1,0]).mi).mi).yT (F:=λc:Sl×Sl=>(ao a t (f d c.1 c.2)).sep ((fa c.1 d.l).sep (fa c.2 d.laid))) (s,b)).toKM ok
end
end Go.Vc
namespace Go.Qw
open Go Go.Vc Go.Proofs Wl
abbrev ga(pw:fz)(d:bo)(s b:Sl):bc:=[xk (dB pw),xi xo d.room,s,xi xo d.wait,b,xm d.has,xm d.lost]
abbrev ki(pw a:fz)(d:bo):HP:=iK 156 (ga pw) a d
section
variable {B:aB} {h0 h h':f8} {As:List HP} {a pw:fz} {d:bo} {w:Pow}
theorem Nm(n:Int)(pw:fz)(h:f8):ab xt 43 #[xi xo n,xk (dB pw)] h λv h'=>
  (1<=n/\n<=512->∃a,v=xk (dB a)/\Sp h h' [ki pw a (bo.new n.toNat)])/\(¬(1<=n/\n<=512)->v=xk eH/\Sp h h' []):=by
 refine Ri n (dB pw) ?_;unfold JW;refine bj (ai (λe=>⟨λc=>absurd c i5,λ_=>⟨i4,Sp.refl h⟩⟩) λi=>ai (λe=>⟨λc=>absurd c i5,λ_=>⟨i4,Sp.refl h⟩⟩) λe2=>bD (λe=>j3) λ_=>?_);refine(Sp.refl h).boxed λa g d=>⟨λ_=>⟨a,i4,?_⟩,λc=>absurd i5 c⟩
 refine aa.DG (s:=⟨eH,0,0⟩) (b:=⟨eH,0,0⟩) (gB.new i5) ?_;have e:((n.toNat:Nat):Int)=n:=i5
 have f:=((d.Aa 34 5 1 aD).Aa 34 5 1 aD).aZ 3 [2,1,0];have e2:ga pw (bo.new n.toNat) ⟨eH,0,0⟩ ⟨eH,0,0⟩=[xk (dB pw),xi xo n,xj eH 0 0,xi xo 0,xj eH 0 0,xm eS,xm eS]:=by simp only[ga,bo.new,e];rfl
 rw[e2];exact f
theorem Ic(s b:Sl)(c:bo)(H:aa B h0 h (ao a 156 (ga pw d s b)::fa s d.l::fa b d.laid::dE 92 pw w::As))(ok:gB d)(f:c={d with laid:=[],has:=eS}):
  ab xt 171 #[xk (dB a)] h λv h'=>v=xi xo 0/\aa B h0 h' (ki pw a c::dE 92 pw w::As):=by
 refine EL (dB a) ?_;unfold uh;refine⟨a,i4,H.store ac 0 i4 i4 4 [xj eH 0 0] i4 i4 i4 lb λi g=>?_⟩;refine⟨a,i4,g.store ac 0 i4 i4 5 [xm eS] i4 i4 i4 lb λh3 e=>⟨i4,?_⟩⟩;subst f;refine aa.DG (s:=s) (b:=⟨eH,0,0⟩) ⟨ok.wait,ok.len,ok.room,ok.cell,zE _,jj⟩ ?_;exact((e.Aa 34 5 1 aD).aZ 5 [1,2,0,4])
theorem Kn(x:Sl)(row:ba)(H:aa B h0 h (ki pw a d::dE 92 pw w::As))(O:Rd h x 1 aD row)(Z:i0 row<=2^20):
  ab xt 102 #[xk (dB a),x] h λv h'=>v=xi xo (d.append w row).1/\aa B h0 h' (ki pw a (d.append w row).2.2::dE 92 pw (d.append w row).2.1::As):=by
 refine ow (dB a) x ?_;unfold my;have T:=O.len;obtain⟨ok,s,b,D⟩:=H.tj;have u:=D.box 0 i4;obtain⟨S,_⟩:=aa.Ef (D.aZ 4 [1]);have L:=ok.room;have P:=ok.len;have K:=ok.wait;have g:∀(e:Int),d.append w row=(e,w,d)->(Value.int .i64 e=xi xo (d.append w row).1/\aa B h0 h (ki pw a (d.append w row).2.2::dE 92 pw (d.append w row).2.1::As)):=λe X=>by
  rw[X];exact⟨i4,H⟩
 refine bj (bQ (λe=>g 1 (by unfold bo.append;rw[f9 i5])) λY=>?_);have y:i0 row=64:=i5
 refine bj (bD (λe=>j3) λ_=>⟨a,i4,d.lost,u.cell i4,bD (λe=>g 5 ?_) λf=>?_⟩)
 ·unfold bo.append;rw[g0 i5,f9 e]
 refine⟨a,i4,s,u.cell i4,a,i4,(d.room:Int),u.cell i4,ai (λe=>g 7 ?_) λJ=>?_⟩
 ·unfold bo.append;rw[g0 i5,g0 nn,f9 i5]
 obtain⟨l,hl,I⟩:=(D.aZ 4 [3,0,1,2]).DF;refine⟨a,i4,dB pw,u.cell0 i4,(Jp l (I.box 0 i4)).mono ?_⟩;rintro _ U ⟨rfl,rfl⟩;refine⟨_,i4,bh (λe=>g 14 ?_) λm=>?_⟩
 ·unfold bo.append;rw[g0 i5,g0 nn,g0 i5,f9 l5]
 have j:w.off=eS:=by simpa using m
 refine bj ⟨a,i4,s,u.cell i4,(fC x row U O i5).mono ?_⟩;rintro _ h4 ⟨r,rfl,R⟩;have z:=(D.ca R).aZ 5 [2,0,1,3,4];have q:=z.box 2 i4;refine⟨r,i4,⟨q.cell i4,trivial⟩,?_⟩;have W:=z;refine z.sq ac bs fx i4 [r] i4 (show 1*1<=2^20 by decide) i4 ⟨q.cell i4,trivial⟩ ?_;refine z.Eg ac fx i5 λE h6 G=>⟨trivial,?_⟩
 have G:=G.aZ 4 [1,0,2,3];refine⟨a,i4,G.store ac 0 i4 i4 2 [E] i4 i4 i4 lb λh7 N=>⟨trivial,?_⟩⟩;have M:=N.box 0 i4;refine⟨a,i4,(d.wait:Int),M.cell i4,a,i4,?_⟩;rw[ak ((d.wait:Int)+1)];refine N.store ac 0 i4 i4 3 [xi xo ((d.wait:Int)+1)] i4 i4 i4 lb λh8 Q=>?_;obtain⟨i,k⟩:∃i:bo,i={d with l:=d.l++[row],wait:=d.wait+1}:=⟨_,rfl⟩
 have t:gB i:=by
  subst k;refine⟨i9,i9,ok.room,λc p=>?_,ok.laid,ok.cellL⟩;rcases qD.1 p with p|p
  ·exact ok.cell c p
  ·rw[qx.1 p];exact y
 have o:aa B h0 h8 (ao a 156 (ga pw i E b)::fa E i.l::fa b i.laid::dE 92 pw w::As):=by rw[k];exact Q
 refine⟨a,i4,dB pw,(o.box 0 i4).cell0 i4,(Ib (o.aZ 4 [3,0,1,2])).mono ?_⟩;rintro _ h9 ⟨rfl,A⟩;have A:=A.aZ 4 [1,2,3,0];have n:d.append w row=if w.step.1 then(0,w.step.2,{i with laid:=[],has:=eS})else(14,w.step.2,i):=by rw[k];unfold bo.append;rw[g0 i5,g0 nn,g0 i5,g0 (by simp[j])]
 rw[n];refine⟨_,i4,bh (λe=>?_) λe=>?_⟩
 ·rw[e];exact⟨i4,A.DG t⟩
 ·rw[e];refine(Ic E b _ A t i4).mono ?_;rintro _ V ⟨rfl,F⟩;exact⟨0,i4,i4,F⟩
theorem Ph(x:Sl)(row:ba)(h:f8)(b:Rd h x 1 aD row):ab xt 102 #[xk eH,x] h λv h'=>v=xi xo (if row.length≠64 then 1 else 5)/\h'=h:=by refine ow eH x ?_;unfold my;have a:=b.len;refine bj (bQ (λe=>⟨by rw[f9 i5],i4⟩) λe=>?_);exact bj (bD (λ_=>⟨by rw[g0 i5],i4⟩) λe=>j3)
theorem aaR(H:aa B h0 h (ki pw a d::dE 92 pw w::As)):
  ab xt 173 #[xk (dB a)] h λv h'=>v=xi xo (d.sync w).1/\aa B h0 h' (ki pw a (d.sync w).2.2::dE 92 pw (d.sync w).2.1::As):=by
 refine rn (dB a) ?_;unfold nr;obtain⟨ok,s,b,j⟩:=H.tj;have i:=j.box 0 i4;refine bj (bD (λe=>j3) λ_=>⟨a,i4,d.lost,i.cell i4,bD (λe=>?_) λc=>?_⟩)
 ·have:d.sync w=(5,w,d):=by unfold bo.sync;rw[f9 e]
  rw[this];exact⟨i4,H⟩
 refine⟨a,i4,dB pw,i.cell0 i4,(Ib (j.aZ 4 [3,0,1,2])).mono ?_⟩;rintro _ m ⟨rfl,g⟩;have g:=g.aZ 4 [1,2,3,0];have f:d.sync w=if w.step.1 then(0,w.step.2,{{d with wait:=0}with laid:=[],has:=eS})else(14,w.step.2,d):=by unfold bo.sync;rw[g0 mn]
 rw[f];refine⟨_,i4,bh (λe=>?_) λe=>?_⟩
 ·rw[e];exact⟨i4,g.DG ok⟩
 ·rw[e];refine⟨a,i4,g.store ac 0 i4 i4 3 [xi xo 0] i4 i4 i4 lb λh3 l=>?_⟩;refine(Ic (d:={d with wait:=0}) s b _ l ⟨zE _,ok.len,ok.room,ok.cell,ok.laid,ok.cellL⟩ rfl).mono ?_;rintro _ n ⟨rfl,k⟩;exact⟨0,i4,i4,k⟩
theorem TQ(h:f8):ab xt 173 #[xk eH] h λv h'=>v=xi xo 5/\h'=h:=by refine rn eH ?_;unfold nr;exact bj (bD (λ_=>⟨i4,i4⟩) λe=>j3)
theorem ki.box(H:aa B h0 h (ki pw a d::As)):∃s b:Sl,cv h a 156 (ga pw d s b)/\fO h s 1 aD d.l/\s.len=i0 d.l:=by obtain⟨ok,s,b,c⟩:=H.tj;exact⟨s,b,c.box 0 i4,(c.aZ 3 [1]).Fs λ_=>rfl,(aa.Ef (c.aZ 3 [1])).1⟩
theorem aaS(s b:Sl)(c:cv h a 156 (ga pw d s b)):ab xt 244 #[xk (dB a)] h λv h'=>v=xi xo d.room/\h'=h:=by refine EN (dB a) ?_;unfold uj;exact bD (λe=>j3) λ_=>⟨a,i4,_,c.cell i4,i4,i4⟩
theorem Qm(s b:Sl)(c:cv h a 156 (ga pw d s b))(f:s.len=i0 d.l):ab xt 191 #[xk (dB a)] h λv h'=>v=xi xo (i0 d.l:Int)/\h'=h:=by refine Gp (dB a) ?_;unfold uW;exact bD (λe=>j3) λ_=>⟨a,i4,_,c.cell i4,by rw[f],i4⟩
theorem Ie(s b:Sl)(c:cv h a 156 (ga pw d s b)):ab xt 149 #[xk (dB a)] h λv h'=>v=xm d.lost/\h'=h:=by refine EJ (dB a) ?_;unfold uf;exact bD (λ_=>⟨a,i4,_,c.cell i4,i4,i4⟩) λe=>j3
theorem Lt(l:Sl)(a:Cells)(h:f8)(f:fO h l 1 aD a)(u:i0 a<=2^20)(m:∀c∈a,i0 c<=2^20):ab xt 167 #[l] h λv h'=>∃r:Sl,v=r/\Sp h h' [fa r a]:=by
 refine Rv l ?_;unfold Ki;have p:=f.len;refine aw (λt:Sl×Nat=>(t.1,(t.2:Int))) (λt h'=>t.2<=i0 a/\Sp h h' [fa t.1 (a.take t.2)]) (λt=>i0 a-t.2) (⟨eH,0,0⟩,0) i4 ⟨jj,by simpa using(Sp.refl h).Aa 34 5 1 aD⟩ ?_;rintro⟨s,i⟩ n ⟨x,d⟩;dsimp only at*;refine ai (λe=>?_) (λe=>?_)
 ·have b:i<i0 a:=i5
  refine(f.up d.ag).get i i4 b λr j=>?_;have:=m _ (qh b);refine(fC r _ n j i5).mono ?_;rintro _ w ⟨k,rfl,g⟩;refine⟨k,i4,?_⟩;refine aa.Eg ac (d.comp g) fx i9 λq h3 o=>?_;refine⟨(q,i+1),js,⟨i7,?_⟩,i7⟩;dsimp only;rw[aG _ _ b];exact o
 ·rw[qi i5]at d;exact⟨s,i4,d⟩
theorem Lu(s b:Sl)(f:cv h a 156 (ga pw d s b))(i:fO h s 1 aD d.l)(ok:gB d):ab xt 96 #[xk (dB a)] h λv h'=>∃r:Sl,v=r/\Sp h h' [fa r d.l]:=by
 refine Gm (dB a) ?_;unfold uU;have:=ok.len;have:=ok.room;refine bD (λe=>j3) λ_=>⟨a,i4,s,f.cell i4,(Lt s d.l h i i5 λc j=>by rw[ok.cell c j];decide).mono ?_⟩
 rintro _ k ⟨r,rfl,g⟩;exact⟨r,i4,r,i4,g⟩
end
theorem adQ(b:Sl)(l:ba)(h:f8)(p:Rd h b 1 aD l)(B:i0 l<=2^40):ab xt 213 #[b] h λv h'=>v=xi xq (CZ l).toNat/\h'=h:=by
 refine VI b ?_;unfold Qh;have A:=p.len;refine aw (λt:Nat=>(((wn (l.take t)).toNat:Int),(t:Int))) (λt h'=>t<=i0 l/\h'=h) (λt=>i0 l-t) 0 i4 ⟨i5,i4⟩ ?_;rintro i w ⟨E,rfl⟩;refine ai (λe=>?_) (λe=>?_)
 ·have d:i<i0 l:=by have x:(i:Int)<(b.len:Int):=e;omega
  refine p.bC i i4 d (l[i].toNat:Int) i4 ?_;have s:qc xq (l[i].toNat:Int)=((vR 32 l[i].toNat).toNat:Int):=by rw[aae,wY]
  rw[s,Yc];refine aw (λk:Nat=>(((CY k (wn (l.take i)^^^vR 32 l[i].toNat)).toNat:Int),(k:Int))) (λk h'=>k<=8/\h'=w) (λk=>8-k) 0 i4 ⟨i5,i4⟩ ?_;rintro k q ⟨D,rfl⟩;obtain⟨c,g⟩:∃c,c=CY k (wn (l.take i)^^^vR 32 l[i].toNat):=⟨_,rfl⟩
  dsimp only;rw[<-g];refine ai (λe2=>⟨i6,?_⟩) (λe2=>?_)
  ·have a:∀n:tI,n=Me c->∃f:Nat,(((n.toNat:Nat):Int),qc xo ((k:Int)+1))=(((CY f (wn (l.take i)^^^vR 32 l[i].toNat)).toNat:Int),(f:Int))/\(f<=8/\q=q)/\8-f<8-k:=λn u=>
    ⟨k+1,by rw[ak _,u,g];rfl,⟨i5,i4⟩,i5⟩
   have r:qc xq ((qF (ql xq) (c.toNat:Int)&&&qF (ql xq) (1:Int)).toNat:Nat)=((c&&&1#32).toNat:Int):=aiI c 1#32;have z:qc xq ((qF (ql xq) ((c>>>1).toNat:Int)^^^qF (ql xq) (3988292384:Int)).toNat:Nat)=(((c>>>1)^^^3988292384#32).toNat:Int):=Yc (c>>>1) 3988292384#32;rw[r,agb,z];refine de (λm=>a _ ?_) (λm=>a _ ?_)
   ·unfold Me;rw[f9 ((Xd c).1 m)]
   ·unfold Me;rw[g0 λy=>m ((Xd c).2 y)]
  ·have o:k=8:=i5
   subst o;refine⟨i+1,?_,⟨i5,i4⟩,i5⟩;rw[ak _,aG _ _ d,Yb,g];rfl
 ·have j:i=i0 l:=by have x:¬(i:Int)<(b.len:Int):=e;omega
  subst j;refine⟨?_,i4⟩;rw[qW];exact congrArg (Value.int .u32) (Yc 4294967295#32 (wn l))
theorem If(a:Int)(d:Sl)(l:ba)(h:f8)(z:Rd h d 1 aD l)(P:i0 l<=2^40:=by omega):ab xt 147 #[xi xo a,d] h λv h'=>∃r:Sl,v=r/\Sp h h' [al 5 r 1 aD (eE a l)]:=by
 refine TJ a d ?_;unfold MR;have N:=z.len;have g:¬(1<=a/\a<=255/\l.length<=55)->∃r:Sl,Value.slice eH 0 0=xj r.ptr r.len r.cap/\Sp h h [al 5 r 1 aD (eE a l)]:=λe=>by
  unfold eE;rw[g0 e];exact⟨⟨eH,0,0⟩,i4,(Sp.refl h).nil 5 1 aD⟩
 refine bj (ai (λe=>g i5) λO=>ai (λe=>g i5) λe2=>ai (λe=>g i5) λM=>?_);refine(Sp.refl h).make ac aD gz i6 0 i4 i4 64 64 i4 i4 (qk _) i6 λo A t q J=>?_;rw[eO];refine J.lit ac aD gz i4 [87,115,1,b8 a] i4 (show 4*1<=2^20 by decide) i4 λv3 h3 y=>?_;refine y.LY ac 0 i4 gz (λ_=>rfl) (y.seq 1 i4 λ_=>rfl) gV λ_ s k=>⟨⟨i6,by rw[t];decide⟩,?_⟩
 have k:Sp h s [al 5 o 1 aD ([87,115,1,b8 a]++qg 60 0)]:=by have:=k.cE [0];simpa using this
 refine k.SL ac 0 i4 gz (λ_=>rfl) (Seq.up z k.ag) gV 4 jj i4 i4 λ_ B n=>⟨⟨i6,by rw[q];decide⟩,?_⟩
 have L:([87,115,1,b8 a]++qg 60 0).take 4++(l.take (i0 ([87,115,1,b8 a]++qg 60 (0:UInt8))-4)++([87,115,1,b8 a]++qg 60 0).drop (4+i0 l))=ey a l++qg 5 0:=by
  have G:i0 ([87,115,1,b8 a]++qg 60 (0:UInt8))=64:=jj
  rw[G,qi (l:=l) i5,<-zN];have A:([87,115,1,b8 a]++qg 60 (0:UInt8)).drop 4=qg 60 0:=rfl;have h3:([87,115,1,b8 a]++qg 60 (0:UInt8)).take 4=[87,115,1,b8 a]:=rfl;rw[A,h3,List.drop_replicate];unfold ey;have s:qg (60-i0 l) (0:UInt8)=qg (55-i0 l) 0++qg 5 0:=by rw[List.replicate_append_replicate];congr 1;omega
  rw[s];simp[qq]
 rw[L]at n;have b:i0 (ey a l)=59:=GO i5;have D:Rd B ⟨o.ptr,59,o.cap⟩ 1 aD (ey a l):=by have:=(n.seq 0 i4 λ_=>rfl).take 59 oi;rw[ym i5,qi i5]at this;exact this
 refine(adQ ⟨o.ptr,59,o.cap⟩ (ey a l) B D i5).mono ?_;rintro _ S ⟨rfl,rfl⟩;obtain⟨c,w⟩:∃c,c=CZ (ey a l):=⟨_,rfl⟩
 rw[<-w];refine⟨_,i4,?_⟩;refine aw (λi:Nat=>(i:Int)) (λi h'=>i<=4/\Sp h h' [al 5 o 1 aD (ey a l++((oS c).take i++qg (5-i) 0))]) (λi=>4-i) 0 i4 ⟨i5,sp⟩ ?_;rintro i Q ⟨R,x⟩;have f:=SN c;refine ai (λe=>?_) (λe=>?_)
 ·have H:i<4:=by have K:(i:Int)<4:=e;omega
  rw[ak ((8:Int)*i),ak ((59:Int)+i)];refine⟨i5,?_⟩;have I:((8:Int)*(i:Int)).toNat=8*i:=i5
  have F:min (8*i) (ql xq)=8*i:=by have:ql xq=32:=rfl;omega
  rw[I,F,eO];have E:b8 (q9 (c.toNat:Int) (2^(8*i)))=(oS c)[i]'(by omega):=by simp[oS]
  rw[E];refine x.set ac 0 i4 (λ_=>rfl) i4 (59+i) i5 (by simp[b];omega) ((oS c)[i]'(by omega)) i4 i4 i4 λh8 j=>?_;refine⟨i+1,j1,⟨i5,?_⟩,i5⟩;have u:(ey a l++((oS c).take i++qg (5-i) 0)).set (59+i) ((oS c)[i]'(by omega))=ey a l++((oS c).take (i+1)++qg (5-(i+1)) 0):=by
   rw[qZ _ _ i5,b,zq,qZ _ _ i9,aG _ _];have:5-i=(5-(i+1))+1:=i5
   rw[this,ye];simp[f,Nat.min_eq_left (show i<=4 by omega)];rw[aG _ _ (show i<i0 (oS c) by omega),qq];rfl
  rw[u]at j;exact j
 ·have m:i=4:=by have K:¬(i:Int)<4:=e;omega
  subst m;refine x.set ac 0 i4 (λ_=>rfl) i4 63 i4 (by simp[b,f]) 165 i4 i4 i4 λh8 j=>⟨o,i4,?_⟩
  have p:(ey a l++((oS c).take 4++qg (5-4) 0)).set 63 165=eE a l:=by unfold eE;rw[f9 ⟨i5,i5,i5⟩,<-w,qi i5,qZ _ _ i5,b,qZ _ _ nn];simp[f]
  rw[p]at j;exact j
end Go.Qw
namespace Go.Vc
open Go Wl
abbrev ez:=ByteArray×Int×Int×Sl
abbrev ci:=Int×Int×Int×Int×Int×Int×Sl×Sl
abbrev bP(x:ez):bc:=[xl x.1,xi xo x.2.1,xi xo x.2.2.1,x.2.2.2]
abbrev bn(x:ci):bc:=[xi xo x.1,xi xo x.2.1,xi xo x.2.2.1,xi xo x.2.2.2.1,xi xo x.2.2.2.2.1,xi xo x.2.2.2.2.2.1,x.2.2.2.2.2.2.1,x.2.2.2.2.2.2.2]
abbrev gb(x:ci):Value:=xn #[xi xo x.1,xi xo x.2.1,xi xo x.2.2.1,xi xo x.2.2.2.1,xi xo x.2.2.2.2.1,xi xo x.2.2.2.2.2.1,x.2.2.2.2.2.2.1,x.2.2.2.2.2.2.2]
def jC:jz ez Wl.bM:=⟨λh q a b=>(a.1=b.name/\a.2.1=b.object/\a.2.2.1=b.length)/\Seq h q a.2.2.2 1 aq b.tries,λa c=>⟨a.1,a.2.ag c⟩,λa d=>⟨a.1,a.2.mono d⟩⟩
abbrev xT:jz Sl (List Wl.bM):=bL jC 4 bP
structure tk (h:f8) (q:aB) (x:ci) (m:aE):Prop where
 seq:x.1=m.seq
 next:x.2.1=m.next
 p:(x.2.2.1,x.2.2.2.1,x.2.2.2.2.1)=m.p
 extra:x.2.2.2.2.2.1=m.extra
 drives:Seq h q x.2.2.2.2.2.2.1 1 aq m.drives
 aH:xT.p h q x.2.2.2.2.2.2.2 m.aH
 dcap:x.2.2.2.2.2.2.1.len<=x.2.2.2.2.2.2.1.cap
 ocap:x.2.2.2.2.2.2.2.len<=x.2.2.2.2.2.2.2.cap
abbrev dG(h:f8)(x:ci)(m:aE):Prop:=tk h (λb=>b<h.size) x m
theorem tk.ag{h h':f8}{q:aB}{x:ci}{m:aE}(a:tk h q x m)(b:aY q h h'):tk h' q x m:=⟨a.seq,a.next,a.p,a.extra,a.drives.ag b,xT.loc a.aH b,a.dcap,a.ocap⟩
theorem tk.mono{h:f8}{q q':aB}{x:ci}{m:aE}(a:tk h q x m)(c:∀b,q b->q' b):tk h q' x m:=⟨a.seq,a.next,a.p,a.extra,a.drives.mono c,xT.mono a.aH c,a.dcap,a.ocap⟩
theorem dG.up{h h':f8}{x:ci}{m:aE}(a:dG h x m)(c:aY (λb=>b<h.size) h h'):dG h' x m:=(tk.ag a c).mono λ_ d=>q7 d c.1
def dF(x:ci)(m:aE):HP:=⟨λh q=>tk h q x m,λa b=>a.ag b,λa c=>a.mono c⟩
theorem Xq:∀x,∀c∈bP x,c.oneCell'=eR:=by intro x c a;simp[bP]at a;rcases a with rfl|rfl|rfl|rfl<;>rfl
end Go.Vc
namespace Go.Qw
open Go Go.Vc Go.Proofs Wl
theorem sE(n a b:Int)(h:f8):ab xt 162 #[xi xo n,xi xo a,xi xo b] h λv h'=>v=xm (fq n a b)/\h'=h:=by
 refine MT n a b ?_;unfold FP fq;refine ai (λe=>⟨?_,i4⟩) (λe=>⟨?_,i4⟩)
 ·rw[g9 (show a<=n from e)];rfl
 ·rw[hZ (show¬a<=n from e)];rfl
theorem Qn(s:ByteArray)(h:f8)(F:s.size<=2^40):ab xt 104 #[xl s] h λv h'=>v=xm (ms s)/\Sp h h' []:=by
 refine Ro s ?_;unfold Kc;refine agc ac ⟨_,i4,i4⟩ ⟨_,i4,i4⟩ ⟨_,i4,i4⟩ s λr A o=>?_;have w:=o.rd 0 i4;have z:=w.len;have B:=Ei s;refine aw (λi:Nat=>(i:Int)) (λi h'=>i<=s.size/\h'=A/\∀c∈(ju s).take i,ng c=eR) (λi=>s.size-i) 0 i4 ⟨i5,i4,jj⟩ ?_;rintro i u ⟨G,rfl,d⟩;refine ai (λe=>?_) (λe=>?_)
 ·have j:i<i0 (ju s):=by have E:(i:Int)<(r.len:Int):=e;omega
  refine w.bC i i4 j ((ju s)[i].toNat:Int) i4 ?_;obtain⟨c,q⟩:∃c,c=(ju s)[i]:=⟨_,rfl⟩
  rw[<-q];have a:ng c=eR->∃n:Nat,qc xo ((i:Int)+1)=(n:Int)/\(n<=s.size/\u=u/\∀c∈(ju s).take n,ng c=eR)/\s.size-n<s.size-i:=λt=>
   ⟨i+1,j1,⟨i5,i4,λx k=>by
    rw[aG _ _ j]at k;rcases qD.1 k with k|k
    ·exact d x k
    ·rw[qx.1 k,<-q];exact t⟩,i5⟩
  have f:ng c=eS->Value.bool eS=xm (ms s)/\Sp h u []:=λt=>by
   refine⟨?_,o.cE []⟩;unfold ms;have:s.data.toList.all ng=eS:=yp.2 ⟨c,by rw[q];exact qh j,by rw[t];simp⟩;rw[this];rfl
  have b:ng c=eR↔((97<=(c.toNat:Int)/\(c.toNat:Int)<=122)∨(48<=(c.toNat:Int)/\(c.toNat:Int)<=57)∨(c.toNat:Int)=45):=by unfold ng;simp[or_assoc];omega
  have g:ng c=eS↔¬((97<=(c.toNat:Int)/\(c.toNat:Int)<=122)∨(48<=(c.toNat:Int)/\(c.toNat:Int)<=57)∨(c.toNat:Int)=45):=by rw[<-b];cases ng c<;>simp
  refine ai (λp=>ai (λe2=>bQ (λl=>f (g.2 i5)) λl=>a (b.2 i5)) λe2=>ai (λl=>bQ (λm=>f (g.2 i5)) λm=>a (b.2 i5)) λl=>a (b.2 i5)) λp=>ai (λe2=>ai (λl=>bQ (λm=>f (g.2 i5)) λm=>a (b.2 i5)) λl=>ai (λm=>bQ (λD=>f (g.2 i5)) λD=>a (b.2 i5)) λm=>a (b.2 i5)) λe2=>a (b.2 i5)
 ·have E:¬(i:Int)<(r.len:Int):=e;rw[qi i5]at d;have y:s.data.toList.all ng=eR:=qL.2 d;refine ai (λp=>⟨?_,o.cE []⟩) (λp=>⟨?_,o.cE []⟩)
  ·unfold ms;rw[y,g9 (show 1<=s.size by omega)];congr 1;simp;omega
  ·unfold ms;rw[y,hZ (show¬1<=s.size by omega)];rfl
theorem aaT(s:Sl)(l:az)(most:Int)(h:f8)(o:Rd h s 1 aq l)(x:i0 l<=2^40):ab xt 163 #[s,xi xo most] h λv h'=>v=xm (pQ l most)/\h'=h:=by
 refine Ru s most ?_;unfold Kh;have u:=o.len;refine aw (λi:Nat=>(i:Int)) (λi h'=>i<=i0 l/\h'=h/\∀j,j<i->kd l most j=eR) (λi=>i0 l-i) 0 i4 ⟨i5,i4,i5⟩ ?_;rintro i f ⟨y,rfl,b⟩;refine ai (λe=>?_) (λe=>?_)
 ·have c:i<i0 l:=by have w:(i:Int)<(s.len:Int):=e;omega
  refine o.bC i i4 c l[i] i4 ?_;have n:l.getD i 0=l[i]:=getD_lt c;have g:kd l most i=eS->Value.bool eS=xm (pQ l most)/\f=f:=λq=>⟨by unfold pQ;rw[GP c q],i4⟩
  have a:kd l most i=eR->∃m:Nat,qc xo ((i:Int)+1)=(m:Int)/\(m<=i0 l/\f=f/\∀j,j<m->kd l most j=eR)/\l.length-m<i0 l-i:=λq=>
   ⟨i+1,j1,⟨i5,i4,λj t=>by
    by_cases p:j=i
    ·rw[p];exact q
    ·exact b j i5⟩,i5⟩
  refine(sE l[i] 0 most f).mono ?_;rintro _ _ ⟨rfl,rfl⟩;refine⟨_,i4,bh (λd=>g (by unfold kd;rw[n,d];rfl)) λd=>ai (λe2=>?_) λe2=>a (by unfold kd;rw[n,d,g9 (show i=0 by omega)];rfl)⟩;rw[ak ((i:Int)-1)];refine o.bC (i-1) i5 i5 (l[i-1]'(by omega)) i4 ?_;have k:l.getD (i-1) 0=l[i-1]'(by omega):=getD_lt;refine ai (λr=>g ?_) (λr=>a ?_)
  ·unfold kd;rw[n,k,d,hZ (show¬i=0 by omega),hZ i5];rfl
  ·unfold kd;rw[n,k,d,g9 (show l[i-1]'(by omega)<l[i]by omega)];simp
 ·have w:¬(i:Int)<(s.len:Int):=e;exact⟨by unfold pQ;rw[uz λj t=>b j i5],i4⟩
theorem xD(p:Pm)(n:Int)(h:f8)(m:n<=2^40:=by omega):ab xt 48 #[lu p,xi xo n] h λv h'=>v=xi xo (countP p n)/\Sp h h' []:=by
 refine Mu p n ?_;unfold FD;refine(Sp.refl h).boxed λq d f=>?_;refine bj ⟨p,(f.box 0 i4).aS _ i4,(dW p d).mono ?_⟩;rintro _ l ⟨rfl,i⟩;have b:=f.up i.ag;refine⟨_,i4,bh (λe=>⟨?_,b.cE []⟩) λg=>ai (λe=>⟨?_,b.cE []⟩) λe=>?_⟩
 ·unfold countP;rw[e];rfl
 ·unfold countP;rw[hZ (show¬0<n by omega),Bool.and_false];rfl
 ·have k:=(bZ p).1 g;refine⟨p,(b.box 0 i4).aS _ i4,?_⟩;refine(Dn p (R:=λv h'=>v=xi xo (p.1*p.2.2)/\Sp h h' []) ?_).mono ?_
  ·unfold Av;refine b.boxed λr h3 c=>⟨p.1,(c.box 1 i4).cell0 i4,p.2.2,(c.box 1 i4).cell i4,?_,c.cE []⟩
   have o:p.1*p.2.2<=16*24:=yn i5 i5 i5 i5;have a:0<=p.1*p.2.2:=vD i5 i5;rw[ak _]
  ·rintro _ h3 ⟨rfl,j⟩;have a:0<p.1*p.2.2:=Int.mul_pos i5 i5;refine⟨_,i4,Int.ne_of_gt a,?_,j⟩;have d:(n-1)/(p.1*p.2.2)<=n-1:=Int.ediv_le_self _ i5;have l:0<=(n-1)/(p.1*p.2.2):=Int.ediv_nonneg i5 i5;rw[ak (n-1),Int.tdiv_eq_ediv_of_nonneg i5,ak ((n-1)/(p.1*p.2.2)),ak _];unfold countP;rw[g,g9 (show 0<n by omega)];rfl
theorem VL(s:Sl)(l:az)(h:f8)(d:Rd h s 1 aq l)(k:i0 l<=2^40):ab xt 116 #[s,.func (.func 228) #[] #[]] h λv h'=>v=xm (!l.all (fq · 0 15))/\h'=h:=by
 refine kq s (228,#[],#[]) ?_;unfold iJ;have g:=d.len;refine(iS s (228,#[],#[]) (R:=λv h'=>(∃i:Int,v=xi xo i/\(decide (i>=0)=!l.all (fq · 0 15)))/\h'=h) ?_).mono ?_
 ·unfold gA;refine aw (λi:Nat=>(i:Int)) (λi h'=>i<=i0 l/\(l.take i).all (fq · 0 15)=eR/\h'=h) (λi=>i0 l-i) 0 i4 ⟨i5,jj,i4⟩ ?_;rintro i c ⟨f,a,rfl⟩;refine ai (λe=>?_) (λe=>?_)
  ·have b:i<i0 l:=by have j:(i:Int)<(s.len:Int):=e;omega
   refine d.bC i i4 b l[i] i4 (fe k8 ?_);refine(Lo l[i] (R:=λv h'=>v=xm (!fq l[i] 0 15)/\h'=c) ?_).mono ?_
   ·unfold Dy;refine(sE l[i] 0 15 c).mono ?_;rintro _ _ ⟨rfl,rfl⟩;exact⟨_,i4,i4,i4⟩
   ·rintro _ _ ⟨rfl,rfl⟩;refine⟨_,i4,bh (λe2=>?_) λe2=>?_⟩
    ·refine⟨⟨i,i4,?_⟩,i4⟩;rw[g9 (show(i:Int)>=0 by omega)];have:l.all (fq · 0 15)=eS:=yp.2 ⟨_,qh b,by rw[e2];simp⟩;rw[this];rfl
    ·refine⟨i+1,j1,⟨i5,?_,i4⟩,i5⟩;rw[aG _ _ b,yL,a];simp[e2]
  ·have j:¬(i:Int)<(s.len:Int):=e;refine⟨⟨-1,i4,?_⟩,i4⟩;rw[qi i5]at a;rw[a];rfl
 ·rintro _ c ⟨⟨i,rfl,f⟩,rfl⟩;exact⟨i,i4,by rw[f],i4⟩
end Go.Qw
namespace Wl
structure dg (m:aE):Prop where
 dr:m.drives.length<=2^30
 ob:m.aH.length<=2^30
 nm:∀e∈m.aH,e.name.size<=2^30/\e.tries.length<=2^30
end Wl
namespace Go.Vc
open Go
theorem addr_add(a:fz)(i j:Nat):(a.add i).add j=a.add (i+j):=by unfold Addr.add;by_cases c:i=0<;>by_cases b:j=0<;>simp[c,b,w9]
theorem cv.AI{h:f8}{a:fz}{e:TypeId}{b:bc}{v:Value}(c:cv h a e b)(i j:Nat)(d:b[i+j]?=dB v):f7 h ((a.add i).add j)=dB v:=by rw[addr_add];exact c.cell d
theorem cv.Jq{h:f8}{a:fz}{e:TypeId}{b:bc}{u v w:Value}(c:cv h a e b)(i:Nat)(f:b[i]?=dB u)(d:b[i+1]?=dB v)(g:b[i+2]?=dB w):an h (a.add i) 0 [u,v,w]:=
 ⟨c.AI i 0 f,c.AI i 1 d,c.AI i 2 g,trivial⟩
end Go.Vc
namespace Go.Qw
open Go Go.Vc Go.Proofs Wl
abbrev adR:cj C.toCU 42 94 4 [xl ⟨#[]⟩,xi xo 0,xi xo 0,xj eH 0 0] 56:=⟨_,_,i4,i4,i4,i4,i4,i4⟩
theorem YC(x:ci)(m:aE)(e:ez)(E:Wl.bM)(h:f8)(j:dG h x m)(K:dT jC h e E)(J:lA m=eR)(L:E.name.size<=2^30)(O:E.tries.length<=2^30):
  ab xt 164 #[gb x,xn #[xl e.1,xi xo e.2.1,xi xo e.2.2.1,e.2.2.2]] h λv h'=>v=xm (gX m E)/\Sp h h' []:=by
 refine OU x e ?_;unfold HI;obtain⟨_,F,f,_⟩:=SO J;have G:=(bZ m.p).1 f;obtain⟨⟨z,e2,r⟩,w⟩:=K;have g:x.2.2.1=m.p.1:=congrArg (·.1) j.p;have q:x.2.2.2.1=m.p.2.1:=congrArg (·.2.1) j.p;have c:x.2.2.2.2.1=m.p.2.2:=congrArg (·.2.2) j.p;have N:m.p.1*m.p.2.2<=16*24:=yn i5 i5 i5 i5;have A:0<=m.p.1*m.p.2.2:=vD i5 i5;refine(Sp.refl h).boxed λQ M H=>?_;refine H.boxed λR I u=>?_;have l:∀{h':f8} {As:List HP},Sp h h' As->gX m E=eS->Value.bool eS=xm (gX m E)/\Sp h h' []:=λ{h' As} H' d=>⟨by rw[d],.zip H'.ag⟩
 refine bj ⟨E.name,by rw[<-z];exact(u.box 1 i4).cell0 i4,(Qn E.name I i5).mono ?_⟩;rintro _ h3 ⟨rfl,B⟩;have a:=u.up B.ag;refine⟨_,i4,bh (λb=>l a (by unfold gX;rw[b];rfl)) λk=>?_⟩;refine⟨E.object,by rw[<-e2];exact(a.box 1 i4).cell i4,m.next,by rw[<-j.next];exact(a.box 0 i4).cell i4,?_⟩;dsimp only;rw[ak (m.next-1)];refine(sE E.object 0 (m.next-1) h3).mono ?_;rintro _ _ ⟨rfl,rfl⟩;refine⟨_,i4,bh (λb=>l a (by unfold gX;rw[k,b];rfl)) λo=>?_⟩;have d:=a.box 0 i4;refine⟨E.length,by rw[<-r];exact(a.box 1 i4).cell i4,m.p.1,by rw[<-g];exact d.cell i4,m.p.2.2,by rw[<-c];exact d.AI 2 2 i4,?_⟩;dsimp only;rw[ak (m.p.1*m.p.2.2),ak (m.p.1*m.p.2.2*8)];refine(sE E.length 0 (m.p.1*m.p.2.2*8) _).mono ?_;rintro _ _ ⟨rfl,rfl⟩;refine⟨_,i4,bh (λb=>l a (by unfold gX;rw[k,o,b];rfl)) λi=>?_⟩;have t:0<=E.length/\E.length<=m.p.1*m.p.2.2*8:=by unfold fq at i;simpa using i
 refine⟨e.2.2.2,(a.box 1 i4).cell i4,?_⟩;refine(VL e.2.2.2 E.tries _ (Seq.up w a.ag) i5).mono ?_;rintro _ _ ⟨rfl,rfl⟩;refine⟨_,i4,bh (λb=>?_) λb=>⟨trivial,l a ?_⟩⟩
 ·have n:E.tries.all (fq · 0 15)=eR:=k0
  refine⟨e.2.2.2,(a.box 1 i4).cell i4,m.p,?_,E.length,by rw[<-r];exact(a.box 1 i4).cell i4,?_⟩
  ·rw[<-g,<-q,<-c];exact d.Jq 2 i4 i4 i4
  ·refine(xD m.p E.length _).mono ?_;rintro _ P ⟨rfl,y⟩;have s:=a.up y.ag;refine⟨_,i4,⟨(s.box 1 i4).cell i4,trivial⟩,?_,.zip s.ag⟩;unfold gX;have D:=w.len;rw[k,o,i,n,D];simp;rfl
 ·have n:E.tries.all (fq · 0 15)=eS:=k0
  unfold gX;rw[k,o,i,n];rfl
theorem VM(a:fz)(e:ez)(l:Sl)(b:List Wl.bM)(h:f8)(q:cv h a 94 (bP e))(o:dT xT h l b)(D:b.length<=2^30):
  ab xt 165 #[l,.func (.func 166) #[] #[xk (dB a)]] h λv h'=>v=xm (b.any λy=>decide (y.object=e.2.1))/\Sp h h' []:=by
 refine gE l (166,#[],#[xk (dB a)]) ?_;unfold fd;refine(ib l (166,#[],#[xk (dB a)]) (R:=λv h'=>(∃i:Int,v=xi xo i/\(decide (i>=0)=b.any λy=>decide (y.object=e.2.1)))/\Sp h h' []) ?_).mono ?_
 ·unfold fD;obtain⟨p,z,F,x⟩:=bL.kD o;have A:=bL.len o;refine aw (λi:Nat=>(i:Int)) (λi h'=>i<=b.length/\(b.take i).any (λy=>decide (y.object=e.2.1))=eS/\Sp h h' []) (λi=>b.length-i) 0 i4 ⟨i5,jj,Sp.refl h⟩ ?_;rintro i m ⟨r,c,j⟩;refine ai (λk=>?_) (λk=>?_)
  ·have d:i<b.length:=by have B:(i:Int)<(l.len:Int):=k;omega
   obtain⟨⟨_,t,_⟩,_⟩:=x i i5 d;refine(Seq.up z j.ag).eJ (g:=bP) i i4 i5 (p[i]'(by omega)) i4 (fe k8 ?_);refine(OV (p[i]'(by omega)) a (R:=λv h'=>v=xm (b[i].object==e.2.1)/\Sp m h' []) ?_).mono ?_
   ·unfold HJ;refine(Sp.refl m).boxed λE w f=>?_;have n:=q.ag (up j.ag f.ag) q.lt;exact⟨b[i].object,by rw[<-t];exact(f.box 0 i4).cell i4,e.2.1,n.cell i4,i4,.zip f.ag⟩
   ·rintro _ w ⟨rfl,s⟩;have f:=j.up s.ag;refine⟨_,i4,de (λe2=>?_) λe2=>?_⟩
    ·refine⟨⟨i,i4,?_⟩,f⟩;rw[g9 (show(i:Int)>=0 by omega)];exact(zV.2 ⟨_,qh d,nq⟩).symm
    ·refine⟨i+1,j1,⟨i5,?_,f⟩,i5⟩;rw[aG _ _ d,yM,c];simpa using e2
  ·have B:¬(i:Int)<(l.len:Int):=k;refine⟨⟨-1,i4,?_⟩,j⟩;rw[qi i5]at c;rw[c];rfl
 ·rintro _ m ⟨⟨i,rfl,r⟩,u⟩;exact⟨i,i4,by rw[r],u⟩
theorem TR(x:ci)(m:aE)(h:f8)(k:dG h x m)(L:dg m):ab xt 95 #[gb x] h λv h'=>v=xm (bN m)/\Sp h h' []:=by
 refine TB x ?_;unfold MH;refine(Sp.refl h).boxed λO h1 F=>?_;have z:=F.box 0 i4;have J:x.2.2.1=m.p.1:=congrArg (·.1) k.p;have S:x.2.2.2.1=m.p.2.1:=congrArg (·.2.1) k.p;have Q:x.2.2.2.2.1=m.p.2.2:=congrArg (·.2.2) k.p;have r:∀{h':f8} {As:List HP},Sp h h' As->bN m=eS->Value.bool eS=xm (bN m)/\Sp h h' []:=λ{h' As} H' z=>⟨by rw[z],.zip H'.ag⟩
 refine bj ⟨m.seq,by rw[<-k.seq];exact z.cell0 i4,(sE m.seq 1 2147483647 h1).mono ?_⟩;rintro _ _ ⟨rfl,rfl⟩;refine⟨_,i4,bh (λb=>r F (by unfold bN lA;rw[b];rfl)) λE=>?_⟩;refine⟨m.next,by rw[<-k.next];exact z.cell i4,(sE m.next 0 16777216 _).mono ?_⟩;rintro _ _ ⟨rfl,rfl⟩;refine⟨_,i4,bh (λb=>r F (by unfold bN lA;rw[E,b];rfl)) λI=>?_⟩;refine⟨m.p,by rw[<-J,<-S,<-Q];exact z.Jq 2 i4 i4 i4,(dW m.p _).mono ?_⟩;rintro _ h2 ⟨rfl,R2⟩;have o:=F.up R2.ag;refine⟨_,i4,bh (λb=>r o (by unfold bN lA;rw[E,I,b];rfl)) λb3=>?_⟩;refine⟨m.extra,by rw[<-k.extra];exact(o.box 0 i4).cell i4,(sE m.extra 0 16 _).mono ?_⟩;rintro _ _ ⟨rfl,rfl⟩;refine⟨_,i4,bh (λb=>r o (by unfold bN lA;rw[E,I,b3,b];rfl)) λb4=>?_⟩;have G:lA m=eR:=by unfold lA;rw[E,I,b3,b4];rfl
 have N:=k.up o.ag;have y:=o.box 0 i4;have ad:=L.dr;have ap:=L.ob;refine bj ⟨_,y.cell i4,(aaT _ m.drives 63 _ N.drives i5).mono ?_⟩;rintro _ _ ⟨rfl,rfl⟩;refine⟨_,i4,bh (λb=>r o (by unfold bN;rw[G,b];rfl)) λW=>?_⟩;have Y:=bL.len k.aH;refine⟨x.2.2.2.2.2.2.2,y.cell i4,ai (λe=>r o ?_) λam=>?_⟩
 ·unfold bN;rw[G,W,hZ i5];rfl
 have M:i0 m.aH<=12:=i5
 refine⟨x.2.2.2.2.2.2.2,y.cell i4,?_⟩;obtain⟨l,D⟩:=bL.fix k.aH;have ah:=D.2.1;refine aw (λi:Nat=>(i:Int)) (λi h'=>i<=i0 m.aH/\(∀j,j<i->pR m j=eR)/\Sp h h' [ao O 44 (bn x)]) (λi=>i0 m.aH-i) 0 i4 ⟨i5,i5,o⟩ ?_;rintro i h3 ⟨hi,n,U⟩;refine ai (λe=>?_) (λe=>?_)
 ·have f:i<i0 m.aH:=by have e':(i:Int)<(x.2.2.2.2.2.2.2.len:Int):=e;omega
  have B:=L.nm _ (qh f);have d:pP m.aH i=m.aH[i]:=oT f;have u:∀{h':f8} {As:List HP},Sp h h' As->pR m i=eS->Value.bool eS=xm (bN m)/\Sp h h' []:=λ{h' As} H' z=>r H' (by unfold bN;rw[GP f z];simp);have F3:=ol.up D U.ag;refine F3.1.eJ (g:=bP) i i4 i5 (l[i]'(by omega)) i4 ?_;refine U.alloc ac i4 λw h4 H4=>?_;refine H4.storeAll ac 1 i4 i4 (bP (l[i]'(by omega))) i4 i4 i4 i4 λh5 A=>?_;have A:Sp h h5 [ao O 44 (bn x),ao w 94 (bP (l[i]'(by omega)))]:=A;have V:=ol.up D A.ag;obtain⟨⟨y1,y2,y3⟩,y4⟩:=Fix.row V f;obtain⟨b6,c⟩:∃b,b=(decide (i=0)||ft (pP m.aH (i-1)).name (pP m.aH i).name):=⟨_,rfl⟩
  refine bY (λ_ h'=>gX m m.aH[i]=eR/\b6=eR/\Sp h h' [ao O 44 (bn x),ao w 94 (bP (l[i]'(by omega)))]) ?_ ?_
  ·refine⟨x,(A.box 0 i4).aS _ i4,l[i]'(by omega),(A.box 1 i4).aS _ i4,?_⟩;refine(YC x m (l[i]'(by omega)) m.aH[i] h5 (k.up A.ag) (Fix.row V f) G B.1 B.2).mono ?_;rintro _ Z ⟨rfl,R6⟩;have a:=A.up R6.ag;have H:=ol.up D a.ag;refine⟨_,i4,trivial,bh (λb=>u a (by unfold pR;rw[d,b];rfl)) λb=>ai (λe2=>?_) λe2=>⟨b,by rw[c,g9 (show i=0 by omega)];rfl,a⟩⟩;rw[ak ((i:Int)-1)];obtain⟨T,ha,zz,hc,rfl⟩:=H.1.eJ (g:=bP) (i:=(i:Int)-1) (i-1) i5 i5 (l[i-1]'(by omega)) rfl (K:=λt=>t=l[i-1]'(by omega)) rfl;refine⟨x.2.2.2.2.2.2.2,(a.box 0 i4).cell i4,T,ha,m.aH[i-1].name,?_,m.aH[i].name,?_,?_⟩
   ·rw[<-(Fix.row H (show i-1<i0 m.aH by omega)).1.1];exact hc.1
   ·rw[<-y1];exact(a.box 1 i4).cell0 i4
   ·have q:pP m.aH (i-1)=m.aH[i-1]:=oT;rw[d,q]at c;refine bh (λs=>u a ?_) (λs=>⟨b,?_,a⟩)
    ·unfold pR;rw[d,q,b,hZ (show¬i=0 by omega)];unfold ft;rw[s];rfl
    ·rw[c];unfold ft;rw[s];simp
  ·rintro _ Z ⟨b,P,a⟩;have H:=ol.up D a.ag;refine⟨x.2.2.2.2.2.2.2,(a.box 0 i4).cell i4,⟨i5,by have:=k.ocap;omega⟩,?_⟩;rw[qm];refine(VM w (l[i]'(by omega)) ⟨x.2.2.2.2.2.2.2.ptr,i,x.2.2.2.2.2.2.2.cap⟩ (m.aH.take i) Z (a.box 1 i4) (bL.take H.elt i i5) i9).mono ?_;rintro _ h7 ⟨rfl,R7⟩;have X:=a.up R7.ag;rw[y2];refine⟨_,i4,bD (λs=>u X ?_) λs=>?_⟩
   ·unfold pR;rw[d,s];simp
   ·refine⟨i+1,j1,⟨i5,λj hj=>?_,X.cE [0]⟩,i5⟩;by_cases R:j=i
    ·subst R;rw[P]at c;unfold pR;rw[<-c,d,b,s];rfl
    ·exact n j i5
 ·have e':¬(i:Int)<(x.2.2.2.2.2.2.2.len:Int):=e;refine⟨?_,.zip U.ag⟩;unfold bN;rw[G,W,g9 M,uz λj hj=>n j i5];rfl
section
variable {B:aB} {h0 h:f8} {As:List HP}
theorem tm(s:Sl)(l:ba)(n:Int)(k:Nat)(w:k<=4)(r:i0 l<=2^20)(H:aa B h0 h (al 5 s 1 aD l::As)):
  ab xt 169 #[s,xi xo n,xi xo k] h λv h'=>∃b:Sl,v=b/\aa B h0 h' (al 5 b 1 aD (l++cg n k)::As):=by
 refine MU s n k ?_;unfold FQ;have g:=cB n k;refine aw (λt:Sl×Nat=>(t.1,(k:Int)-1-t.2)) (λt h'=>t.2<=k/\aa B h0 h' (al 5 t.1 1 aD (l++(cg n k).take t.2)::As)) (λt=>k-t.2) (s,0) (by rw[ak _];simp) ⟨jj,ln⟩ ?_;rintro⟨o,j⟩ u ⟨q,a⟩;dsimp only at*;refine ai (λe=>?_) (λe=>?_)
 ·have p:j<k:=i5
  rw[ak ((8:Int)*((k:Int)-1-j))];refine⟨i5,?_⟩;have i:((8:Int)*((k:Int)-1-j)).toNat=8*(k-1-j):=i5
  have f:min (8*(k-1-j)) (ql xo)=8*(k-1-j):=by have:ql xo=64:=rfl;omega
  rw[i,f,eO];have d:b8 (q9 n (2^(8*(k-1-j))))=(cg n k)[j]'(by omega):=by simp[cg]
  rw[d];refine a.push ac 0 i4 gz i4 i6 (λ_=>rfl) gV ((cg n k)[j]'(by omega)) i4 i6 i9 λc x m=>?_;refine⟨(c,j+1),by dsimp only;rw[ak _];congr 1;omega,⟨i7,?_⟩,i7⟩;dsimp only;rw[aG _ _ (show j<i0 (cg n k) by omega),<-qq];exact m
 ·rw[qi i5]at a;exact⟨o,i4,a⟩
theorem Nn(b:Sl)(l:az)(o:Sl)(c:ba)(H:aa B h0 h (al 5 o 1 aD c::As))(r:St B h0 As λh=>Rd h b 1 aq l)(E:i0 c<=2^30)(D:i0 l<=2^30){K:Sl×Int->f8->Prop}
  (x:∀q h',aa B h0 h' (al 5 q 1 aD (c++l.map b8)::As)->K (q,(i0 l:Int)) h'):
  aJ (σ:=Sl×Int) (λa s h8=>
 Br (decide (a.2<((b.len:Nat):Int)))
 (∃k:fz,(b.ptr=dB k/\0<=a.2/\a.2<((b.len:Nat):Int))/\
 ∃j:Int,f7 h8 (k.add (a.2.toNat*1))=dB (xi xo j)/\
 aA xt (Instr.buildSlice 34 1 #[(0,(xi xp (qc xp j)))]) (.one (.sc .slc)) h8 λf A=>
 aA xt (Builtin.append_ #[34,34] 34 #[(xj a.1.ptr a.1.len a.1.cap),(xj f.ptr f.len f.cap)]) (.one (.sc .slc)) A λd p=>
 s ((⟨d.ptr,d.len,d.cap⟩:Sl),qc xo (a.2+(1:Int))) p)
 (K a h8)) (o,(0:Int)) h:=by
 have y:b.len=i0 l:=(r.at [_] H).len;refine aw (λt:Sl×Nat=>(t.1,(t.2:Int))) (λt h'=>t.2<=i0 l/\aa B h0 h' (al 5 t.1 1 aD (c++(l.take t.2).map b8)::As)) (λt=>i0 l-t.2) (o,0) i4 ⟨jj,ln⟩ ?_;rintro⟨u,i⟩ w ⟨G,m⟩;dsimp only at*;refine ai (λe=>?_) (λe=>?_)
 ·have g:i<i0 l:=i5
  refine(r.at [_] m).bC i i4 g l[i] i4 ?_;rw[eO];refine m.push ac 0 i4 gz i4 i6 (λ_=>rfl) gV (b8 l[i]) i4 i6 i9 λv F z=>?_;refine⟨(v,i+1),js,⟨i7,?_⟩,i7⟩;dsimp only;rw[aG _ _ g,qU,<-qq];exact z
 ·have n:i=i0 l:=i5
  subst n;rw[qW]at m;exact x u w m
end
theorem agv{m:aE}(a:bN m=eR){i:Nat}(b:i<i0 m.aH):gX m m.aH[i]=eR:=by
 unfold bN at a;simp only[qz]at a;have:=qL.1 a.2.2.2 i (qE.2 b);unfold pR at this;simp only[qz]at this;have c:=this.1
 rwa [oT b]at c
theorem aaU{m:aE}(d:bN m=eR){i:Nat}(g:i<m.aH.length):m.aH[i].name.size<=12/\m.aH[i].tries.length<=3073:=by
 have b:=agv d g;unfold gX ms at b;simp only[qz,decide_eq_true_eq]at b;obtain⟨⟨_,_,f⟩,_,h3,_,c⟩:=b;refine⟨f,?_⟩;obtain⟨_,_,a,_⟩:=SO (aah d);have e:=(bZ m.p).1 a;unfold fq at h3;simp only[qz,decide_eq_true_eq]at h3;have j:m.p.1*m.p.2.2<=16*24:=yn i5 i5 i5 i5;unfold countP at c;split at c
 ·have:(m.aH[i].length-1)/(m.p.1*m.p.2.2)<=m.aH[i].length-1:=Int.ediv_le_self _ (by rename_i h;simp at h;omega);omega
 ·omega
theorem aaV{m:aE}(b:bN m=eR){i:Nat}(a:i<i0 m.aH):i0 (jG m.aH[i])<=4000:=by have:=aaU b a;unfold jG;simp[cB];have:m.aH[i].name.data.size=m.aH[i].name.size:=rfl;omega
theorem Ig{m:aE}(a:bN m=eR):∀n,n<=i0 m.aH->i0 ((m.aH.take n).flatMap jG)<=n*4000
 |0,_=>jj
 |n+1,hn=>by
  rw[aG _ _ (show n<i0 m.aH by omega),zk,qy];have b:=Ig a n i5;have c:=aaV a (show n<i0 m.aH by omega);have h3:i0 ([m.aH[n]].flatMap jG)=i0 (jG m.aH[n]):=by rw[zg,zZ,qN]
  omega
theorem Lv{m:aE}(a:bN m=eR):i0 m.aH<=12:=by unfold bN at a;simp only[qz,decide_eq_true_eq]at a;exact a.2.2.1
theorem Lw(m:aE)(j:dg m):i0 (gO m)<=100000:=by
 unfold gO;split
 ·rename_i c;have b:=c;unfold bN at b;simp only[qz,decide_eq_true_eq]at b;have h:i0 m.drives<=64:=by
   have a:=b.2.1;unfold pQ at a;rw[qL]at a;by_cases g:i0 m.drives<=64
   ·exact g
   ·exfalso;have f:∀i,i<i0 m.drives->(i:Int)<=m.drives.getD i 0:=λi=>by
     induction i with
     |zero=>
      intro d;have:=a 0 (qE.2 d);unfold kd fq at this;simp at this;simpa using this.1
     |succ i ih=>
      intro d;have:=a (i+1) (qE.2 d);have h3:=ih i5;unfold kd fq at this;simp at this;have e:=this.2;simp only[qe]at h3⊢;omega
    have h3:=f 64 i5;have e:=a 64 (qE.2 i5);unfold kd fq at e;simp at e;simp only[qe]at h3;omega
  have k:i0 (m.aH.flatMap jG)<=12*4000:=by have a:=Ig c m.aH.length (qk _);rw[qW]at a;have:=zt 4000 (Lv c);omega
  simp only[qy,zi,yh,qA,cB];omega
 ·simp
theorem aaW(x:ci)(m:aE)(h:f8)(d:dG h x m)(Y:dg m):ab xt 100 #[gb x] h λv h'=>∃r:Sl,v=r/\Sp h h' [al 5 r 1 aD (gO m)]:=by
 refine Rn x ?_;unfold Kb;refine(Sp.refl h).boxed λa1 h1 H1=>?_;refine⟨x,(H1.box 0 i4).aS _ i4,(TR x m h1 (d.up H1.ag) Y).mono ?_⟩;rintro _ h2 ⟨rfl,R2⟩;have Z:=H1.up R2.ag;refine⟨_,i4,bh (λe=>?_) λz=>?_⟩
 ·unfold gO;rw[e];exact⟨⟨eH,0,0⟩,i4,((Z.nil 5 1 aD).cE [1])⟩
 have V:x.2.2.1=m.p.1:=congrArg (·.1) d.p;have a4:x.2.2.2.1=m.p.2.1:=congrArg (·.2.1) d.p;have a2:x.2.2.2.2.1=m.p.2.2:=congrArg (·.2.2) d.p;have I:=Z.box 0 i4;have b:=Lw m Y;unfold gO at b;rw[z,f9 rfl]at b;have hM:∀{h':f8} {As:List HP},Sp h h' As->dG h' x m:=λ{h' As} H=>d.up H.ag;refine bj ⟨m.seq,by rw[<-d.seq];exact I.cell0 i4,m.next,by rw[<-d.next];exact I.cell i4,?_⟩;have H3:=(Z.nil 5 1 aD).bw;refine(tm ⟨eH,0,0⟩ [] m.seq 4 i6 jj H3).mono ?_;rintro _ h4 ⟨s4,rfl,H4⟩;refine⟨s4,i4,⟨by rw[<-d.next];exact(H4.box 1 i4).cell i4,trivial⟩,?_⟩;refine(tm s4 _ m.next 4 i6 o7 H4).mono ?_;rintro _ h5 ⟨s5,rfl,H5⟩;refine⟨s5,i4,trivial,?_⟩;have j:=H5.box 1 i4;refine⟨m.p.1,by rw[<-V];exact j.cell i4,m.p.2.1,by rw[<-a4];exact j.AI 2 1 i4,m.p.2.2,by rw[<-a2];exact j.AI 2 2 i4,m.extra,by rw[<-d.extra];exact j.cell i4,x.2.2.2.2.2.2.1,j.cell i4,?_⟩;have W:=d.drives.len;have ah:=bL.len d.aH;dsimp only;rw[eO,eO,eO,eO,eO,W];refine H5.lit ac aD gz i4 [b8 m.p.1,b8 m.p.2.1,b8 m.p.2.2,b8 m.extra,b8 (m.drives.length:Nat)] i4 (show 5*1<=2^20 by decide) i4 λbq h6 H6=>?_;refine H6.append ac 0 i4 gz ⟨_,_,i4,i4⟩ i4 i6 (λ_=>rfl) (H6.seq 2 i4 λ_=>rfl) gV o7 λs7 h7 Q=>?_;have Q:=Q.cE [0,1];refine⟨x.2.2.2.2.2.2.1,(Q.box 1 i4).cell i4,?_⟩;have a6:(([]++cg m.seq 4)++cg m.next 4++[b8 m.p.1,b8 m.p.2.1,b8 m.p.2.2,b8 m.extra,b8 (m.drives.length:Nat)]).length=13:=o7
 have a8:=Y.dr;refine Nn x.2.2.2.2.2.2.1 m.drives s7 _ Q (St.mk' λh' H=>(hM H).drives) i5 i5 λs8 h8 H8=>?_;dsimp only;refine⟨x.2.2.2.2.2.2.2,(H8.box 1 i4).cell i4,?_⟩;dsimp only;rw[eO,ah];obtain⟨a,c⟩:∃a,a=([]++cg m.seq 4)++cg m.next 4++[b8 m.p.1,b8 m.p.2.1,b8 m.p.2.2,b8 m.extra,b8 (m.drives.length:Nat)]++m.drives.map b8:=⟨_,rfl⟩
 rw[<-c]at H8;have ax:a.length=13+m.drives.length:=by rw[c];simp[cB];omega
 simp only[qy,zi,yh,qA,cB]at b;refine H8.push ac 0 i4 gz i4 i6 (λ_=>rfl) gV (b8 (m.aH.length:Nat)) i4 i6 i5 λs9 h9 P=>?_;have P:Sp h h9 [al 5 s9 1 aD (a++[b8 (m.aH.length:Nat)]),ao a1 44 (bn x)]:=P;refine⟨x.2.2.2.2.2.2.2,(P.box 1 i4).cell i4,?_⟩;obtain⟨F,R⟩:=bL.fix d.aH;have a9:=R.2.1;refine aw (λt:Sl×Nat=>(t.1,(t.2:Int))) (λt h'=>t.2<=m.aH.length/\Sp h h' [al 5 t.1 1 aD (a++[b8 (m.aH.length:Nat)]++(m.aH.take t.2).flatMap jG),ao a1 44 (bn x)]) (λt=>m.aH.length-t.2) (s9,0) i4 ⟨jj,by simpa using P⟩ ?_;rintro⟨o,i⟩ br ⟨hi,k⟩;dsimp only at*;refine ai (λe=>?_) (λe=>?_)
 ·have s:i<m.aH.length:=i5
  have a0:=ol.up R k.ag;have ap:=aaU z s;have n:((m.aH.take i).flatMap jG).length<=50000:=by have h1:=Ig z i hi;have:=Lv z;have:i*4000<=12*4000:=zt _ i5;omega
  refine a0.1.eJ (g:=bP) i i4 i5 (F[i]'(by omega)) i4 ?_;refine k.alloc ac i4 λam bb a3=>?_;refine a3.storeAll ac 2 i4 i4 (bP (F[i]'(by omega))) i4 i4 i4 i4 λad l=>?_;have X:=ol.up R l.ag;obtain⟨⟨w,y2,U⟩,y4⟩:=Fix.row X s;obtain⟨E,T⟩:∃E,E=m.aH[i]:=⟨_,rfl⟩
  rw[<-T]at w y2 U y4 ap;have q:=l.box 2 i4;refine bj ⟨E.name,m8,E.name,m8,?_⟩;rw[eO];refine l.sq ac aD gz i4 [b8 (E.name.size:Nat)] i4 (show 1*1<=2^20 by decide) i4 ⟨m8,m8,trivial⟩ ?_;have B:(a++[b8 (m.aH.length:Nat)]++(m.aH.take i).flatMap jG).length<=160000:=by rw[qy,qy,ax];simp;simp at n;omega
  obtain⟨f,J⟩:∃f,f=a++[b8 (m.aH.length:Nat)]++(m.aH.take i).flatMap jG:=⟨_,rfl⟩
  rw[<-J]at l B;refine l.push ac 0 i4 gz i4 i6 (λ_=>rfl) gV (b8 (E.name.size:Nat)) i4 i6 i5 λb0 a7 A=>?_;have M:=A.box 2 i4;refine⟨⟨by rw[<-w];exact M.cell0 i4,by rw[<-w];exact M.cell0 i4,trivial⟩,?_⟩;refine A.aag ac 0 i4 gz ⟨_,i4,i4⟩ i4 i6 E.name i9 λO ar u=>?_;have y:=u.box 2 i4;refine⟨⟨by rw[<-w];exact y.cell0 i4,trivial⟩,?_⟩;have u:Sp h ar [al 5 O 1 aD (f++[b8 (E.name.size:Nat)]++ju E.name),ao a1 44 (bn x),ao am 94 (bP (F[i]'(by omega)))]:=u;refine bj ⟨E.object,by rw[<-y2];exact y.cell i4,E.length,by rw[<-U];exact y.cell i4,?_⟩;have bd:=Ei E.name;refine(tm O _ E.object 3 i6 i9 u).mono ?_;rintro _ bk ⟨L,rfl,N⟩;have a5:=N.box 2 i4;refine⟨L,i4,⟨by rw[<-U];exact a5.cell i4,trivial⟩,?_⟩;refine(tm L _ E.length 2 i6 l6 N).mono ?_;rintro _ b1 ⟨G,rfl,K⟩;have ay:=K.box 2 i4;refine⟨G,i4,trivial,(F[i]'(by omega)).2.2.2,ay.cell i4,?_⟩;refine Nn (F[i]'(by omega)).2.2.2 E.tries G _ K (St.mk' λh' H=>by rw[T];exact(Fix.row (ol.up R H.ag) s).2) l6 i5 λS bl D=>?_;dsimp only;have ad:=Lv z;refine⟨(S,i+1),js,⟨i7,?_⟩,i7⟩;dsimp only;rw[aG _ _ s,zk,<-qq,<-J,zg,zZ,qN,<-T];have e3:f++[b8 (E.name.size:Nat)]++ju E.name++cg E.object 3++cg E.length 2++E.tries.map b8=f++jG E:=by unfold jG ju;simp[qq]
  rw[e3]at D;exact D.cE [0,1]
 ·rw[qi i5]at k;refine⟨o,i4,?_⟩;have e2:a++[b8 (m.aH.length:Nat)]++m.aH.flatMap jG=gO m:=by rw[c];unfold gO;rw[z,f9 rfl];simp[qq]
  rw[e2]at k;exact k.cE [0]
end Go.Qw
namespace Go.Vc
open Go Wl
def gu{α:Type}(k:Nat)(f:α->bc)(L:List (Sl×List α)):HP:=⟨λh q=>∀y∈L,Seq h q y.1 k f y.2,λa c y b=>(a y b).ag c,λa d y b=>(a y b).mono d⟩
section
variable {α:Type} {B:aB} {h0 h:f8} {As:List HP} {k:Nat} {f:α->bc} {L:List (Sl×List α)} {s:Sl} {l:List α}
theorem aa.Xr(H:aa B h0 h As)(k:Nat)(f:α->bc):aa B h0 h (gu k f []::As):=
 (H.comp (.one (A:=gu k f []) (aY.refl _ _) λy a=>sz)).bw
theorem aa.Xs(H:aa B h0 h (gu k f L::ux s k f l::As)):aa B h0 h (gu k f ((s,l)::L)::As):=by
 have g:aa B h0 h ((ux s k f l).sep (gu k f L)::As):=H.mi;refine g.gg 0 i4 λq ⟨i,j,_,b,c,d,e⟩ y a=>?_;rcases qX.1 a with rfl|a
 ·exact d.mono b
 ·exact(e y a).mono c
end
end Go.Vc
namespace Go.Qw
open Go Go.Vc Go.Proofs Wl
theorem ahX(n:Int):cg n 4=[b8 (q9 n (2^24)),b8 (q9 n (2^16)),b8 (q9 n (2^8)),b8 n]:=by
 have e:q9 n (2^0)=n:=jj
 show[b8 (q9 n (2^24)),b8 (q9 n (2^16)),b8 (q9 n (2^8)),b8 (q9 n (2^0))]=_;rw[e]
theorem aaX(seq a c:Int)(b:Sl)(l:ba)(h:f8)(k:Rd h b 1 aD l)(u:i0 l<=2^20):ab xt 101 #[xi xo seq,xi xo a,xi xo c,b] h λv h'=>∃r:Sl,v=r/\Sp h h' [al 5 r 1 aD (kv seq a c l)]:=by
 refine TC seq a c b ?_;unfold MJ;refine⟨i6,i6,i6,?_⟩;have i:min (24:Int).toNat (ql xo)=24:=rfl;have j:min (16:Int).toNat (ql xo)=16:=rfl;have t:min (8:Int).toNat (ql xo)=8:=rfl;rw[i,j,t,eO,eO,eO,eO,eO,eO,eO];have d:=ahX seq;generalize b8 (q9 seq (2^24))=c1 at d⊢;generalize b8 (q9 seq (2^16))=c2 at d⊢;generalize b8 (q9 seq (2^8))=c3 at d⊢;generalize b8 seq=c4 at d⊢;have e:kv seq a c l=eE 2 ([c1,c2,c3,c4]++([b8 a,b8 c,b8 (b.len:Nat)]++l)):=by unfold kv;rw[d,k.len]
 generalize b8 a=c5 at e⊢;generalize b8 c=c6 at e⊢;generalize b8 (b.len:Nat)=c7 at e⊢;refine(Sp.refl h).lit ac aD gz i4 [c1,c2,c3,c4,c5,c6,c7] i4 (show 7*1<=2^20 by decide) j4 λx w m=>?_;refine m.append ac 0 i4 gz ⟨_,_,i4,i4⟩ i4 i6 (λ_=>rfl) (Seq.up k m.ag) gV i9 λq o n=>?_;have p:Rd o q 1 aD ([c1,c2,c3,c4,c5,c6,c7]++l):=n.seq 0 i4 λ_=>rfl;have f:i0 ([c1,c2,c3,c4,c5,c6,c7]++l)<=2^40:=i9
 rw[e];have g:[c1,c2,c3,c4,c5,c6,c7]++l=[c1,c2,c3,c4]++([c5,c6,c7]++l):=rfl;rw[<-g];generalize [c1,c2,c3,c4,c5,c6,c7]++l=ll at p f⊢;refine(If 2 q ll o p f).mono ?_;rintro _ h3 ⟨r,rfl,s⟩;exact⟨r,i4,r,i4,(aa.comp (Sp.zip n.ag) s)⟩
theorem nL(x:ci)(m:aE)(h:f8)(A:dG h x m)(z:dg m):ab xt 42 #[gb x] h λv h'=>∃r:Sl,v=r/\Sp h h' [fa r (bm m)]:=by
 refine OK x ?_;unfold Hr;refine(Sp.refl h).boxed λD M p=>?_;refine⟨x,(p.box 0 i4).aS _ i4,(aaW x m M (A.up p.ag) z).mono ?_⟩;rintro _ O ⟨b,rfl,G⟩;have j:=p.comp G;have u:=Lw m z;obtain⟨l,k⟩:∃l,l=gO m:=⟨_,rfl⟩
 rw[<-k]at j u;have L:=(j.own 1 i4).len;have s:=(j.own 1 i4).cap;refine⟨b,i4,i6,?_⟩;have f:qc xo (yc (qc xo ((qc xo (((b.len:Nat):Int)+(48:Int)))-(1:Int))) (48:Int))=(iM l:Int):=by rw[ak ((b.len:Int)+48),ak ((b.len:Int)+48-1),Int.tdiv_eq_ediv_of_nonneg i5];unfold iM;rw[ak (((b.len:Int)+48-1)/48)];omega
 have K:iM l<=3000:=by unfold iM;omega
 rw[f];obtain⟨c,g⟩:∃c:cw,c=bm m:=⟨_,rfl⟩
 have B:i0 c=iM l:=by rw[g,k];simp[bm]
 have d:Sp h O [fa ⟨eH,0,0⟩ (c.take 0),ao D 44 (bn x),al 5 b 1 aD l]:=j.Aa 34 5 1 aD;refine aw (λt:Sl×Nat=>(t.1,(t.2:Int))) (λt h'=>t.2<=iM l/\Sp h h' [fa t.1 (c.take t.2),ao D 44 (bn x),al 5 b 1 aD l]) (λt=>iM l-t.2) (⟨eH,0,0⟩,0) i4 ⟨jj,d⟩ ?_;rintro⟨o,i⟩ h3 ⟨S,d⟩;dsimp only at*;refine ai (λe=>?_) (λe=>?_)
 ·have n:i<iM l:=i5
  have E:48*i<i0 l:=by unfold iM at n;omega
  rw[ak ((i:Int)*48),ak ((i:Int)+1),ak (((i:Int)+1)*48)];obtain⟨a,P⟩:∃a:Nat,a=min (48*i+48) l.length:=⟨_,rfl⟩
  have q:(if((i:Int)+1)*48<((b.len:Nat):Int)then((i:Int)+1)*48 else((b.len:Nat):Int))=(a:Int):=by split<;>omega
  rw[q];refine⟨m.seq,by rw[<-A.seq];exact(d.box 1 i4).cell0 i4,⟨i5,i5,i5⟩,?_⟩;have J:((i:Int)*48).toNat=48*i:=i5
  rw[J,qm];have y:=((d.seq 2 i4 λ_=>rfl).drop (48*i) s).take (a-48*i) l4;have e2:(l.drop (48*i)).take (a-48*i)=(l.drop (48*i)).take 48:=by
   by_cases R:48*i+48<=i0 l
   ·rw[show a-48*i=48 by omega]
   ·rw[qi l4,qi l4]
  rw[e2,wF]at y;refine(aaX m.seq i (iM l) ⟨_,a-48*i,b.cap-48*i⟩ _ h3 (by rw[wF];exact y) i9).mono ?_;rintro _ Q ⟨r,rfl,H⟩;have w:=(d.ca H).aZ 4 [1,0,2,3];refine⟨r,i4,trivial,?_⟩;refine w.sq ac bs fx i4 [r] i4 (show 1*1<=2^20 by decide) i4 trivial ?_;refine w.Eg ac fx i9 λI T N=>⟨trivial,?_⟩
  refine⟨(I,i+1),i4,⟨i7,?_⟩,i7⟩;dsimp only;rw[aG _ _ (show i<i0 c by omega)];have F:c[i]'(by omega)=kv m.seq i (iM l) ((l.drop (48*i)).take 48):=by subst g;subst k;simp[bm]
  rw[F];exact N
 ·rw[qi i5,g]at d;exact⟨o,i4,d.cE [0]⟩
theorem VN(s:Sl)(a:List ez)(h:f8)(c:Rd h s 4 bP a)(d:i0 a<=2^30):ab xt 129 #[s] h λv h'=>∃r:Sl,v=r/\Sp h h' [al 94 r 4 bP a]:=by
 refine nl s ?_;unfold jB;refine bD (λe=>?_) (λe=>?_)
 ·have:=c.isNil e;subst this;exact⟨⟨eH,0,0⟩,i4,(Sp.refl h).nil 94 4 bP⟩
 ·refine(Sp.refl h).lit ac bP adR i4 ([]:List ez) i4 i6 i4 λi j b=>?_;refine b.append ac 0 i4 adR ⟨_,_,i4,i4⟩ i4 i6 (λ_=>rfl) (Seq.up c b.ag) Xq i9 λg k f=>?_;exact⟨g,i4,f⟩
def Jr(pool:List (Sl×az))(p:ez×Wl.bM):Prop:=(p.1.1=p.2.name/\p.1.2.1=p.2.object/\p.1.2.2.1=p.2.length)/\(p.1.2.2.2,p.2.tries)∈pool
theorem aa.TS{B:aB}{l h:f8}{As:List HP}{y:ci}{m:aE}{L:List (ez×Wl.bM)}{pool:List (Sl×az)}(d:y.1=m.seq/\y.2.1=m.next/\(y.2.2.1,y.2.2.2.1,y.2.2.2.2.1)=m.p/\y.2.2.2.2.2.1=m.extra)(n:L.map zF=m.aH)(s:∀p∈L,Jr pool p)
  (H:aa B l h (gu 1 aq pool::al 3 y.2.2.2.2.2.2.1 1 aq m.drives::al 94 y.2.2.2.2.2.2.2 4 bP (L.map qM)::As)):aa B l h (dF y m::As):=by
 have i:=(H.own 2 i4)
 have k:=(H.own 1 i4)
 have w:=((H.freeze 1 i4 λ_=>rfl).freeze 2 i4 λ_=>rfl).mi.mi;refine w.gg 0 i4 λq ⟨F,G,_,b,c,D,u⟩=>?_;obtain⟨E,I,_,t,z,z3,z4⟩:=u;refine⟨d.1,d.2.1,d.2.2.1,d.2.2.2,z3.mono λx g=>c x (t x g),⟨L.map qM,D.mono b,by rw[<-n];simp,λj r e a f=>?_⟩,k.cap,i.cap⟩;rw[<-n]at f;rw[qS]at a f;cases hj:L[j]? with
 |none=>rw[hj]at a;cases a
 |some p=>
  rw[hj]at a f;have o:=zT.inj (show dB p.1=dB r from a);have e2:=zT.inj (show dB p.2=dB e from f);subst o;subst e2;obtain⟨A,v⟩:=s p (w4 hj);exact⟨A,(z4 _ v).mono λx g=>c x (z x g)⟩
theorem DH(x:ci)(m:aE)(h:f8)(z:dG h x m)(H:dg m):ab xt 61 #[gb x] h λv h'=>∃(y:ci) (L:List (ez×Wl.bM)) (pool:List (Sl×az)),v=gb y/\(y.1=m.seq/\y.2.1=m.next/\(y.2.2.1,y.2.2.2.1,y.2.2.2.2.1)=m.p/\y.2.2.2.2.2.1=m.extra)/\L.map zF=m.aH/\(∀p∈L,Jr pool p)/\
  Sp h h' [gu 1 aq pool,al 3 y.2.2.2.2.2.2.1 1 aq m.drives,al 94 y.2.2.2.2.2.2.2 4 bP (L.map qM)]:=by
 refine Tt x ?_;unfold Mw;refine(Sp.refl h).boxed λR k H1=>?_;refine H1.alloc ac i4 λS s J=>?_;have D:=J.box 0 i4;have V:∀{h':f8} {As:List HP},Sp h h' As->dG h' x m:=λ{h' As} H'=>z.up H'.ag;obtain⟨b,M⟩:=bL.fix z.aH;have ad:=M.2.1;have Z:=H.dr;have am:=H.ob;refine bj ⟨x.2.2.2.2.2.2.1,D.cell i4,x.2.2.2.2.2.2.2,D.cell i4,?_⟩;refine(jX _ m.drives s (V J).drives i5).mono ?_;rintro _ h3 ⟨d,rfl,U⟩;have Q:=J.comp U;refine⟨d,i4,⟨(Q.box 0 i4).cell i4,trivial⟩,?_⟩;refine(VN _ b h3 (ol.up M Q.ag).1 i5).mono ?_;rintro _ h4 ⟨o,rfl,R4⟩;have H4:=Q.comp R4;refine⟨o,i4,trivial,?_⟩;refine H4.store ac 0 i4 i4 6 [d] i4 i4 i4 l0 λh5 H5=>⟨trivial,?_⟩
 refine H5.store ac 0 i4 i4 7 [o] i4 i4 i4 l0 λh6 q=>⟨trivial,?_⟩
 obtain⟨y,n⟩:∃y:ci,y=(x.1,x.2.1,x.2.2.1,x.2.2.2.1,x.2.2.2.2.1,x.2.2.2.2.2.1,d,o):=⟨_,rfl⟩
 have q:Sp h h6 [ao R 44 (bn y),ao S 44 [xi xo 0,xi xo 0,xi xo 0,xi xo 0,xi xo 0,xi xo 0,xj eH 0 0,xj eH 0 0],al 3 d 1 aq m.drives,al 94 o 4 bP b]:=by rw[n];exact q
 have c:y.2.2.2.2.2.2.2=o:=by rw[n]
 have G:y.2.2.2.2.2.2.1=d:=by rw[n]
 refine⟨o,by rw[<-c];exact(q.box 0 i4).cell i4,?_⟩;have ah:=(q.own 3 i4).len;have q:=q.Xr 1 aq;refine aw (λt:List ez×List (Sl×az)=>(t.1.length:Int)) (λt h'=>t.1.length<=m.aH.length/\(∀(j:Nat) r e,t.1[j]?=dB r->m.aH[j]?=dB e->(r.1=e.name/\r.2.1=e.object/\r.2.2.1=e.length)/\(r.2.2.2,e.tries)∈t.2)/\Sp h h' [gu 1 aq t.2,ao R 44 (bn y),ao S 44 [xi xo 0,xi xo 0,xi xo 0,xi xo 0,xi xo 0,xi xo 0,xj eH 0 0,xj eH 0 0],al 3 d 1 aq m.drives,al 94 o 4 bP (t.1++b.drop t.1.length)]) (λt=>m.aH.length-t.1.length) ([],[]) i4 ⟨jj,λj r e k=>by simp at k,q⟩ ?_;rintro⟨a,pool⟩ h7 ⟨hi,B,l⟩;dsimp only at*;refine ai (λe=>?_) (λe=>?_)
 ·have u:a.length<m.aH.length:=i5
  have F7:=ol.up M l.ag;obtain⟨⟨y1,y2,X⟩,y4⟩:=Fix.row F7 u;have f:(a++b.drop a.length)[a.length]'(by simp;omega)=b[a.length]'(by omega):=jj
  obtain⟨P,ha,zz,hc,rfl⟩:=(l.seq 4 rfl λ_=>rfl).eJ (g:=bP) (i:=(a.length:Int)) a.length rfl i9 (b[a.length]'(by omega)) (by rw[f]) (K:=λt=>t=b[a.length]'(by omega)) i4;refine⟨o,by rw[<-c];exact(l.box 1 i4).cell i4,o,by rw[<-c];exact(l.box 1 i4).cell i4,P,ha,_,hc.2.2.2.1,?_⟩;have ap:=(H.nm _ (qh u)).2;refine(jX _ m.aH[a.length].tries h7 y4 i5).mono ?_;rintro _ h8 ⟨t,rfl,Y⟩;have w:=l.ca Y;refine⟨t,i4,⟨by rw[<-c];exact(w.box 2 i4).cell i4,by rw[<-c];exact(w.box 2 i4).cell i4,trivial⟩,?_⟩;refine w.adi ac 5 i4 (λ_=>rfl) i4 a.length i4 i9 3 [t] jj ((b[a.length]'(by omega)).1,(b[a.length]'(by omega)).2.1,(b[a.length]'(by omega)).2.2.1,t) i4 i4 i4 (by rw[f];simp[bP]) λh9 A=>⟨trivial,?_⟩
  have A:=(A.freeze 0 i4 λ_=>rfl).aZ 6 [1,0,2,3,4,5];have A:=A.Xs;refine⟨(a++[((b[a.length]'(by omega)).1,(b[a.length]'(by omega)).2.1,(b[a.length]'(by omega)).2.2.1,t)],(t,m.aH[a.length].tries)::pool),by simp only[qy,List.length_singleton];rw[ak _];rfl,⟨i9,λj r e k s=>?_,?_⟩,i9⟩
  ·dsimp only at k⊢;by_cases F:j<a.length
   ·rw[qo F]at k;obtain⟨g1,g2⟩:=B j r e k s;exact⟨g1,List.mem_cons_of_mem _ g2⟩
   ·have I:j=a.length:=by have:=(qn.1 k).1;simp at this;omega
    subst I;rw[qj (qk _),zc]at k;simp at k;rw[qd u]at s;injection s with s
    subst k;subst s;exact⟨⟨y1,y2,X⟩,List.mem_cons_self⟩
  ·dsimp only;have e4:(a++b.drop a.length).set a.length ((b[a.length]'(by omega)).1,(b[a.length]'(by omega)).2.1,(b[a.length]'(by omega)).2.2.1,t)=a++[((b[a.length]'(by omega)).1,(b[a.length]'(by omega)).2.1,(b[a.length]'(by omega)).2.2.1,t)]++b.drop (a++[((b[a.length]'(by omega)).1,(b[a.length]'(by omega)).2.1,(b[a.length]'(by omega)).2.2.1,t)]).length:=by rw[qZ _ _ (qk _),zc,qQ (show a.length<b.length by omega),zw];simp
   rw[<-e4];exact A
 ·have W:a.length=m.aH.length:=i5
  rw[zf i5,qN]at l;refine⟨y,(l.box 1 i4).aS _ i4,?_⟩;refine l.storeAll ac 2 i4 i4 (bn y) i4 i4 i4 i4 λh8 w=>?_;have N:(a.zip m.aH).map qM=a:=List.map_fst_zip i5;have O:(a.zip m.aH).map zF=m.aH:=List.map_snd_zip i5;refine⟨y,(w.box 2 i4).aS _ i4,y,a.zip m.aH,pool,i4,⟨by rw[n];exact z.seq,by rw[n];exact z.next,by rw[n];exact z.p,by rw[n];exact z.extra⟩,O,λp T=>?_,?_⟩
  ·obtain⟨j,F,rfl⟩:=qJ T;have E:j<a.length/\j<m.aH.length:=by simp at F;omega
   have:=B j _ _ (qd E.1) (qd E.2);rw[y0];exact this
  ·rw[N,G,c];exact w.cE [0,3,4]
theorem No(x:ci)(m:aE)(h:f8)(e:dG h x m)(b:dg m):ab xt 61 #[gb x] h λv h'=>∃y:ci,v=gb y/\Sp h h' [dF y m]:=by refine(DH x m h e b).mono ?_;rintro _ h' ⟨y,L,pool,rfl,c,d,a,H⟩;exact⟨y,i4,aa.TS c d a H⟩
end Go.Qw
namespace Go.Vc
open Go Wl
abbrev bF:=Int×Int×Int×Int×Int×Int×Int×Sl
abbrev bT(x:bF):bc:=[xi xo x.1,xi xo x.2.1,xi xo x.2.2.1,xi xo x.2.2.2.1,xi xo x.2.2.2.2.1,xi xo x.2.2.2.2.2.1,xi xq x.2.2.2.2.2.2.1,x.2.2.2.2.2.2.2]
abbrev recv(x:bF):Value:=xn #[xi xo x.1,xi xo x.2.1,xi xo x.2.2.1,xi xo x.2.2.2.1,xi xo x.2.2.2.2.1,xi xo x.2.2.2.2.2.1,xi xq x.2.2.2.2.2.2.1,x.2.2.2.2.2.2.2]
theorem agw:∀x,∀c∈bT x,c.oneCell'=eR:=by intro x c a;simp[bT]at a;rcases a with rfl|rfl|rfl|rfl|rfl|rfl|rfl|rfl<;>rfl
def iT(x y:Int):Int:=if x<y then-1 else if x>y then 1 else 0
def mz(a b:bF):Int:=if iT a.1 b.1≠0 then iT a.1 b.1 else if iT a.2.1 b.2.1≠0 then iT a.2.1 b.2.1 else iT a.2.2.1 b.2.2.1
def cz(a b:bF):Bool:=decide (mz a b<=0)
theorem jI(x y:Int):(x<y/\iT x y=-1)∨(x>y/\iT x y=1)∨(x=y/\iT x y=0):=by
 unfold iT;by_cases a:x<y
 ·exact .inl ⟨a,f9 a⟩
 ·by_cases b:x>y
  ·exact .inr (.inl ⟨b,by rw[g0 a,f9 b]⟩)
  ·exact .inr (.inr ⟨i5,by rw[g0 a,g0 b]⟩)
theorem DI(a b:bF):mz a b<=0↔a.1<b.1∨(a.1=b.1/\(a.2.1<b.2.1∨(a.2.1=b.2.1/\a.2.2.1<=b.2.2.1))):=by
 unfold mz;rcases jI a.1 b.1 with⟨h1,e1⟩|⟨h1,e1⟩|⟨h1,e1⟩
 ·rw[e1,f9 i6];omega
 ·rw[e1,f9 i6];omega
 ·rw[e1,g0 i6];rcases jI a.2.1 b.2.1 with⟨h2,e2⟩|⟨h2,e2⟩|⟨h2,e2⟩
  ·rw[e2,f9 i6];omega
  ·rw[e2,f9 i6];omega
  ·rw[e2,g0 i6];rcases jI a.2.2.1 b.2.2.1 with⟨h3,e3⟩|⟨h3,e3⟩|⟨h3,e3⟩<;>rw[e3]<;>omega
theorem sF(a b:bF):mz a b<0↔¬cz b a=eR:=by
 unfold cz;rw[decide_eq_true_eq,DI];unfold mz;rcases jI a.1 b.1 with⟨h1,e1⟩|⟨h1,e1⟩|⟨h1,e1⟩
 ·rw[e1,f9 i6];omega
 ·rw[e1,f9 i6];omega
 ·rw[e1,g0 i6];rcases jI a.2.1 b.2.1 with⟨h2,e2⟩|⟨h2,e2⟩|⟨h2,e2⟩
  ·rw[e2,f9 i6];omega
  ·rw[e2,f9 i6];omega
  ·rw[e2,g0 i6];rcases jI a.2.2.1 b.2.2.1 with⟨h3,e3⟩|⟨h3,e3⟩|⟨h3,e3⟩<;>rw[e3]<;>omega
theorem aaY(a b:bF):mz a b=0↔(a.1=b.1/\a.2.1=b.2.1/\a.2.2.1=b.2.2.1):=by
 unfold mz;rcases jI a.1 b.1 with⟨h1,e1⟩|⟨h1,e1⟩|⟨h1,e1⟩
 ·rw[e1,f9 i6];omega
 ·rw[e1,f9 i6];omega
 ·rw[e1,g0 i6];rcases jI a.2.1 b.2.1 with⟨h2,e2⟩|⟨h2,e2⟩|⟨h2,e2⟩
  ·rw[e2,f9 i6];omega
  ·rw[e2,f9 i6];omega
  ·rw[e2,g0 i6];rcases jI a.2.2.1 b.2.2.1 with⟨h3,e3⟩|⟨h3,e3⟩|⟨h3,e3⟩<;>rw[e3]<;>omega
theorem dX:Ord cz:=⟨λa b c d e=>by
 unfold cz at*;rw[decide_eq_true_eq,DI]at*;omega,λa b=>by
 unfold cz;rw[Bool.or_eq_true,decide_eq_true_eq,decide_eq_true_eq,DI,DI];omega⟩
theorem TT{α:Type}(A B C:List α)(x y:α){i j:Nat}(c:i=i0 A)(b:j=i0 A+1+i0 B):
  (A++x::(B++y::C))[i]?=dB x/\(A++x::(B++y::C))[j]?=dB y/\((A++x::(B++y::C)).set i y).set j x=A++y::(B++x::C)/\((A++x::(B++y::C)).set j x).set i y=A++y::(B++x::C):=by
 subst c;subst b;have a:i0 A+1+i0 B-i0 A=i0 B+1:=i5
 refine⟨by rw[qj (qk _),zc];rfl,?_,?_,?_⟩
 ·rw[qj i5,a,qB,qj (qk _),zc];rfl
 ·rw[qZ _ _ (qk _),zc,zw,qZ _ _ i5,a,zP,qZ _ _ (qk _),zc,zw]
 ·rw[qZ _ _ (show A.length<=i0 A+1+i0 B by omega),a,zP,qZ _ _ (qk _),zc,zw,qZ _ _ (qk _),zc,zw]
end Go.Vc
namespace Go.Qw
open Go Go.Vc Go.Proofs Wl
abbrev ahY:cj C.toCU 189 170 8 [xi xo 0,xi xo 0,xi xo 0,xi xo 0,xi xo 0,xi xo 0,xi xq 0,xj eH 0 0] 80:=⟨_,_,i4,i4,i4,i4,i4,i4⟩
theorem uE(x y:Int)(h:f8):ab xt 183 #[xi xo x,xi xo y] h λv h'=>v=xi xo (iT x y)/\h'=h:=by
 refine se x y ?_;unfold nY;have a:∀z:Int,ab xt 233 #[xi xo z] h λv h'=>v=xm eS/\h'=h:=λz=>by
  refine uY z ?_;unfold rq;exact⟨jj,i4⟩
 refine(a x).mono ?_;rintro _ _ ⟨rfl,rfl⟩;refine⟨_,i4,(a y).mono ?_⟩;rintro _ _ ⟨rfl,rfl⟩;refine⟨_,i4,bD (λe=>j3) λ_=>bD (λe=>j3) λ_=>?_⟩;refine ai (λe=>⟨by rw[iT,f9 e],i4⟩) λe=>ai (λe2=>⟨by rw[iT,g0 e,f9 e2],i4⟩) λe2=>⟨by rw[iT,g0 e,g0 e2],i4⟩
theorem ry(a b:bF)(h:f8):ab xt 197 #[recv a,recv b] h λv h'=>v=xi xo (mz a b)/\Sp h h' []:=by
 refine OY a b ?_;unfold HM;refine(Sp.refl h).boxed λw J G=>G.boxed λx k g=>?_;have g:Sp h k [ao w 170 (bT a),ao x 170 (bT b)]:=g;have t:=g.box 0 i4;have o:=g.box 1 i4;have z:f7 k (w.add 1)=dB (xi xo a.2.1):=t.cell i4;have A:f7 k (x.add 1)=dB (xi xo b.2.1):=o.cell i4;have c3:f7 k (w.add 2)=dB (xi xo a.2.2.1):=t.cell i4;have s:f7 k (x.add 2)=dB (xi xo b.2.2.1):=o.cell i4;refine⟨a.1,t.cell0 i4,b.1,o.cell0 i4,a.2.1,z,b.2.1,A,a.2.2.1,c3,b.2.2.1,s,(uE _ _ k).mono ?_⟩;rintro _ _ ⟨rfl,rfl⟩;refine⟨_,i4,⟨s,c3,A,z,trivial⟩,(uE _ _ _).mono ?_⟩;rintro _ _ ⟨rfl,rfl⟩;refine⟨_,i4,⟨s,c3,trivial⟩,(uE _ _ _).mono ?_⟩;rintro _ M ⟨rfl,rfl⟩;refine⟨_,i4,trivial,?_⟩;refine g.sq ac aq ⟨_,_,i4,i4,i4,i4,i4,i4⟩ i4 [iT a.1 b.1,iT a.2.1 b.2.1,iT a.2.2.1 b.2.2.1] i4 (show 3*1<=2^20 by decide) i4 trivial ?_;refine g.lit ac aq ⟨_,_,i4,i4,i4,i4,i4,i4⟩ i4 [iT a.1 b.1,iT a.2.1 b.2.1,iT a.2.2.1 b.2.2.1] i4 (show 3*1<=2^20 by decide) i4 λc B q=>?_;refine(Du c (R:=λv h'=>v=xi xo (mz a b)/\h'=B) ?_).mono ?_
 ·unfold AB;have y:=q.seq 2 i4 λ_=>rfl;have D:=(q.own 2 i4).len;obtain⟨L,f⟩:∃L,L=[iT a.1 b.1,iT a.2.1 b.2.1,iT a.2.2.1 b.2.2.1]:=⟨_,rfl⟩
  rw[<-f]at y D;have F:i0 L=3:=by rw[f];rfl
  refine aw (λi:Nat=>(i:Int)) (λi h'=>i<=3/\(∀j,j<i->L[j]?=dB 0)/\h'=B) (λi=>3-i) 0 i4 ⟨i5,i5,i4⟩ ?_;rintro i E ⟨K,n,rfl⟩;have d:0<i->iT a.1 b.1=0:=λh0=>by have:=n 0 h0;rw[f]at this;simpa using this
  have m:1<i->iT a.2.1 b.2.1=0:=λh0=>by have:=n 1 h0;rw[f]at this;simpa using this
  have u:2<i->iT a.2.2.1 b.2.2.1=0:=λh0=>by have:=n 2 h0;rw[f]at this;simpa using this
  refine ai (λe=>?_) (λe=>?_)
  ·have l:i<i0 L:=by have H:(i:Int)<(c.len:Int):=e;omega
   refine y.bC i i4 l L[i] i4 ?_;refine bQ (λe2=>⟨?_,i4⟩) (λe2=>?_)
   ·congr 1;unfold mz;have:i=0∨i=1∨i=2:=i5
    subst f;rcases this with rfl|rfl|rfl
    ·exact(f9 (show iT a.1 b.1≠0 from e2)).symm
    ·rw[g0 (by rw[d i5];simp)];exact(f9 (show iT a.2.1 b.2.1≠0 from e2)).symm
    ·rw[g0 (by rw[d i5];simp),g0 (by rw[m i5];simp)];rfl
   ·refine⟨i+1,j1,⟨i5,λj I=>?_,i4⟩,i5⟩;by_cases r:j=i
    ·subst r;rw[qd l,e2]
    ·exact n j i5
  ·have p:i=3:=by have H:¬(i:Int)<(c.len:Int):=e;omega
   subst p;refine⟨?_,i4⟩;unfold mz;rw[d i5,m i5,u i5];rfl
 ·rintro _ E ⟨rfl,rfl⟩;exact⟨_,i4,trivial,i4,.zip q.ag⟩
abbrev cI(s:Sl)(d:List bF):HP:=al 170 s 8 bT d
section
variable {B:aB} {h0 h h':f8} {As:List HP} {s:Sl} {d:List bF}
theorem sG(X U M V Y:List bF)(n:Nat)(a b:Int)(P:i0 U=n)(S:i0 V=n)(A:a=(i0 X:Int))(G:b=(i0 X+n+i0 M:Nat))(N:i0 X+n+i0 M+n+i0 Y<=2^40)(H:aa B h0 h (cI s (X++(U++(M++(V++Y))))::As)):
  ab xt 329 #[s,xi xo a,xi xo b,xi xo n,.func (.func 197) #[] #[]] h λv h'=>v=.tuple #[]/\aa B h0 h' (cI s (X++(V++(M++(U++Y))))::As):=by
 refine mU s a b n (197,#[],#[]) ?_;unfold jh;subst A;subst G;refine aw (λk:Nat=>(k:Int)) (λk h'=>k<=n/\aa B h0 h' (cI s (X++(V.take k++U.drop k++(M++(U.take k++V.drop k++Y))))::As)) (λk=>n-k) 0 i4 ⟨i5,ln⟩ ?_;rintro k Q ⟨R,f⟩;refine ai (λe=>?_) (λe=>?_)
 ·have J:k<n:=i5
  have m:k<i0 U:=i5
  have p:k<i0 V:=i5
  have d:X++(V.take k++U.drop k++(M++(U.take k++V.drop k++Y)))=(X++V.take k)++U[k]::((U.drop (k+1)++(M++U.take k))++V[k]::(V.drop (k+1)++Y)):=by rw[qQ m,qQ p];simp only[qq,zy,z6]
  have c:X++(V.take (k+1)++U.drop (k+1)++(M++(U.take (k+1)++V.drop (k+1)++Y)))=(X++V.take k)++V[k]::((U.drop (k+1)++(M++U.take k))++U[k]::(V.drop (k+1)++Y)):=by rw[aG V k p,aG U k m];simp only[qq,zy,z6]
  rw[d]at f;obtain⟨y,z,x,O⟩:=TT (X++V.take k) (U.drop (k+1)++(M++U.take k)) (V.drop (k+1)++Y) U[k] V[k] (i:=i0 X+k) (j:=i0 X+n+i0 M+k) i9 i9;obtain⟨D,L⟩:∃D,D=(X++V.take k)++U[k]::((U.drop (k+1)++(M++U.take k))++V[k]::(V.drop (k+1)++Y)):=⟨_,rfl⟩
  rw[<-L]at f y z x O;have w:=(qn.1 y)
  have r:=(qn.1 z)
  obtain⟨q,u⟩:=w;obtain⟨o,t⟩:=r;have E:qc xo ((i0 X:Int)+k)=((i0 X+k:Nat):Int):=j5
  have K:qc xo (((i0 X+n+i0 M:Nat):Int)+k)=((i0 X+n+i0 M+k:Nat):Int):=j5
  rw[E,K];refine(f.seq 0 i4 λ_=>rfl).eJ (g:=bT) _ i4 o V[k] (by rw[t]) ?_;refine(f.seq 0 i4 λ_=>rfl).eJ (g:=bT) _ i4 q U[k] (by rw[u]) ?_;refine f.set ac 0 i4 (λ_=>rfl) i4 (i0 X+k) i4 q V[k] i4 i4 i4 λT I=>⟨trivial,?_⟩
  refine I.set ac 0 i4 (λ_=>rfl) i4 (i0 X+n+i0 M+k) i4 n0 U[k] i4 i4 i4 λh3 F=>⟨trivial,?_⟩
  refine⟨k+1,j1,⟨i5,?_⟩,i5⟩;rw[c,<-x];exact F
 ·have:k=n:=i5
  subst this;rw[qi (l:=V) i5,zf (l:=U) i5,qi (l:=U) i5,zf (l:=V) i5]at f;refine⟨i4,?_⟩;simpa using f
theorem VO(X U V Y:List bF)(a m b:Int)(D:0<i0 U)(I:0<i0 V)(F:a=(i0 X:Int))(x:m=(i0 X+i0 U:Nat))(G:b=(i0 X+i0 U+i0 V:Nat))(L:i0 X+i0 U+i0 V+i0 Y<=2^40)(H:aa B h0 h (cI s (X++(U++(V++Y)))::As)):
  ab xt 322 #[s,xi xo a,xi xo m,xi xo b,.func (.func 197) #[] #[]] h λv h'=>v=.tuple #[]/\aa B h0 h' (cI s (X++(V++(U++Y)))::As):=by
 refine nK s a m b (197,#[],#[]) ?_;unfold jS;subst F;subst x;subst G;have E:qc xo (((i0 X+i0 U:Nat):Int)-i0 X)=(i0 U:Int):=j5
 have e2:qc xo (((i0 X+i0 U+i0 V:Nat):Int)-(i0 X+i0 U:Nat))=(i0 V:Int):=j5
 rw[E,e2];refine aw (λt:List bF×List bF×List bF×List bF=>((i0 t.2.1:Int),(i0 t.2.2.1:Int))) (λt h'=>0<i0 t.2.1/\0<i0 t.2.2.1/\X.length+i0 t.1+i0 t.2.1=i0 X+i0 U/\V++U=t.1++((t.2.2.1++t.2.1)++t.2.2.2)/\aa B h0 h' (cI s (X++(t.1++(t.2.1++(t.2.2.1++(t.2.2.2++Y)))))::As)) (λt=>i0 t.2.1+i0 t.2.2.1) ([],U,V,[]) i4 ⟨D,I,jj,jj,ln⟩ ?_;rintro⟨P,A,c,Q⟩ q ⟨N,O,x,o,r⟩;dsimp only at*;have g:=congrArg vA o;simp only[qy]at g;refine bQ (λe=>ai (λz=>?_) λz=>?_) (λe=>?_)
 ·--the left one is longer
  have u:i0 c<i0 A:=i5
  have y:A=A.take c.length++A.drop c.length:=(qK _ _).symm;have n:i0 (A.take c.length)=i0 c:=i9
  have f:qc xo (((i0 X+i0 U:Nat):Int)-i0 A)=(i0 (X++P):Int):=by rw[ak _];simp;omega
  rw[f];have d:aa B h0 q (cI s ((X++P)++(A.take c.length++(A.drop c.length++(c++(Q++Y)))))::As):=by
   have:(X++P)++(A.take c.length++(A.drop c.length++(c++(Q++Y))))=X++(P++(A++(c++(Q++Y)))):=by
    conv=>rhs;rw[y]
    simp only[qq,zy,z6]
   rw[this];exact r
  refine(sG (X++P) (A.take c.length) (A.drop c.length) c (Q++Y) c.length _ _ n i4 i4 i9 i9 d).mono ?_;rintro _ w ⟨rfl,i⟩;refine⟨(),i4,(P++c,A.drop c.length,A.take c.length,Q),?_,⟨l9,i7,l9,?_,?_⟩,l9⟩
  ·dsimp only;rw[n,ak _];simp;omega
  ·dsimp only;rw[o,qK];simp
  ·dsimp only;have:X++((P++c)++(A.drop c.length++(A.take c.length++(Q++Y))))=(X++P)++(c++(A.drop c.length++(A.take c.length++(Q++Y)))):=jj
   rw[this];exact i
 ·have u:i0 A<i0 c:=i5
  obtain⟨j,M⟩:∃j,j=i0 c-i0 A:=⟨_,rfl⟩
  have J:c=c.take j++c.drop j:=(qK _ _).symm;have l:i0 (c.drop j)=i0 A:=i9
  have k:i0 (c.take j)=j:=i9
  have f:qc xo (((i0 X+i0 U:Nat):Int)-i0 A)=(i0 (X++P):Int):=by rw[ak _];simp;omega
  have K:qc xo ((qc xo (((i0 X+i0 U:Nat):Int)+i0 c))-i0 A)=((i0 (X++P)+i0 A+i0 (c.take j):Nat):Int):=by rw[ak (((i0 X+i0 U:Nat):Int)+i0 c),ak _,k];simp;omega
  rw[f,K];have d:aa B h0 q (cI s ((X++P)++(A++(c.take j++(c.drop j++(Q++Y)))))::As):=by
   have:(X++P)++(A++(c.take j++(c.drop j++(Q++Y))))=X++(P++(A++(c++(Q++Y)))):=by
    conv=>rhs;rw[J]
    simp only[qq,zy,z6]
   rw[this];exact r
  refine(sG (X++P) A (c.take j) (c.drop j) (Q++Y) A.length _ _ i4 l i4 i4 i9 d).mono ?_;rintro _ w ⟨rfl,i⟩;refine⟨(),i4,(P,c.drop j,c.take j,A++Q),?_,⟨i7,i7,i7,?_,?_⟩,i7⟩
  ·dsimp only;rw[k,l,ak _];congr 1;omega
  ·dsimp only;rw[o,qK];simp
  ·dsimp only;have:X++(P++(c.drop j++(c.take j++((A++Q)++Y))))=(X++P)++(c.drop j++(c.take j++(A++(Q++Y)))):=jj
   rw[this];exact i
 ·have p:i0 A=i0 c:=i5
  have f:qc xo (((i0 X+i0 U:Nat):Int)-i0 A)=(i0 (X++P):Int):=by rw[ak _];simp;omega
  rw[f];have d:aa B h0 q (cI s ((X++P)++(A++([]++(c++(Q++Y)))))::As):=by
   have:(X++P)++(A++([]++(c++(Q++Y))))=X++(P++(A++(c++(Q++Y)))):=jj
   rw[this];exact r
  refine(sG (X++P) A [] c (Q++Y) A.length _ _ i4 p.symm i4 i9 i9 d).mono ?_;rintro _ w ⟨rfl,i⟩;refine⟨(),i4,i4,?_⟩;have:X++(V++(U++Y))=(X++P)++(c++([]++(A++(Q++Y)))):=by
   have:V++(U++Y)=(V++U)++Y:=jj
   rw[this,o];simp
  rw[this];exact i
end
end Go.Qw
namespace Wl
open Go
theorem YD(l:ba)(x:UInt8):dz (l++[x])=dz l*256+x.toNat:=by unfold dz;rw[List.foldl_append];rfl
theorem TU:∀l:ba,i0 l<=4->0<=dz l/\dz l<4294967296/\(i0 l<=3->dz l<16777216)
 |[],_=>by simp[dz]
 |[a],_=>by have:=a.toNat_lt;simp only[dz,zB,wT];omega
 |[a,b],_=>by have:=a.toNat_lt;have:=b.toNat_lt;simp only[dz,zB,wT];omega
 |[a,b,c],_=>by have:=a.toNat_lt;have:=b.toNat_lt;have:=c.toNat_lt;simp only[dz,zB,wT];omega
 |[a,b,c,d],_=>by have:=a.toNat_lt;have:=b.toNat_lt;have:=c.toNat_lt;have:=d.toNat_lt;simp only[dz,zB,wT,zi,yh];omega
 |_::_::_::_::_::_,h=>m6
theorem ahZ(n x:Nat)(e:n<2^32)(f:x<256):qc xo (((qF (ql xo) (qc xo ((n:Int)*2^min (8:Int).toNat (ql xo)))|||qF (ql xo) (qc xo (x:Int))).toNat:Nat):Int)=(n:Int)*256+x:=by
 have c:min (8:Int).toNat (ql xo)=8:=rfl;rw[c];have d:qc xo ((n:Int)*2^8)=((n*256:Nat):Int):=by rw[Go.Vc.ak _];omega
 have e2:qc xo (x:Int)=((x:Nat):Int):=Go.Vc.ak _;rw[d,e2];have a:(qF (ql xo) ((n*256:Nat):Int)|||qF (ql xo) ((x:Nat):Int)).toNat=n*256+x:=by show((qF 64 ((n*256:Nat):Int)|||qF 64 ((x:Nat):Int):BitVec 64)).toNat=n*256+x;rw[BitVec.toNat_or,wY,wY,BitVec.toNat_ofNat,BitVec.toNat_ofNat,yW i5,yW i5];have:=Nat.shiftLeft_add_eq_or_of_lt (b:=x) (i:=8) i5 n;rw[Nat.shiftLeft_eq,show(2:Nat)^8=256 from rfl]at this;omega
 rw[a,Go.Vc.ak _];omega
end Wl
namespace Go.Vc
open Go Wl
def fv:jz bF di:=⟨λh q a b=>(a.1=b.object/\a.2.1=b.block/\a.2.2.1=b.id/\(a.2.2.2.1,a.2.2.2.2.1,a.2.2.2.2.2.1)=b.p/\a.2.2.2.2.2.2.1=b.seed/\0<=b.seed/\b.seed<4294967296)/\Seq h q a.2.2.2.2.2.2.2 1 aD b.data,λa c=>⟨a.1,a.2.ag c⟩,λa d=>⟨a.1,a.2.mono d⟩⟩
end Go.Vc
namespace Go.Qw
open Go Go.Vc Go.Proofs Wl
theorem rz{p q:aB}(a b:Sl)(c d:ba)(h:f8)(f:Seq h p a 1 aD c)(e:Seq h q b 1 aD d):
  ab xt 99 #[a,b] h λv h'=>v=xm (decide (c=d))/\h'=h:=by
 refine MI a b ?_;unfold FI;refine Xe ac ⟨_,i4,i4⟩ ⟨_,i4,i4⟩ ⟨_,i4,i4⟩ f (Xe ac ⟨_,i4,i4⟩ ⟨_,i4,i4⟩ ⟨_,i4,i4⟩ e ⟨?_,i4⟩);rw[ByteArray.toList_mk,ByteArray.toList_mk];have:(c==d)=decide (c=d):=by rw[Bool.eq_iff_iff];simp
 rw[this]
theorem YE(b:Sl)(c:ba)(h:f8)(i:Rd h b 1 aD c)(y:i0 c<=2^30)(d:b.len<=b.cap):
  ab xt 76 #[b] h λv h'=>(kE c=eH->v=.tuple #[xi xo 0,xj eH 0 0,xm eS]/\Sp h h' [])/\
   ∀k x,kE c=dB (k,x)->∃r:Sl,v=.tuple #[xi xo k,r,xm eR]/\Sp h h' [al 5 r 1 aD x]:=by
 refine Rl b ?_;unfold JZ;have w:=i.len;refine bQ (λe=>?_) (λe=>?_)
 ·have:kE c=eH:=by unfold kE;rw[g0 λa=>e i5]
  rw[this];exact⟨λ_=>⟨i4,Sp.refl h⟩,λk x h=>k5⟩
 have j:i0 c=64:=i5
 have h3:3<i0 c:=i5
 refine i.RW 3 i4 h3 ((c.getD 3 0).toNat:Int) (by rw[getD_lt h3];rfl) λA o=>⟨⟨i6,i6,i5⟩,?_⟩
 have f:=(i.drop 4 d).take 55 i9;have p:i0 ((c.drop 4).take 55)=55:=i9
 refine(fC ⟨_,55,b.cap-4⟩ ((c.drop 4).take 55) h f i5).mono ?_;rintro _ t ⟨r,rfl,m⟩;refine⟨r,i4,lX m.ag ⟨o,trivial⟩,?_⟩;have z:=(c.getD 3 0).toNat_lt;rw[ak ((c.getD 3 0).toNat:Int)];refine(If ((c.getD 3 0).toNat:Int) r ((c.drop 4).take 55) t (m.seq 0 i4 λ_=>rfl)).mono ?_;rintro _ u ⟨q,rfl,s⟩;have g:=m.comp s;refine⟨q,i4,(rz b q c _ u (i.up g.ag) (g.seq 1 i4 λ_=>rfl)).mono ?_⟩;rintro _ h3 ⟨rfl,rfl⟩;refine⟨_,i4,bh (λe2=>?_) λe2=>?_⟩
 ·have l:c≠eE ((c.getD 3 0).toNat:Int) ((c.drop 4).take 55):=of_decide_eq_false e2;have:kE c=eH:=by unfold kE;rw[g0 λa=>l a.2.symm]
  rw[this];exact⟨λ_=>⟨i4,.zip g.ag⟩,λk x h=>k5⟩
 ·have n:c=eE ((c.getD 3 0).toNat:Int) ((c.drop 4).take 55):=ii e2;have:kE c=dB (((c.getD 3 0).toNat:Int),(c.drop 4).take 55):=by unfold kE;rw[f9 ⟨j,n.symm⟩]
  rw[this];refine⟨λh=>k5,λk x a=>?_⟩;injection a with a
  injection a with hh1 hh2
  subst hh1;subst hh2;exact⟨r,i4,g.cE [0]⟩
theorem Qp(b:Sl)(l:ba)(h:f8)(d:Rd h b 1 aD l)(k:i0 l<=4):ab xt 246 #[b] h λv h'=>v=xi xo (dz l)/\h'=h:=by
 refine Ng b ?_;unfold FX;have j:=d.len;refine aw (λi:Nat=>(dz (l.take i),(i:Int))) (λi h'=>i<=i0 l/\h'=h) (λi=>i0 l-i) 0 i4 ⟨i5,i4⟩ ?_;rintro i m ⟨p,rfl⟩;dsimp only;refine ai (λe=>?_) (λe=>?_)
 ·have a:i<i0 l:=i5
  refine d.bC i i4 a (l[i].toNat:Int) i4 ⟨i6,?_⟩;have c:=(TU (l.take i) i9)
  have f:=c.2.2 i9;have o:=l[i].toNat_lt;obtain⟨n,g⟩:∃n:Nat,dz (l.take i)=(n:Int):=⟨(dz (l.take i)).toNat,i5⟩
  refine⟨i+1,?_,⟨i5,i4⟩,i5⟩;rw[aG _ _ a,YD,g,ahZ n _ i5 i5,ak ((i:Int)+1)];rfl
 ·rw[qi i5];exact⟨i4,i4⟩
theorem Ko(x:bF)(r:di)(h:f8)(F:dT fv h x r):ab xt 184 #[recv x] h λv h'=>v=xm (jv r)/\Sp h h' []:=by
 refine OW x ?_;unfold HK;obtain⟨⟨A,e2,z,q,J,_⟩,G⟩:=F;have s:x.2.2.2.1=r.p.1:=congrArg (·.1) q;have m:x.2.2.2.2.1=r.p.2.1:=congrArg (·.2.1) q;have d:x.2.2.2.2.2.1=r.p.2.2:=congrArg (·.2.2) q;have c:=Seq.len G;refine(Sp.refl h).boxed λa e j=>?_;have j:Sp h e [ao a 170 (bT x)]:=j;have l:=j.box 0 i4;have t:f7 e a=dB (xi xo r.object):=by rw[<-A];exact l.cell0 i4
 have u:f7 e (a.add 1)=dB (xi xo r.block):=by rw[<-e2];exact l.cell i4
 have w:f7 e (a.add 2)=dB (xi xo r.id):=by rw[<-z];exact l.cell i4
 have y:∀{h':f8},Sp h h' [ao a 170 (bT x)]->(jv r=eR->False)->Value.bool eS=xm (jv r)/\Sp h h' []:=λ{h'} H' hn=>⟨by cases hq:jv r with|false=>rfl|true=>exact absurd hq hn,.zip H'.ag⟩
 refine bY (λb h'=>b=decide ((0<=r.object/\r.object<=16777215)/\(0<=r.block/\r.block<=7)/\(0<=r.id/\r.id<=65535))/\h'=e) ?_ ?_
 ·refine⟨_,t,ai (λI=>⟨_,t,ai (λi=>⟨_,u,ai (λB=>⟨_,u,ai (λD=>⟨_,w,ai (λH=>⟨_,w,?_,i4⟩) λH=>⟨?_,i4⟩⟩) λD=>⟨?_,i4⟩⟩) λB=>⟨?_,i4⟩⟩) λi=>⟨?_,i4⟩⟩) λI=>⟨?_,i4⟩⟩
  ·rw[decide_eq_decide];omega
  all_goals (symm;rw[decide_eq_false_iff_not];omega)
 ·rintro _ _ ⟨rfl,rfl⟩;refine ai (λg=>?_) λg=>y j λo=>g (by have:=(kX r).1 o;omega);refine⟨r.p,by rw[<-s,<-m,<-d];exact l.Jq 3 i4 i4 i4,(dW r.p _).mono ?_⟩;rintro _ h3 ⟨rfl,E⟩;have n:Sp h h3 [ao a 170 (bT x)]:=j.up E.ag;have f:=n.box 0 i4;refine⟨_,i4,bD (λi=>?_) λi=>y n λo=>by have:=((kX r).1 o).2.2.2.1;rw[i]at this;cases this⟩;refine⟨x.2.2.2.2.2.2.2,f.cell i4,r.p.2.2,by rw[<-d];exact f.AI 3 2 i4,?_,.zip n.ag⟩;congr 1;by_cases k:(r.data.length:Int)=r.p.2.2
  ·have:jv r=eR:=(kX r).2 ⟨i5,i5,i5,i,k⟩;rw[this,c];simpa using k
  ·have:jv r=eS:=by
    cases hq:jv r with
    |false=>rfl
    |true=>exact absurd ((kX r).1 hq).2.2.2.2 k
   rw[this,c];simpa using k
section
variable {B:aB} {h0 h h':f8} {As:List HP}
theorem nM(s:Sl)(l:ba)(n:Int)(k:Nat)(o:k<=4)(j:i0 l<=2^30)(H:aa B h0 h (al 5 s 1 aD l::As)):
  ab xt 185 #[s,xi xo n,xi xo k] h λv h'=>∃r:Sl,v=r/\aa B h0 h' (al 5 r 1 aD (l++cg n k)::As):=by
 refine JH s n k ?_;unfold BU;rw[ak ((k:Int)-1)];refine aw (λt:Sl×Nat=>(t.1,(k:Int)-1-t.2)) (λt h'=>t.2<=k/\aa B h0 h' (al 5 t.1 1 aD (l++(cg n k).take t.2)::As)) (λt=>k-t.2) (s,0) jj ⟨jj,ln⟩ ?_;rintro⟨r,t⟩ m ⟨p,a⟩;dsimp only at*;refine ai (λe=>?_) (λe=>?_)
 ·have b:t<k:=i5
  have d:qc xo ((8:Int)*((k:Int)-1-t))=((8*(k-1-t):Nat):Int):=by rw[ak _];omega
  rw[d,qm];have e2:min (8*(k-1-t)) (ql xo)=8*(k-1-t):=by have:ql xo=64:=rfl;omega
  rw[e2,eO];refine⟨i5,?_⟩;refine a.push ac 0 i4 gz i4 i6 (λ_=>rfl) gV (b8 (q9 n (2^(8*(k-1-t))))) i4 i6 l6 λg q f=>?_;refine⟨(g,t+1),?_,⟨i7,?_⟩,i7⟩
  ·dsimp only;have c:qc xo ((k:Int)-1-t-1)=(k:Int)-1-((t+1:Nat):Int):=by rw[ak _];omega
   rw[c]
  ·dsimp only;have i:(cg n k).take t++[b8 (q9 n (2^(8*(k-1-t))))]=(cg n k).take (t+1):=by rw[aG _ _ (by rw[cB];exact b)];congr 2;simp[cg]
   rw[<-i,<-qq];exact f
 ·have:t=k:=i5
  subst this;rw[qi (by rw[cB];omega)]at a;exact⟨r,i4,a⟩
end
theorem tq(x:bF)(r:di)(h:f8)(F:dT fv h x r):ab xt 112 #[recv x] h λv h'=>∃s:Sl,v=s/\Sp h h' [al 5 s 1 aD (cL r)]:=by
 refine OP x ?_;unfold Hw;obtain⟨⟨O,e2,L,w,X,e7,Z⟩,T⟩:=id F;have y:x.2.2.2.1=r.p.1:=congrArg (·.1) w;have l:x.2.2.2.2.1=r.p.2.1:=congrArg (·.2.1) w;have j:x.2.2.2.2.2.1=r.p.2.2:=congrArg (·.2.2) w;refine(Sp.refl h).boxed λf E b=>?_;have b:Sp h E [ao f 170 (bT x)]:=b;refine⟨x,(b.box 0 i4).aS _ i4,(Ko x r E (fv.mono (fv.loc F b.ag) λ_ S=>q7 S b.ag.1)).mono ?_⟩;rintro _ U ⟨rfl,M⟩;have q:Sp h U [ao f 170 (bT x)]:=b.up M.ag;refine⟨_,i4,bh (λg=>?_) λg=>?_⟩
 ·unfold cL;rw[g];exact⟨⟨eH,0,0⟩,i4,(q.nil 5 1 aD).cE [1]⟩
 have Y:=pi g;have n:=q.box 0 i4;refine⟨r.object,by rw[<-O];exact n.cell0 i4,(nM ⟨eH,0,0⟩ [] r.object 3 i6 jj (q.nil 5 1 aD).bw).mono ?_⟩;rintro _ h3 ⟨z,rfl,G⟩;have m:=G.box 1 i4;refine⟨z,i4,r.block,by rw[<-e2];exact m.cell i4,(nM z _ r.block 1 i6 o7 G).mono ?_⟩;rintro _ h4 ⟨B,rfl,A⟩;have k:=A.box 1 i4;refine⟨B,i4,r.id,by rw[<-L];exact k.cell i4,(nM B _ r.id 2 i6 o7 A).mono ?_⟩;rintro _ h5 ⟨Q,rfl,I⟩;have a:=I.box 1 i4;refine⟨Q,i4,r.p.1,by rw[<-y];exact a.cell i4,r.p.2.1,by rw[<-l];exact a.AI 3 1 i4,r.p.2.2,by rw[<-j];exact a.AI 3 2 i4,?_⟩;dsimp only;rw[eO,eO,eO];refine I.lit ac aD gz i4 [b8 r.p.1,b8 r.p.2.1,b8 r.p.2.2] i4 (show 3*1<=2^20 by decide) i4 λN h6 D=>?_;refine D.append ac 0 i4 gz ⟨_,_,i4,i4⟩ i4 i6 (λ_=>rfl) (D.seq 2 i4 λ_=>rfl) gV o7 λJ P d=>?_;have d:Sp h P [al 5 J 1 aD ([]++cg r.object 3++cg r.block 1++cg r.id 2++[b8 r.p.1,b8 r.p.2.1,b8 r.p.2.2]),ao f 170 (bT x)]:=d.cE [0,1];have t:=d.box 1 i4;refine⟨r.seed,by rw[<-X];exact t.cell i4,?_⟩;dsimp only;rw[ak r.seed];refine(nM J _ r.seed 4 i6 o7 d).mono ?_;rintro _ h8 ⟨W,rfl,i⟩;have u:=i.box 1 i4;refine⟨W,i4,x.2.2.2.2.2.2.2,u.cell i4,?_⟩;refine i.append ac 0 i4 gz ⟨_,_,i4,i4⟩ i4 i6 (λ_=>rfl) (Seq.up T i.ag) gV l6 λH K e=>?_;have R:[]++cg r.object 3++cg r.block 1++cg r.id 2++[b8 r.p.1,b8 r.p.2.1,b8 r.p.2.2]++cg r.seed 4++r.data=jn r:=by unfold jn;simp[qq]
 have e:Sp h K [al 5 H 1 aD (jn r),ao f 170 (bT x)]:=by rw[<-R];exact e
 refine(If 1 H (jn r) K (e.seq 0 i4 λ_=>rfl)).mono ?_;rintro _ V ⟨c,rfl,o⟩;refine⟨c,i4,c,i4,?_⟩;unfold cL;rw[g,f9 rfl];exact(e.comp o).cE [2]
theorem TV(b:Sl)(c:ba)(h:f8)(hb:Rd h b 1 aD c)(hc:c.length<=2^30)(Z:b.len<=b.cap):
  ab xt 194 #[b] h λv h'=>∃x:bF,v=.tuple #[recv x,xm (eF c).isSome]/\(eF c=eH->Sp h h' [])/\∀r,eF c=dB r->Sp h h' [EA fv x r]:=by
 refine MX b ?_;unfold FT;refine(Sp.refl h).alloc ac i4 λf h1 Y=>?_;have Y:Sp h h1 [ao f 170 (bT (0,0,0,0,0,0,0,⟨eH,0,0⟩))]:=Y;have z:∀{h':f8} {Bs:List HP},Sp h h' (ao f 170 (bT (0,0,0,0,0,0,0,⟨eH,0,0⟩))::Bs)->eF c=eH->
   af xt (qf 170 (xk (dB f)) (recv (0,0,0,0,0,0,0,⟨eH,0,0⟩))) h' λ_ H=>∃P:bF,an H f 0 (bT P)/\∃x:bF,Value.tuple #[recv P,xm eS]=.tuple #[recv x,xm (eF c).isSome]/\(eF c=eH->Sp h H [])/\∀r,eF c=dB r->Sp h H [EA fv x r]:=λ{h' Bs} H' E=>by
  refine H'.storeAll ac 0 i4 i4 (bT (0,0,0,0,0,0,0,⟨eH,0,0⟩)) i4 i4 i4 i4 λH H4=>?_;exact⟨(0,0,0,0,0,0,0,⟨eH,0,0⟩),(H4.box 0 i4).aS _ i4,(0,0,0,0,0,0,0,⟨eH,0,0⟩),by rw[E];rfl,λ_=>.zip H4.ag,λr O=>by rw[E]at O;cases O⟩
 refine(YE b c h1 (hb.up Y.ag) hc Z).mono ?_;rintro _ h2 ⟨Q0,Q1⟩;cases htc:kE c with
 |none=>
  obtain⟨rfl,R2⟩:=Q0 htc;have E:eF c=eH:=by unfold eF;rw[htc]
  exact⟨(0,⟨eH,0,0⟩,eS),i4,bj (bh (λ_=>z (Y.up R2.ag) E) λe=>j3)⟩
 |some kx=>
  obtain⟨k,x⟩:=kx;obtain⟨r,rfl,R2⟩:=Q1 k x htc;have t:Sp h h2 [ao f 170 (bT (0,0,0,0,0,0,0,⟨eH,0,0⟩)),al 5 r 1 aD x]:=Y.comp R2;have a4:x.length=55:=by
   unfold kE at htc;split at htc
   ·rename_i m;injection htc with htc
    injection htc with _ htc
    rw[<-htc];simp;omega
   ·cases htc
  have bd:=(t.own 1 i4).len;have U:=(t.own 1 i4).cap;refine⟨(k,r,eR),i4,bj (bh (λe=>j3) λ_=>bQ (λe=>z t ?_) λJ=>?_)⟩
  ·unfold eF;rw[htc];exact g0 λm=>e m.1
  dsimp only;have J:k=1:=J;obtain⟨R,s⟩:∃R,R=wN x:=⟨_,rfl⟩
  have L:eF c=if bB R.p=eR/\cL R=c then dB R else eH:=by
   unfold eF;rw[htc];dsimp only;rw[<-s];by_cases m:bB R.p=eR/\cL R=c
   ·rw[f9 m];exact f9 ⟨J,m⟩
   ·rw[g0 m];exact g0 λh=>m h.2
  have tA:∀{h':f8},Rd h' r 1 aD x->ab xt 246 #[xj r.ptr 3 r.cap] h' λv I=>v=xi xo R.object/\I=h':=λ{h'} O=>by
   rw[s];exact Qp ⟨r.ptr,3,r.cap⟩ (x.take 3) h' (O.take 3 i5) i9
  have N:∀{h':f8} (j n:Nat),j+n<=55->n<=4->Rd h' r 1 aD x->ab xt 246 #[.slice (if r.cap=j then r.ptr else r.ptr.map (·.add (j*1))) n (r.cap-j)] h' λv I=>v=xi xo (dz ((x.drop j).take n))/\I=h':=λ{h'} j n hjn E O=>
   Qp ⟨if r.cap=j then r.ptr else r.ptr.map (·.add (j*1)),n,r.cap-j⟩ ((x.drop j).take n) h' ((O.drop j U).take n l4) i9
  have rd:∀{h':f8} {A:HP} {Bs:List HP},Sp h h' (A::al 5 r 1 aD x::Bs)->Rd h' r 1 aD x:=λ{h' A Bs} H'=>H'.seq 1 i4 λ_=>rfl;have GH:∀{h':f8} {A A2:HP} {Bs:List HP},Sp h h' (A::A2::al 5 r 1 aD x::Bs)->Rd h' r 1 aD x:=λ{h' A A2 Bs} H'=>H'.seq 2 i4 λ_=>rfl;refine bY (λ(a:fz) h'=>Sp h h' [ao a 170 (bT (R.object,R.block,R.id,0,0,0,0,⟨eH,0,0⟩)),ao f 170 (bT (0,0,0,0,0,0,0,⟨eH,0,0⟩)),al 5 r 1 aD x]) ?_ ?_
  ·have eb:dz ((x.drop 3).take 1)=R.block:=p0
   have ei:dz ((x.drop 4).take 2)=R.id:=p0
   have fin:∀{h':f8} {a:fz},Sp h h' [ao f 170 (bT (0,0,0,0,0,0,0,⟨eH,0,0⟩)),al 5 r 1 aD x,ao a 170 (bT (0,0,0,0,0,0,0,⟨eH,0,0⟩))]->
     af xt (qf 170 (xk (dB a)) (recv (R.object,R.block,R.id,0,0,0,0,⟨eH,0,0⟩))) h' λ_ H=>av.ok [] H/\Sp h H [ao a 170 (bT (R.object,R.block,R.id,0,0,0,0,⟨eH,0,0⟩)),ao f 170 (bT (0,0,0,0,0,0,0,⟨eH,0,0⟩)),al 5 r 1 aD x]:=λ{h' a} H'=>
    H'.storeAll ac 2 i4 i4 (bT (R.object,R.block,R.id,0,0,0,0,⟨eH,0,0⟩)) i4 i4 i4 i4 λH H4=>⟨trivial,H4.cE [2,0,1]⟩
   have A_:∀{h':f8} {Bs:List HP} {K:Int->f8->Prop},Sp h h' (ao f 170 (bT (0,0,0,0,0,0,0,⟨eH,0,0⟩))::al 5 r 1 aD x::Bs)->K R.object h'->ae xt 246 #[xj r.ptr 3 r.cap] (.one (.sc (.int .i64))) h' K:=λ{h' Bs K} H' hK=>by
    refine(tA (rd H')).mono ?_;rintro _ _ ⟨rfl,rfl⟩;exact⟨_,i4,hK⟩
   have B_:∀{h':f8} {Bs:List HP} {K:Int->f8->Prop},Sp h h' (ao f 170 (bT (0,0,0,0,0,0,0,⟨eH,0,0⟩))::al 5 r 1 aD x::Bs)->K R.block h'->ae xt 246 #[.slice (if r.cap=3 then r.ptr else r.ptr.map (·.add (3*1))) 1 (r.cap-3)] (.one (.sc (.int .i64))) h' K:=λ{h' Bs K} H' hK=>by
    refine(N 3 1 i6 i6 (rd H')).mono ?_;rintro _ _ ⟨rfl,rfl⟩;exact⟨_,i4,by rw[eb];exact hK⟩
   have C_:∀{h':f8} {Bs:List HP} {K:Int->f8->Prop},Sp h h' (ao f 170 (bT (0,0,0,0,0,0,0,⟨eH,0,0⟩))::al 5 r 1 aD x::Bs)->K R.id h'->ae xt 246 #[.slice (if r.cap=4 then r.ptr else r.ptr.map (·.add (4*1))) 2 (r.cap-4)] (.one (.sc (.int .i64))) h' K:=λ{h' Bs K} H' hK=>by
    refine(N 4 2 i6 i6 (rd H')).mono ?_;rintro _ _ ⟨rfl,rfl⟩;exact⟨_,i4,by rw[ei];exact hK⟩
   refine⟨⟨i6,i5⟩,⟨i6,i6,i5⟩,⟨i6,i6,i5⟩,A_ t ⟨trivial,B_ t ⟨trivial,C_ t ⟨trivial,?_⟩,?_⟩,?_⟩,?_⟩
   ·refine t.alloc ac i4 λa9 h9 l=>⟨trivial,?_⟩
    exact fin l
   ·refine t.alloc ac i4 λa9 h9 l=>⟨trivial,?_⟩
    exact C_ l ⟨trivial,fin l⟩
   ·refine t.alloc ac i4 λa9 h9 l=>⟨trivial,?_⟩
    exact B_ l ⟨trivial,C_ l ⟨trivial,fin l⟩⟩
   ·refine t.alloc ac i4 λa9 h9 l=>⟨trivial,?_⟩
    exact A_ l ⟨trivial,B_ l ⟨trivial,C_ l ⟨trivial,fin l⟩⟩⟩
  ·rintro a9 h5 H5;have M:0<=R.seed/\R.seed<4294967296:=by have:=TU ((x.drop 9).take 4) i9;rw[s];exact⟨this.1,this.2.1⟩
   have e6:dz ((x.drop 6).take 1)=R.p.1:=p0
   have e7:dz ((x.drop 7).take 1)=R.p.2.1:=p0
   have e8:dz ((x.drop 8).take 1)=R.p.2.2:=p0
   have e9:dz ((x.drop 9).take 4)=R.seed:=p0
   refine bj ⟨⟨i6,i6,i5⟩,⟨i6,i6,i5⟩,⟨i6,i6,i5⟩,(N 6 1 i6 i6 (GH H5)).mono ?_⟩;rintro _ _ ⟨rfl,rfl⟩;refine⟨_,i4,trivial,(N 7 1 i6 i6 (GH H5)).mono ?_⟩;rintro _ _ ⟨rfl,rfl⟩;refine⟨_,i4,trivial,(N 8 1 i6 i6 (GH H5)).mono ?_⟩;rintro _ bk ⟨rfl,rfl⟩;refine⟨_,i4,trivial,?_⟩;dsimp only;rw[e6,e7,e8];refine H5.store ac 0 i4 i4 3 [xi xo R.p.1,xi xo R.p.2.1,xi xo R.p.2.2] i4 i4 i4 jj λap B=>⟨trivial,?_⟩
   have B:Sp h ap [ao a9 170 (bT (R.object,R.block,R.id,R.p.1,R.p.2.1,R.p.2.2,0,⟨eH,0,0⟩)),ao f 170 (bT (0,0,0,0,0,0,0,⟨eH,0,0⟩)),al 5 r 1 aD x]:=B;refine⟨⟨i6,i6,i5⟩,(N 9 4 i6 i6 (GH B)).mono ?_⟩;rintro _ a8 ⟨rfl,rfl⟩;refine⟨_,i4,?_⟩;dsimp only;have ew:qc xq (dz ((x.drop 9).take 4))=R.seed:=by rw[e9];unfold qc;simp[ql,yY];omega
   rw[ew];refine B.store ac 0 i4 i4 6 [xi xq R.seed] i4 i4 i4 jj λQ y=>?_;have y:Sp h Q [ao a9 170 (bT (R.object,R.block,R.id,R.p.1,R.p.2.1,R.p.2.2,R.seed,⟨eH,0,0⟩)),ao f 170 (bT (0,0,0,0,0,0,0,⟨eH,0,0⟩)),al 5 r 1 aD x]:=y;refine⟨R.p,(y.box 0 i4).Jq 3 i4 i4 i4,(dW R.p Q).mono ?_⟩;rintro _ ad ⟨rfl,a2⟩;have D:Sp h ad [ao a9 170 (bT (R.object,R.block,R.id,R.p.1,R.p.2.1,R.p.2.2,R.seed,⟨eH,0,0⟩)),ao f 170 (bT (0,0,0,0,0,0,0,⟨eH,0,0⟩)),al 5 r 1 aD x]:=y.up a2.ag;refine⟨_,i4,bh (λg=>z (D.aZ 2 [1,0]) (by rw[L,g0 λm=>by rw[g]at m;cases m.1])) λg=>?_⟩;have bb:=(bZ R.p).1 g;refine⟨R.p.2.2,(D.box 0 i4).AI 3 2 i4,?_⟩;dsimp only;rw[ak ((13:Int)+R.p.2.2)];refine⟨⟨i6,i5,i5⟩,?_⟩;have ah:((13:Int)+R.p.2.2).toNat-(13:Int).toNat=R.p.2.2.toNat:=i5
   rw[ah];have F:(x.drop 13).take R.p.2.2.toNat=R.data:=p0
   have G:=((GH D).drop 13 U).take R.p.2.2.toNat l4;rw[F]at G;have a6:R.data.length=R.p.2.2.toNat:=by rw[<-F];simp;omega
   refine(fC ⟨if r.cap=13 then r.ptr else r.ptr.map (·.add (13*1)),R.p.2.2.toNat,r.cap-13⟩ R.data ad G i5).mono ?_;rintro _ a5 ⟨u,rfl,ar⟩;have ax:=D.comp ar;refine⟨u,i4,?_⟩;refine ax.store ac 0 i4 i4 7 [u] i4 i4 i4 jj λW i=>?_;have i:Sp h W [ao a9 170 (bT (R.object,R.block,R.id,R.p.1,R.p.2.1,R.p.2.2,R.seed,u)),ao f 170 (bT (0,0,0,0,0,0,0,⟨eH,0,0⟩)),al 5 r 1 aD x,al 5 u 1 aD R.data]:=i;obtain⟨X,hX⟩:∃X:bF,X=(R.object,R.block,R.id,R.p.1,R.p.2.1,R.p.2.2,R.seed,u):=⟨_,rfl⟩
   rw[<-hX]at i;have S:∀{h':f8} {q:aB},Seq h' q u 1 aD R.data->fv.p h' q X R:=λ{h' q} hs=>by rw[hX];exact⟨⟨i4,i4,i4,i4,i4,M⟩,hs⟩
   refine⟨X,(i.box 0 i4).aS _ i4,(tq X R W (S (i.seq 3 i4 λ_=>rfl))).mono ?_⟩;rintro _ ay ⟨s5,rfl,a3⟩;have o:=i.comp a3;refine⟨s5,i4,(rz b s5 c (cL R) ay (hb.up o.ag) (o.seq 4 i4 λ_=>rfl)).mono ?_⟩;rintro _ a7 ⟨rfl,rfl⟩;refine⟨_,i4,bh (λT=>z (o.aZ 2 [1,0]) (by rw[L,g0 λm=>(of_decide_eq_false T) m.2.symm])) λT=>?_⟩;have T:c=cL R:=ii T;refine⟨X,(o.box 0 i4).aS _ i4,?_⟩;refine o.storeAll ac 1 i4 i4 (bT X) i4 i4 i4 i4 λa0 V=>?_;have d:eF c=dB R:=by rw[L,f9 ⟨g,T.symm⟩]
   refine⟨X,(V.box 1 i4).aS _ i4,X,by rw[d];rfl,λE=>(by rw[d]at E;cases E),λr' w=>?_⟩;rw[d]at w;injection w with w
   subst w;have am:Sp h a0 [al 5 u 1 aD R.data]:=V.cE [3];exact am.gg 0 i4 λq hq=>S (hq.1.seq (λ_=>rfl) hq.2)
end Go.Qw
namespace Go.Vc
open Go Wl Go.Qw
section
variable {B:aB} {h0 h h':f8} {As L:List HP} {X Y Z:HP}
theorem aa.aiQ(H:aa B h0 h (X::Y::(L++As))):aa B h0 h (L++(X::Y::As)):=
 H.pick (λi=>if i<i0 L then i+2 else if i=i0 L then 0 else if i=i0 L+1 then 1 else i) (λa b c=>by(try dsimp only at c);split at c<;>split at c<;>(try split at c)<;>(try split at c)<;>(try split at c)<;>(try split at c)<;>omega) λi A d=>by
  try dsimp only
  by_cases g:i<i0 L
  ·rw[qo g]at d;rw[f9 g,qB,qB,qo g];exact d
  ·rw[qj i5]at d;rw[g0 g];by_cases f:i=i0 L
   ·subst f;rw[f9 rfl];rw[zc]at d;exact d
   ·rw[g0 f];by_cases e:i=i0 L+1
    ·subst e;rw[f9 rfl];rw[show L.length+1-i0 L=1 by omega]at d;exact d
    ·rw[g0 e];obtain⟨j,rfl⟩:∃j,i=i0 L+(j+2):=⟨i-i0 L-2,i5⟩
     rw[zq,qB,qB]at d;rw[show L.length+(j+2)=(i0 L+j)+1+1 by omega,qB,qB,qj i5,zq];exact d
theorem aa.Xt(n:Nat)(b:L[n]?=dB X)(H:aa B h0 h (Y::Z::(L++As))):aa B h0 h (X::Z::Y::(L.set n emp++As)):=by
 have a:=(qn.1 b).1;have c:=H.cons (n+2) (A:=X) (by rw[qB,qB,qo a];exact b);have e:(Y::Z::(L++As)).set (n+2) emp=Y::Z::(L.set n emp++As):=by rw[zP,zP,List.set_append_left _ _ a]
 rw[e]at c;exact c.aZ 3 [0,2,1]
theorem aa.Js(n:Nat)(f:n<i0 L)(H:aa B h0 h (X::Z::Y::(L.set n emp++As))):aa B h0 h (Y::Z::(L.set n X++As)):=
 H.pick (λi=>if i=0 then 2 else if i=1 then 1 else if i=n+2 then 0 else i+1) (λa b c=>by(try dsimp only at c);split at c<;>split at c<;>(try split at c)<;>(try split at c)<;>(try split at c)<;>(try split at c)<;>omega) λi A d=>by
  try dsimp only
  match i,d with
  |0,d=>exact d
  |1,d=>exact d
  |i+2,d=>
   rw[g0 i5,g0 i5];rw[qB,qB]at d;by_cases e:i=n
   ·subst e;rw[qo o5,zp f]at d;rw[f9 rfl];exact d
   ·rw[g0 i5,qB,qB,qB];by_cases g:i<i0 L
    ·rw[qo k9,zI i5]at d;rw[qo k9,zI i5];exact d
    ·rw[qj i9,zA]at d;rw[qj i9,zA];exact d
end
structure Kit where
 tS:Nat
 tP:Nat
 tD:Nat
 f:fz->bo->Sl->Sl->bc
def aia(k:Kit)(pw:fz)(a:aO)(d:Option bo):HP:=match a,d with
 |some a,dB d=>iK k.tD (k.f pw) a d
 |_,_=>emp
abbrev dh(a:bc)(pw:fz)(offs:Int)(b:List aO):bc:=a++(xk (dB pw)::xi xo offs::b.map .pointer)
structure gM (mc:bc) (da:List aO) (ds:aF):Prop where
 l8:i0 mc=8
 la:i0 da=64
 ls:i0 ds=64
 same:∀i:Nat,(da.getD i eH).isSome=(ds.getD i eH).isSome
abbrev ig(k:Kit)(pw:fz)(a:List aO)(ds:aF):List HP:=List.zipWith (aia k pw) a ds
def bu(k:Kit)(a pw:fz)(c:bc)(offs:Int)(b:List aO)(w:Pow)(ds:aF):HP:=
 (HP.all (ao a k.tS (dh c pw offs b)::dE k.tP pw w::ig k pw b ds)).and (gM c b ds)
section
variable {k:Kit} {B:aB} {h0 h h':f8} {As:List HP} {a pw:fz} {mc:bc} {offs:Int} {da:List aO} {w w':Pow} {ds:aF} {d d':bo} {n:Nat}
theorem Lx(ok:gM mc da ds):i0 (ig k pw da ds)=64:=by simp[ig,ok.la,ok.ls]
theorem aa.sH(H:aa B h0 h (bu k a pw mc offs da w ds::As)):gM mc da ds/\aa B h0 h (ao a k.tS (dh mc pw offs da)::dE k.tP pw w::(ig k pw da ds++As)):=by obtain⟨H,ok⟩:=H.KM;exact⟨ok,H.pf⟩
theorem aa.um(ok:gM mc da ds)(H:aa B h0 h (ao a k.tS (dh mc pw offs da)::dE k.tP pw w::(ig k pw da ds++As))):aa B h0 h (bu k a pw mc offs da w ds::As):=
 (aa.closeAll (ao a k.tS (dh mc pw offs da)::dE k.tP pw w::ig k pw da ds) H).toKM ok
theorem gM.addr(ok:gM mc da ds)(c:ds[n]?=dB (dB d)):∃b,da[n]?=dB (dB b):=by
 have e:n<64:=by have:=(qn.1 c).1;rw[ok.ls]at this;exact this
 have a:=ok.same n;rw[qe,qe,c]at a;have g:n<i0 da:=by rw[ok.la];exact e
 rw[qd g]at a⊢;simp at a;obtain⟨b,f⟩:=vt.1 a;exact⟨b,by rw[f]⟩
theorem gM.aaZ(ok:gM mc da ds)(b:n<64)(c:ds[n]?=dB eH):da[n]?=dB eH:=by
 have a:=ok.same n;rw[qe,qe,c]at a;have d:n<i0 da:=by rw[ok.la];exact b
 rw[qd d]at a⊢;simp at a;rw[a]
theorem gM.set(ok:gM mc da ds){b:fz}(c:da[n]?=dB (dB b)):gM mc da (ds.set n (dB d')):=by
 refine⟨ok.l8,ok.la,by rw[zA];exact ok.ls,λi=>?_⟩;by_cases a:n=i
 ·subst a;have d:n<i0 ds:=by have:=(qn.1 c).1;rw[ok.la]at this;rw[ok.ls];exact this
  rw[qe,c,qe,zp d];rfl
 ·rw[qe (l:=ds.set n _),zI a,<-qe];exact ok.same i
theorem adS{b:fz}(c:da[n]?=dB (dB b))(d:n<i0 ds):(ig k pw da ds).set n (iK k.tD (k.f pw) b d')=ig k pw da (ds.set n (dB d')):=by
 apply zO;intro j;have e:n<i0 da:=(qn.1 c).1;simp only[ig,zd,wA,vn];by_cases a:n=j
 ·subst a;rw[f9 i4,f9 i5,f9 i4,f9 d,c];rfl
 ·simp[a]
def Sa(k:Kit)(a pw:fz)(c:bc)(offs:Int)(b:List aO)(ds:aF)(n:Nat):HP:=
 (HP.all (ao a k.tS (dh c pw offs b)::(ig k pw b ds).set n emp)).and (gM c b ds)
theorem aa.jT(H:aa B h0 h (bu k a pw mc offs da w ds::As))(e:ds[n]?=dB (dB d)):∃b,da[n]?=dB (dB b)/\aa B h0 h (iK k.tD (k.f pw) b d::dE k.tP pw w::Sa k a pw mc offs da ds n::As):=by
 obtain⟨ok,i⟩:=H.sH;obtain⟨b,c⟩:=ok.addr e;refine⟨b,c,?_⟩;have l:(ig k pw da ds)[n]?=dB (iK k.tD (k.f pw) b d):=by simp only[ig,wA,c,e];rfl
 have j:=i.Xt n l;have g:aa B h0 h (iK k.tD (k.f pw) b d::dE k.tP pw w::((ao a k.tS (dh mc pw offs da)::(ig k pw da ds).set n emp)++As)):=j;exact(((aa.closeAll _ g.aiQ).toKM ok).aZ 3 [1,2,0]:aa B h0 h (iK k.tD (k.f pw) b d::dE k.tP pw w::Sa k a pw mc offs da ds n::As))
theorem aa.sI{b:fz}(j:da[n]?=dB (dB b))(H:aa B h0 h (iK k.tD (k.f pw) b d'::dE k.tP pw w'::Sa k a pw mc offs da ds n::As)):aa B h0 h (bu k a pw mc offs da w' (ds.set n (dB d'))::As):=by
 have l:aa B h0 h (Sa k a pw mc offs da ds n::dE k.tP pw w'::iK k.tD (k.f pw) b d'::As):=H.aZ 3 [2,1,0];obtain⟨l,ok⟩:=l.KM;have r:=l.pf;have p:n<i0 ds:=by have:=(qn.1 j).1;rw[ok.la]at this;rw[ok.ls];exact this
 have s:=Lx (k:=k) (pw:=pw) ok;have g:n<i0 (ig k pw da ds):=by rw[s,<-ok.ls];exact p
 obtain⟨L,q⟩:∃L,L=ig k pw da ds:=⟨_,rfl⟩
 rw[<-q]at r g;have t:aa B h0 h (iK k.tD (k.f pw) b d'::dE k.tP pw w'::ao a k.tS (dh mc pw offs da)::(L.set n emp++As)):=by
  refine r.pick (λi=>if i=0 then 1+i0 L+1 else if i=1 then 1+i0 L else if i=2 then 0 else if i<3+i0 L then i-2 else i) (λx y c=>by(try dsimp only at c);split at c<;>split at c<;>(try split at c)<;>(try split at c)<;>(try split at c)<;>(try split at c)<;>(try split at c)<;>(try split at c)<;>omega) λi A e=>?_
  try dsimp only
  have d:i0 (ao a k.tS (dh mc pw offs da)::L.set n emp)=1+i0 L:=i9
  match i,e with
  |0,e=>rw[f9 i4,qj i5,d,show 1+i0 L+1-(1+i0 L)=1 by omega];exact e
  |1,e=>rw[g0 i5,f9 i4,qj i5,d,zc];exact e
  |2,e=>rw[g0 i5,g0 i5,f9 rfl];exact e
  |i+3,e=>
   rw[g0 i5,g0 i5,g0 i5];rw[qB,qB,qB]at e;by_cases m:i<i0 L
   ·rw[f9 i5,show i+3-2=i+1 by omega,qo (by rw[d];omega),qB];rw[qo (by simpa using m)]at e;exact e
   ·rw[g0 i5,qj (by rw[d];omega),d,show i+3-(1+i0 L)=(i-i0 L)+2 by omega,qB,qB];rw[qj i9,zA]at e;exact e
 have o:=aa.Js n g t;rw[q,adS j p]at o;exact o.um (ok.set j)
end
def jw:jz (Int×Sl) (Int×ba):=⟨λh q a b=>a.1=b.1/\Seq h q a.2 1 aD b.2,λa c=>⟨a.1,a.2.ag c⟩,λa d=>⟨a.1,a.2.mono d⟩⟩
def piv(x:Int×Sl):bc:=[xi xo x.1,x.2]
theorem Pj:∀x,∀c∈piv x,c.oneCell'=eR:=by intro x c a;simp[piv]at a;rcases a with rfl|rfl<;>rfl
def iL(b:List aO)(a:Int):aO:=if 0<=a/\a<64 then(b[a.toNat]?).join else eH
theorem oW{i:bc}{e:List aO}{ds:aF}(ok:gM i e ds)(a:Int):
  (aX ds a=eH/\iL e a=eH)∨∃(n:Nat) (d:bo) (b:fz),a=n/\n<64/\ds[n]?=dB (dB d)/\aX ds a=dB d/\e[n]?=dB (dB b)/\iL e a=dB b:=by
 unfold aX iL;by_cases h:0<=a/\a<64
 ·rw[f9 h,f9 h];have f:a.toNat<i0 ds:=by rw[ok.ls];omega
  cases hd:ds[a.toNat]with
  |none=>
   have c:ds[a.toNat]?=dB eH:=by rw[qd f,hd]
   exact .inl ⟨by rw[c];rfl,by rw[ok.aaZ i5 c];rfl⟩
  |some d=>
   have c:ds[a.toNat]?=dB (dB d):=by rw[qd f,hd]
   obtain⟨b,g⟩:=ok.addr c;exact .inr ⟨a.toNat,d,b,i5,i5,c,by rw[c];rfl,g,by rw[g];rfl⟩
 ·rw[g0 h,g0 h];exact .inl ⟨i4,i4⟩
theorem un{b:bc}{pw:fz}{offs:Int}{a:List aO}(h8:i0 b=8)(n:Nat):(dh b pw offs a)[10+n]?=(a[n]?).map .pointer:=by unfold dh;rw[qj i5,h8,show 10+n-8=n+1+1 by omega,qB,qB,qS]
theorem TW{a:bc}{pw:fz}{offs:Int}{b:List aO}(h8:i0 a=8):(dh a pw offs b)[8]?=dB (xk (dB pw)):=by unfold dh;rw[qj i5,h8];rfl
theorem YF{a:bc}{pw:fz}{offs:Int}{b:List aO}(h8:i0 a=8):(dh a pw offs b)[9]?=dB (xi xo offs):=by unfold dh;rw[qj i5,h8];rfl
end Go.Vc
namespace Go.Qw
open Go Go.Vc Go.Proofs Wl
abbrev bJ:Go.Vc.Kit:=⟨84,92,156,λpw=>ga pw⟩
theorem TX{e:TypeId}(s:Sl)(l:az)(h:f8)(c:Own h e s 1 aq l)(a:i0 l<2^40):ab xt 172 #[s] h λv h'=>v=xj s.ptr (Lib.compact l).length s.cap/\Own h' e ⟨s.ptr,i0 (Lib.compact l),s.cap⟩ 1 aq (Lib.compact l)/\aY (λb=>¬s.on b) h h':=
 Mg Tryz.slices_Compact_int Tryz.slices_Compact_int_empty c a
section
variable {B:aB} {h0 h h':f8} {As:List HP} {a pw:fz} {mc:bc} {offs:Int} {da:List aO} {w:Pow} {ds:aF}
theorem mP(b:Int)(ok:gM mc da ds)(f:cv h a 84 (dh mc pw offs da)):ab xt 35 #[xk (dB a),xi xo b] h λv h'=>v=.pointer (iL da b)/\h'=h:=by
 refine Df (dB a) b ?_;unfold rV;have d:¬(0<=b/\b<64)->Value.pointer eH=.pointer (iL da b)/\h=h:=λe=>by unfold iL;rw[g0 e];exact⟨i4,i4⟩
 refine bj (bD (λe=>j3) λ_=>ai (λe=>d i5) λg=>ai (λe=>d i5) λe2=>?_);have c:b.toNat<i0 da:=qa
 refine⟨a,i4,⟨i5,i5⟩,da[b.toNat],?_,?_,i4⟩
 ·rw[wF];refine f.AI 10 b.toNat ?_;rw[un ok.l8,qd c];rfl
 ·unfold iL;rw[f9 i5,qd c];rfl
theorem aa.cN(H:aa B h0 h (bu bJ a pw mc offs da w ds::As)):gM mc da ds/\cv h a 84 (dh mc pw offs da):=by obtain⟨ok,b⟩:=Go.Vc.aa.sH H;exact⟨ok,b.box 0 i4⟩
theorem YG(s:Sl)(l:az)(u:Rd h s 1 aq l)(G:i0 l<=2^30)(H:aa B h0 h (bu bJ a pw mc offs da w ds::As)):
  ab xt 80 #[.func (.func 35) #[xk (dB a)] #[],s] h λv h'=>∃r:Sl,v=r/\Sp h h' [al 3 r 1 aq (aR ds l)]:=by
 refine TA (35,#[xk (dB a)],#[]) s ?_;unfold MF;have A:=u.len;obtain⟨ok,x⟩:=aa.cN H;refine aw (λt:Sl×Nat=>(t.1,(t.2:Int))) (λt h'=>t.2<=i0 l/\Sp h h' [al 3 t.1 1 aq (aR ds (l.take t.2))]) (λt=>i0 l-t.2) (⟨eH,0,0⟩,0) i4 ⟨jj,by simpa[aR]using(Sp.refl h).nil 3 1 aq⟩ ?_;rintro⟨o,i⟩ I ⟨M,j⟩;dsimp only at*;refine ai (λe=>?_) (λe=>?_)
 ·have p:i<i0 l:=i5
  have c:aR ds (l.take (i+1))=aR ds (l.take i)++(if isLive ds l[i]then[l[i]]else[]):=by unfold aR;rw[aG _ _ p,zl,zr,va]
  have E:i0 (aR ds (l.take i))<=i0 l:=by have:=qR (isLive ds) (l.take i);unfold aR;simp at this⊢;omega
  have next:∀{h':f8} {k:Sl},Sp h h' [al 3 k 1 aq (aR ds (l.take (i+1)))]->∃m:Sl×Nat,((⟨k.ptr,k.len,k.cap⟩:Sl),qc xo ((i:Int)+1))=(m.1,(m.2:Int))/\(m.2<=i0 l/\Sp h h' [al 3 m.1 1 aq (aR ds (l.take m.2))])/\l.length-m.2<i0 l-i:=λ{h' k} H'=>
   ⟨(k,i+1),js,⟨i7,H'⟩,i7⟩
  refine(Seq.up u j.ag).bC i i4 p l[i] i4 (fe k8 ?_);refine(mP l[i] ok (x.ag j.ag x.lt)).mono ?_;rintro _ K ⟨rfl,rfl⟩;refine⟨_,i4,?_⟩;rcases oW ok l[i]with⟨c1,c2⟩|⟨n,d,b,c0,c1,c2,c3,c4,c5⟩
  ·rw[c2];have g:isLive ds l[i]=eS:=by unfold isLive;rw[c1]
   rw[g]at c;refine bh (λe=>j3) λ_=>next (by rw[c];simpa using j)
  ·rw[c5];have g:isLive ds l[i]=!d.lost:=by unfold isLive;rw[c3]
   refine bh (λ_=>?_) λe=>j3
   obtain⟨J,f,D⟩:=Go.Vc.aa.jT (aa.up H j.ag) c2;rw[c4]at f;injection f with f
   injection f with f
   subst f;obtain⟨z,F,q,_,_⟩:=ki.box D;refine(Ie z F q).mono ?_;rintro _ h3 ⟨rfl,rfl⟩;refine⟨_,i4,bh (λe=>?_) λe=>?_⟩
   ·rw[g,e]at c;refine j.push ac 0 i4 gm i4 i6 (λ_=>rfl) fN l[i] i4 i6 i5 λk L y=>next ?_
    rw[c];exact y
   ·rw[g,e]at c;exact next (by rw[c];simpa using j)
 ·rw[qi i5]at j;exact⟨o,i4,j⟩
theorem Np(s:Sl)(l:az)(W:St B h0 As λh=>Rd h s 1 aq l)(Z:i0 l<=2^30)(E:∀x∈l,0<=x/\x<64)(H:aa B h0 h (bu bJ a pw mc offs da w ds::As)):
  ab xt 103 #[.func (.func 35) #[xk (dB a)] #[],s] h λv h'=>v=xi xo (eW (cA l) w ds).1/\aa B h0 h' (bu bJ a pw mc offs da (eW (cA l) w ds).2.1 (eW (cA l) w ds).2.2::As):=by
 refine TD (35,#[xk (dB a)],#[]) s ?_;unfold MK;refine(jX s l h (W.at [_] H) i5).mono ?_;rintro _ P ⟨r,rfl,Q⟩;have L:=H.ca Q;refine⟨r,i4,(Ql r l P (L.own 0 i4) i5).mono ?_⟩;rintro _ V ⟨rfl,J,S⟩;have U:=L.pd 0 i4 S J;refine⟨(),i4,(TX r (ly l) V J (by rw[PK];omega)).mono ?_⟩;rintro _ h3 ⟨rfl,R,I⟩;have y:=U.step (D:=al 3 ⟨r.ptr,i0 (Lib.compact (ly l)),r.cap⟩ 1 aq (Lib.compact (ly l))) 0 i4 λq G F=>⟨I.mono λb _ m A=>m (G.2 b A),R,λb m=>⟨q7 (F b (G.2 b m)) I.1,.inl (G.2 b m)⟩⟩
 rw[Yg l E]at y⊢;obtain⟨u,M⟩:∃u,u=cA l:=⟨_,rfl⟩
 rw[<-M]at y⊢;have y:aa B h0 h3 (al 3 ⟨r.ptr,i0 u,r.cap⟩ 1 aq u::bu bJ a pw mc offs da w ds::As):=y;have O:i0 u<=64:=by have:=qR (λi=>decide (i∈l)) ((qw 64).map λi:Nat=>(i:Int));rw[M];unfold cA;simpa using this
 refine⟨⟨r.ptr,i0 u,r.cap⟩,i4,?_⟩;refine aw (λt:Nat×Pow×aF=>(t.1:Int)) (λt h'=>t.1<=i0 u/\eW u w ds=eW (u.drop t.1) t.2.1 t.2.2/\aa B h0 h' (al 3 ⟨r.ptr,i0 u,r.cap⟩ 1 aq u::bu bJ a pw mc offs da t.2.1 t.2.2::As)) (λt=>i0 u-t.1) (0,w,ds) i4 ⟨jj,i4,y⟩ ?_;rintro⟨i,j,f⟩ h4 ⟨hi,c,o⟩;dsimp only at*;refine ai (λe=>?_) (λe=>?_)
 ·have p:i<i0 u:=i5
  obtain⟨ok,m⟩:=aa.cN o.rest;rw[qQ p,wf]at c;refine(o.seq 0 i4 λ_=>rfl).bC i i4 p u[i] i4 (fe k8 ?_);refine(mP u[i] ok m).mono ?_;rintro _ X ⟨rfl,rfl⟩;refine⟨_,i4,?_⟩;rcases oW ok u[i]with⟨c1,c2⟩|⟨n,d,b,c0,c1,c2,c3,c4,c5⟩
  ·rw[c2];refine(TQ X).mono ?_;rintro _ Y ⟨rfl,rfl⟩;have z:gI j f u[i]=(5,j,f):=by unfold gI;rw[c1]
   rw[z]at c;refine⟨5,i4,bQ (λ_=>?_) λe=>absurd e i6⟩;have:eW u w ds=(5,j,f):=c;rw[this];exact⟨i4,o.rest⟩
  ·rw[c5];obtain⟨b',g,T⟩:=Go.Vc.aa.jT (o.aZ 2 [1,0]) c2;rw[c4]at g;injection g with g
   injection g with g
   subst g;refine(aaR T).mono ?_;rintro _ Y ⟨rfl,N⟩;have K:=Go.Vc.aa.sI (k:=bJ) (n:=n) c4 N;have z:gI j f u[i]=((d.sync j).1,(d.sync j).2.1,f.set n (dB (d.sync j).2.2)):=by unfold gI;rw[c3];simp only[bS,c0,qm]
   rw[z]at c;refine⟨_,i4,bQ (λe2=>?_) λe2=>?_⟩
   ·have:eW u w ds=((d.sync j).1,(d.sync j).2.1,f.set n (dB (d.sync j).2.2)):=by rw[c];exact g0 e2
    rw[this];exact⟨i4,K.pO⟩
   ·refine⟨(i+1,(d.sync j).2.1,f.set n (dB (d.sync j).2.2)),js,⟨i7,?_,K.aZ 2 [1,0]⟩,i7⟩;rw[c];exact f9 e2
 ·rw[zf i5]at c;rw[c];exact⟨i4,o.rest⟩
end
end Go.Qw
namespace Go.Vc
open Go Wl
theorem HP.DJ{h:f8}:∀{L:List HP} {q:aB} {i:Nat} {A:HP},(HP.all L).p h q->L[i]?=dB A->A.p h q
 |A::L,q,0,A',⟨q1,q2,_,b,_,d,_⟩,hi=>by simp at hi;subst hi;exact A.mono d b
 |A::L,q,i+1,A',⟨q1,q2,_,_,c,_,e⟩,hi=>A'.mono (HP.DJ e (by simpa using hi)) c
 |[],_,i,_,_,hi=>by simp at hi
section
variable {α β:Type} {B:aB} {h0 h:f8} {As:List HP} {e e2 k:Nat} {s:Sl} {f:α->bc} {ll:List (List α)}
theorem aa.YH(H:aa B h0 h (dQ e s e2 k f ll::As))(n:∀x,i0 (f x)=k):∃rs,aa B h0 h (cW (cu k f) 1 bs s rs ll::As):=by
 obtain⟨rs,H⟩:=H.ta;obtain⟨H,b⟩:=H.KM;refine⟨rs,H.gg 0 i4 λq d=>⟨?_,b,λi r l c a=>?_⟩⟩
 ·have:=HP.DJ (i:=0) d i4;exact this.1.seq (λ_=>rfl) this.2
 ·have g:i<i0 ll:=(qn.1 a).1;have m:=iZ (e:=e2) (k:=k) (f:=f) b i g;have:=HP.DJ (i:=i+1) d (by simpa using m);have j:rs[i]'(by omega)=r:=by rw[qd i5]at c;simpa using c
  have e2:ll[i]=l:=by rw[qd g]at a;simpa using a
  rw[j,e2]at this;exact this.1.seq n this.2
end
end Go.Vc
namespace Wl
def bt(m:aE)(a:az):List (Int×ba):=a.flatMap λn=>(bm m).map λc=>(n,c)
theorem jb{m:aE}{a:az}{x:Int×ba}(h:x∈bt m a):x.1∈a/\x.2.length=64:=by unfold bt at h;obtain⟨n,b,d⟩:=zD.1 h;obtain⟨c,e,rfl⟩:=qt.1 d;exact⟨b,ww e⟩
end Wl
namespace Go.Qw
open Go Go.Vc Go.Proofs Wl
theorem jU(m:aE)(a:dg m):i0 (bm m)<=3000:=by have:=Lw m a;unfold bm iM;simp;omega
abbrev TY:cj C.toCU 89 101 2 [xi xo 0,xj eH 0 0] 32:=⟨_,_,i4,i4,i4,i4,i4,i4⟩
section
variable {B:aB} {h0 h h':f8} {As:List HP} {a pw:fz} {mc:bc} {offs:Int} {da:List aO} {w:Pow} {ds:aF}
theorem BX(s:Sl)(q:List (Int×Sl))(P:List (Int×ba))(I:St B h0 As λh=>ol jw 2 piv h s q P)(hl:i0 P<=2^30)(E:∀x∈P,(0<=x.1/\x.1<64)/\x.2.length<=2^20)(H:aa B h0 h (bu bJ a pw mc offs da w ds::As)):
  ab xt 44 #[.func (.func 35) #[xk (dB a)] #[],s] h λv h'=>v=xi xo (layAll P w ds).1/\aa B h0 h' (bu bJ a pw mc offs da (layAll P w ds).2.1 (layAll P w ds).2.2::As):=by
 refine VD (35,#[xk (dB a)],#[]) s ?_;unfold Qc;have Y:=(I.at [_] H).1.len;have V:=(I.at [_] H).2.1;have H0:=(H.nil 3 1 aq).bw;refine aw (λt:Sl×Nat×Pow×aF=>(t.1,(t.2.1:Int))) (λt h'=>t.2.1<=i0 P/\lF P w ds=lF (P.drop t.2.1) t.2.2.1 t.2.2.2/\aa B h0 h' (al 3 t.1 1 aq ((P.take t.2.1).map qM)::bu bJ a pw mc offs da t.2.2.1 t.2.2.2::As)) (λt=>i0 P-t.2.1) (⟨eH,0,0⟩,0,w,ds) i4 ⟨jj,i4,by simpa using H0⟩ ?_;rintro⟨o,i,u,m⟩ h1 ⟨hi,f,G⟩;dsimp only at*;refine ai (λe=>?_) (λe=>?_)
 ·have r:i<i0 P:=i5
  rw[qQ r,Ac]at f;have S:=I.at [_,_] G;have M:=E _ (qh r);refine S.1.eJ (g:=piv) i i4 i5 (q[i]'(by omega)) i4 ?_;refine G.alloc ac i4 λa4 Z F=>?_;have F:=F.bw;refine F.storeAll ac 0 i4 i4 (piv (q[i]'(by omega))) i4 i4 i4 i4 λh3 l=>?_;obtain⟨O,N⟩:=Fix.row (I.at [_,_,_] l) r;have l:aa B h0 h3 (ao a4 101 (piv (q[i]'(by omega)))::al 3 o 1 aq ((P.take i).map qM)::bu bJ a pw mc offs da u m::As):=l;have l:=l.aZ 3 [2,0,1];obtain⟨ok,X⟩:=aa.cN l;obtain⟨c,p⟩:∃c,c=fT u m P[i].1 P[i].2:=⟨_,rfl⟩
  rw[<-p]at f;refine bY (λ_ h'=>c.1=0/\aa B h0 h' (bu bJ a pw mc offs da c.2.1 c.2.2::ao a4 101 (piv (q[i]'(by omega)))::al 3 o 1 aq ((P.take i).map qM)::As)) ?_ ?_
  ·refine bY (λe h'=>e=c.1/\aa B h0 h' (bu bJ a pw mc offs da c.2.1 c.2.2::ao a4 101 (piv (q[i]'(by omega)))::al 3 o 1 aq ((P.take i).map qM)::As)) ?_ ?_
   ·refine⟨P[i].1,by rw[<-O];exact(l.box 1 i4).cell0 i4,(q[i]'(by omega)).2,(l.box 1 i4).cell i4,fe k8 ?_⟩;refine(mP P[i].1 ok X).mono ?_;rintro _ L ⟨rfl,rfl⟩;refine⟨_,i4,⟨(l.box 1 i4).cell i4,trivial⟩,?_⟩;rcases oW ok P[i].1 with⟨c1,c2⟩|⟨n,d,b,c0,c1,c2,c3,c4,c5⟩
    ·rw[c2];refine(Ph (q[i]'(by omega)).2 P[i].2 L N).mono ?_;rintro _ h5 ⟨rfl,rfl⟩;have D:c=(if P[i].2.length≠64 then 1 else 5,u,m):=by rw[p];unfold fT;rw[c1]
     refine⟨_,i4,trivial,by rw[D],?_⟩;rw[D];exact l
    ·rw[c5];obtain⟨b',j,K⟩:=Go.Vc.aa.jT l c2;rw[c4]at j;injection j with j
     injection j with j
     subst j;refine(Kn (q[i]'(by omega)).2 P[i].2 K N M.2).mono ?_;rintro _ h6 ⟨rfl,R⟩;have U:=Go.Vc.aa.sI (k:=bJ) (n:=n) c4 R;have D:c=((d.append u P[i].2).1,(d.append u P[i].2).2.1,m.set n (dB (d.append u P[i].2).2.2)):=by rw[p];unfold fT;rw[c3];simp only[bS,c0,qm]
     refine⟨_,i4,trivial,by rw[D],?_⟩;rw[D];exact U
   ·rintro e4 L ⟨rfl,z⟩;refine bQ (λe2=>?_) λe2=>⟨e2,z⟩
    rw[g0 e2]at f;have:layAll P w ds=c:=by unfold layAll;rw[f];exact g0 e2
    rw[this];exact⟨i4,z.pO.pO⟩
  ·rintro _ L ⟨e2,z⟩;rw[f9 e2]at f;refine⟨P[i].1,by rw[<-O];exact(z.box 1 i4).cell0 i4,?_⟩;refine z.push ac 2 i4 gm i4 i6 (λ_=>rfl) fN P[i].1 i4 i6 i9 λQ h5 K=>?_;refine⟨(Q,i+1,c.2.1,c.2.2),js,⟨i7,f,?_⟩,i7⟩;dsimp only;rw[aG _ _ r,qU];exact K.aZ 3 [2,0]
 ·have J:i=i0 P:=i5
  subst J;rw[List.drop_length]at f;rw[qW]at G;have F:=(G.freeze 0 i4 λ_=>rfl).aZ 2 [1,0];have A:layAll P w ds=eW (cA (P.map qM)) u m:=by unfold layAll;rw[f];rfl
  refine(Np o (P.map qM) (St.fj 0 i4 λh' hh=>hh) i9 (λx W=>?_) F).mono ?_
  ·obtain⟨y,T,rfl⟩:=qt.1 W;exact(E y T).1
  ·rintro _ Z ⟨rfl,l⟩;refine⟨_,i4,by rw[A],?_⟩;rw[A];exact l.pO
theorem CF(x:ci)(m:aE)(s:Sl)(a:az)(h:f8)(hx:dG h x m)(G:dg m)(S:Rd h s 1 aq a)(ad:i0 a<=2^10):
  ab xt 45 #[gb x,s] h λv h'=>∃(r:Sl) (ys:List (Int×Sl)),v=r/\Sp h h' [cW jw 2 piv r ys (bt m a)]:=by
 refine Rj x s ?_;unfold JX;refine(Sp.refl h).boxed λa1 V P=>?_;refine⟨x,(P.box 0 i4).aS _ i4,(nL x m V (hx.up P.ag) G).mono ?_⟩;rintro _ W ⟨r,rfl,R2⟩;have A:=P.ca R2;refine⟨r,i4,?_⟩;obtain⟨rs,A⟩:=A.YH λ_=>rfl;have L:=jU m G;obtain⟨d,D⟩:∃d,d=bm m:=⟨_,rfl⟩
 rw[<-D]at A L;have X:=A.fR 0 i4;have am:=X.1.len;have Y:=X.2.1;have ah:=S.len;obtain⟨T,H⟩:∃T:Int->List ((Int×Sl)×(Int×ba)),T=λn=>(rs.zip d).map λz=>((n,z.1),(n,z.2)):=⟨_,rfl⟩
 have f:∀n,i0 (T n)=i0 d:=λn=>by rw[H];simp;omega
 have K:∀n,(T n).map zF=d.map λc=>(n,c):=λn=>by
  have G:=List.map_snd_zip (l₁:=rs) (l₂:=d) i5
  conv=>rhs;rw[<-G]
  rw[H];simp[wD,Function.comp_def]
 have Q:∀n j (J:j<i0 d),(T n)[j]'(by rw[f];exact J)=((n,rs[j]'(by omega)),(n,d[j])):=λn j J=>by subst H;simp
 have w:Sp h W [al 101 ⟨eH,0,0⟩ 2 piv (((a.take 0).flatMap T).map qM),cW (cu 1 aD) 1 bs r rs d]:=(A.nil 101 2 piv).cE [2,0];have F:∀i,i<=i0 a->i0 ((a.take i).flatMap T)<=i*3000:=λi=>by
  induction i with
  |zero=>simp
  |succ i ih=>
   intro R;rw[aG _ _ (show i<i0 a by omega),zk,qy];have V:=ih i5;have W:i0 ([a[i]].flatMap T)=i0 d:=by rw[zg,zZ,qN,f]
   omega
 refine aw (λt:Sl×Nat=>(t.1,(t.2:Int))) (λt h'=>t.2<=i0 a/\Sp h h' [al 101 t.1 2 piv (((a.take t.2).flatMap T).map qM),cW (cu 1 aD) 1 bs r rs d]) (λt=>i0 a-t.2) (⟨eH,0,0⟩,0) i4 ⟨jj,w⟩ ?_;rintro⟨o,i⟩ h3 ⟨R,w⟩;dsimp only at*;refine ai (λe=>?_) (λe=>?_)
 ·have E:i<i0 a:=i5
  have ht:=F i R;have hb:i*3000<=2^10*3000:=zt _ i5;refine(Seq.up S w.ag).bC i i4 E a[i] i4 ?_;refine aw (λt:Sl×Nat=>(t.1,(t.2:Int))) (λt h'=>t.2<=i0 d/\Sp h h' [al 101 t.1 2 piv (((a.take i).flatMap T).map qM++((T a[i]).take t.2).map qM),cW (cu 1 aD) 1 bs r rs d]) (λt=>i0 d-t.2) (o,0) i4 ⟨jj,by simpa using w⟩ ?_;rintro⟨u,j⟩ h4 ⟨J,p⟩;dsimp only at*;refine ai (λe2=>?_) (λe2=>?_)
  ·have B:j<i0 d:=i5
   refine(p.fR 1 i4).1.mS j i4 i5 ?_;refine p.push ac 0 i4 TY i4 i6 (λ_=>rfl) Pj (a[i],rs[j]'(by omega)) i4 i6 (by simp only[qy,qA,zb,f];omega) λu' h5 H5=>?_;refine⟨(u',j+1),js,⟨i7,?_⟩,i7⟩;dsimp only;rw[aG (T a[i]) j (by rw[f];exact B),qU,Q _ _ B,<-qq];exact H5
  ·have M:j=i0 d:=i5
   subst M;rw[qi (l:=T a[i]) (by rw[f];exact qk _)]at p;refine⟨(u,i+1),js,⟨i7,?_⟩,i7⟩;dsimp only;rw[aG _ _ E,zk,qU,zg,zZ,qN];exact p
 ·have N:i=i0 a:=i5
  subst N;rw[qW]at w;refine⟨o,(a.flatMap T).map qM,i4,?_⟩;have p:=(w.freeze 0 i4 λ_=>rfl).mi;refine p.gg 0 i4 λq ⟨q1,q2,_,b,c,z1,Z⟩=>?_;have y:(a.flatMap T).map zF=bt m a:=by unfold bt;rw[List.map_flatMap,<-D];congr 1;funext n;exact K n
  rw[<-y];refine⟨Z.mono c,jj,λj r' l' g I=>?_⟩;rw[qS]at g I;cases g3:(a.flatMap T)[j]? with
  |none=>rw[g3]at g;cases g
  |some t=>
   rw[g3]at g I;simp at g I;subst g;subst I;obtain⟨n,_,U⟩:=zD.1 (w4 g3);rw[H]at U;obtain⟨z,O,rfl⟩:=qt.1 U;obtain⟨k,hk,rfl⟩:=List.mem_iff_getElem.1 O;rw[y0];exact⟨i4,(z1.2.2 k _ _ (qd _) (qd _)).mono b⟩
end
section
variable {B:aB} {h0 h h':f8} {As:List HP} {s:Sl} {d:List bF}
theorem YI{d c:List bF}{y:bF}(b:Sd cz (d++c))(f:∀z∈d,cz z y=eR)(g:∀z∈c,¬cz z y=eR):Sd cz (d++y::c):=
 Sd.app dX b.left (zC.2 ⟨λz a=>dX.GQ (g z a),b.right⟩) λx e z a=>by
  rcases qX.1 a with rfl|a
  ·exact f x e
  ·exact b.Je x e z a
theorem DL(X M Y:List bF)(a b:Int)(ha:a=(i0 X:Int))(hb:b=(i0 X+i0 M:Nat))(ad:i0 X+i0 M+i0 Y<=2^40)(H:aa B h0 h (cI s (X++(M++Y))::As)):
  ab xt 300 #[s,xi xo a,xi xo b,.func (.func 197) #[] #[]] h λv h'=>v=.tuple #[]/\∃M',Sd cz M'/\cC cz M M'/\aa B h0 h' (cI s (X++(M'++Y))::As):=by
 refine lP s a b (197,#[],#[]) ?_;unfold ie;subst ha;subst hb;rw[ak ((i0 X:Int)+1)];refine aw (λt:Nat×List bF=>((i0 X+1+t.1:Nat):Int)) (λt h'=>(t.1+1<=i0 M∨t.1=0)/\Sd cz t.2/\cC cz (M.take (t.1+1)) t.2/\t.2.length=i0 (M.take (t.1+1))/\aa B h0 h' (cI s (X++(t.2++(M.drop (t.1+1)++Y)))::As)) (λt=>i0 M-t.1) (0,M.take 1) i4 ?_ ?_
 ·refine⟨.inr i4,?_,cC.refl _,i4,?_⟩
  ·cases M with
   |nil=>exact List.Pairwise.nil
   |cons x M=>exact zC.2 ⟨λ_ h=>m6,jj⟩
  ·rw[<-qq (M.take (0+1)),qK];exact H
 rintro⟨t,P⟩ h1 ⟨ht,E,r,W,R⟩;dsimp only at*;refine ai (λe=>?_) (λe=>?_)
 ·have K:t+1<i0 M:=i5
  obtain⟨y,hy⟩:∃y,y=M[t+1]:=⟨_,rfl⟩
  have I:i0 P=t+1:=by rw[W];simp;omega
  have eD:M.drop (t+1)=y::M.drop (t+1+1):=by rw[qQ K,hy]
  rw[eD]at R;refine aw (λu:List bF×List bF=>((i0 X+i0 u.1:Nat):Int)) (λu h'=>u.1++u.2=P/\(∀z∈u.2,¬cz z y=eR)/\aa B h0 h' (cI s (X++(u.1++(y::(u.2++(M.drop (t+1+1)++Y)))))::As)) (λu=>i0 u.1) (P,[]) (by dsimp only;rw[I];congr 1;omega) ⟨jj,jj,by simpa using R⟩ ?_;rintro⟨c,d⟩ V ⟨L,l,J⟩;dsimp only at*;have ah:i0 c+i0 d=t+1:=by rw[<-I,<-L,qy]
  have k:∀{h':f8},(∀z∈c,cz z y=eR)->aa B h0 h' (cI s (X++(c++(y::(d++(M.drop (t+1+1)++Y)))))::As)->
    ∃f:Nat×List bF,qc xo (((i0 X+1+t:Nat):Int)+1)=((i0 X+1+f.1:Nat):Int)/\((f.1+1<=i0 M∨f.1=0)/\Sd cz f.2/\cC cz (M.take (f.1+1)) f.2/\f.2.length=i0 (M.take (f.1+1))/\aa B h0 h' (cI s (X++(f.2++(M.drop (f.1+1)++Y)))::As))/\M.length-f.1<i0 M-t:=λ{h'} hle H'=>by
   refine⟨(t+1,c++y::d),by dsimp only;rw[ak _];omega,⟨.inl i7,?_,?_,?_,?_⟩,i7⟩
   ·exact YI qb hle l
   ·dsimp only;rw[aG M (t+1) K,<-hy];have h1:cC cz (M.take (t+1)++[y]) (P++[y]):=r.app (cC.refl _);refine h1.trans ?_;rw[<-L,qq];have V:cC cz (d++[y]) ([y]++d):=cC.rot dX λx hx z N=>by rw[qx.1 N];exact l x hx
    exact(cC.refl _).app V
   ·dsimp only;simp;omega
   ·dsimp only;have:X++((c++y::d)++(M.drop (t+1+1)++Y))=X++(c++(y::(d++(M.drop (t+1+1)++Y)))):=jj
    rw[this];exact H'
  obtain⟨D,O⟩:∃D,D=X++(c++(y::(d++(M.drop (t+1+1)++Y)))):=⟨_,rfl⟩
  refine bY (λ_ h'=>∃(Q:List bF) (z:bF),c=Q++[z]/\¬cz z y=eR/\aa B h0 h' (cI s D::As)) ?_ ?_
  ·rw[<-O]at J k;refine ai (λe2=>?_) (λe2=>⟨trivial,k (λz N=>?_) J⟩)
   ·have G:c≠[]:=λh=>by rw[h]at e2;simp at e2
    obtain⟨Q,z,n⟩:∃(Q:List bF) (z:bF),c=Q++[z]:=⟨c.dropLast,c.getLast G,(List.dropLast_concat_getLast G).symm⟩
    have Z:i0 c=i0 Q+1:=by rw[n];simp
    have g1:D[i0 X+i0 c]?=dB y:=by rw[O,qj i5,show X.length+i0 c-i0 X=i0 c by omega,qj i5,zc];rfl
    have g2:D[i0 X+i0 c-1]?=dB z:=by rw[O,qj i5,show X.length+i0 c-1-i0 X=i0 Q by omega,n,qq,qj (qk _),zc];rfl
    obtain⟨T,A⟩:=qn.1 g1;obtain⟨S,q⟩:=qn.1 g2;refine(J.seq 0 i4 λ_=>rfl).eJ (g:=bT) _ i4 T y (by rw[A]) ?_;have ej:qc xo (((i0 X+i0 c:Nat):Int)-1)=((i0 X+i0 c-1:Nat):Int):=j5
    rw[ej];refine(J.seq 0 i4 λ_=>rfl).eJ (g:=bT) _ i4 S z (by rw[q]) (fe k8 ?_);refine(ry y z V).mono ?_;rintro _ h3 ⟨rfl,R3⟩;have F:=J.up R3.ag;refine⟨_,i4,trivial,ai (λU=>⟨Q,z,n,(sF y z).1 U,F⟩) λU=>k (λw m=>?_) F⟩;have o:cz z y=eR:=by
     by_cases hc:cz z y=eR
     ·exact hc
     ·exact absurd ((sF y z).2 hc) U
    rw[n]at m;rcases qD.1 m with m|m
    ·refine dX.trans _ _ _ ?_ o;have:Sd cz (Q++[z]):=by rw[<-n];exact Sd.left (v:=d) qb
     exact this.Je w m z jj
    ·rw[qx.1 m];exact o
   ·have:c=[]:=by
     cases c with
     |nil=>rfl
     |cons x P=>exfalso;simp only[zi]at e2;omega
    rw[this]at N;cases N
  ·rintro _ h3 ⟨Q,z,n,o,F⟩;have Z:i0 c=i0 Q+1:=by rw[n];simp
   have p:D=(X++Q)++z::([]++y::(d++(M.drop (t+1+1)++Y))):=by rw[O,n];simp
   obtain⟨q1,q2,q3,q4⟩:=TT (X++Q) [] (d++(M.drop (t+1+1)++Y)) z y (i:=i0 X+i0 c-1) (j:=i0 X+i0 c) i9 i9;rw[<-p]at q1 q2 q3 q4;obtain⟨S,q⟩:=qn.1 q1;obtain⟨T,A⟩:=qn.1 q2;have ej:qc xo (((i0 X+i0 c:Nat):Int)-1)=((i0 X+i0 c-1:Nat):Int):=j5
   rw[ej];refine(F.seq 0 i4 λ_=>rfl).eJ (g:=bT) _ i4 S z (by rw[q]) ?_;refine(F.seq 0 i4 λ_=>rfl).eJ (g:=bT) _ i4 T y (by rw[A]) ?_;refine F.set ac 0 i4 (λ_=>rfl) i4 (i0 X+i0 c) i4 T z i4 i4 i4 λh4 H4=>⟨trivial,?_⟩
   refine H4.set ac 0 i4 (λ_=>rfl) i4 (i0 X+i0 c-1) i4 (by simpa using S) y i4 i4 i4 λh5 H5=>⟨trivial,?_⟩
   refine⟨(Q,z::d),by dsimp only;congr 1;omega,⟨by dsimp only;rw[<-L,n];simp,?_,?_⟩,i7⟩
   ·dsimp only;intro w m;rcases qX.1 m with rfl|m
    ·exact o
    ·exact l w m
   ·dsimp only;have:X++(Q++(y::(z::d++(M.drop (t+1+1)++Y))))=(X++Q)++y::([]++z::(d++(M.drop (t+1+1)++Y))):=jj
    rw[this,<-q4];exact H5
 ·refine⟨i4,P,E,?_,?_⟩
  ·rw[qi i5]at r;exact r
  ·rw[zf i5]at R;simpa using R
end
theorem Jt(x y:Nat)(h:x+y<=2^62:=by omega):qc xo (q9 (qc xr (qc xo ((x:Int)+(y:Int)))) (2^min (1:Int).toNat (ql xr)))=(((x+y)/2:Nat):Int):=by
 rw[ak ((x:Int)+y)];have e:qc xr ((x:Int)+(y:Int))=(x:Int)+y:=by unfold qc;simp[ql,yY];omega
 rw[e,show min (1:Int).toNat (ql xr)=1 from i4,Int.fdiv_eq_ediv_of_nonneg _ i6,ak _];omega
section
variable {B:aB} {h0 h h':f8} {As:List HP} {s:Sl} {d:List bF}
theorem CG{x y:bF}(h:¬mz x y<0):cz y x=eR:=by
 by_cases a:cz y x=eR
 ·exact a
 ·exact absurd ((sF x y).2 a) h
theorem ky{K:bF->Prop}(H:aa B h0 h (cI s d::As)){i:Int}(n:Nat)(j:i=n){x:bF}(b:d[n]?=dB x)(e:K x):
  ∃a:fz,(s.ptr=dB a/\0<=i/\i<((s.len:Nat):Int))/\∃x:bF,an h (a.add (i.toNat*8)) 0 (bT x)/\K x:=by
 obtain⟨c,f⟩:=qn.1 b;exact(H.seq 0 i4 λ_=>rfl).eJ (g:=bT) n j c x (by rw[f]) e
theorem Pk(x:bF)(X R Y:List bF)(ad:i0 X+1+i0 R+i0 Y<=2^40)(y:Sd cz R)(H:aa B h0 h (cI s (X++(x::(R++Y)))::As)){K:KI}
  (d:∀h',(∃M,Sd cz M/\cC cz (x::R) M/\aa B h0 h' (cI s (X++(M++Y))::As))->K (.tuple #[]) h') (a m b:Int) (ha:a=(i0 X:Int)) (hm:m=(i0 X+1:Nat)) (hb:b=(i0 X+1+i0 R:Nat)):
  aJ (σ:=Int×Int) (λc K1 g=>
   Br (decide (c.1<c.2))
   ((0<=(1:Int))/\
   ∃a2:fz,(s.ptr=dB a2/\0<=(qc xo (q9 (qc xr (qc xo (c.1+c.2))) (2^min (1:Int).toNat (ql xr))))/\(qc xo (q9 (qc xr (qc xo (c.1+c.2))) (2^min (1:Int).toNat (ql xr))))<((s.len:Nat):Int))/\
   ∃x3:bF,an g (a2.add ((qc xo (q9 (qc xr (qc xo (c.1+c.2))) (2^min (1:Int).toNat (ql xr)))).toNat*8)) 0 (bT x3)/\
   ∃a4:fz,(s.ptr=dB a4/\0<=a/\a<((s.len:Nat):Int))/\
   ∃x5:bF,an g (a4.add (a.toNat*8)) 0 (bT x5)/\
   iG C 197 ((#[]:Array Value).toList++[recv x3,recv x5]++(#[]:Array Value).toList) (.one (.sc (.int .i64))) g λr6 n=>
   (av.ok [] n)/\
   Br (decide (r6<(0:Int)))
   (K1 (qc xo ((qc xo (q9 (qc xr (qc xo (c.1+c.2))) (2^min (1:Int).toNat (ql xr))))+(1:Int)),c.2) n)
   (K1 (c.1,qc xo (q9 (qc xr (qc xo (c.1+c.2))) (2^min (1:Int).toNat (ql xr)))) n))
   (aJ (σ:=Int) (λf K2 h3=>
   Br (decide (f<(qc xo (c.1-(1:Int)))))
   (∃a8:fz,(s.ptr=dB a8/\0<=(qc xo (f+(1:Int)))/\(qc xo (f+(1:Int)))<((s.len:Nat):Int))/\
   ∃x9:bF,an h3 (a8.add ((qc xo (f+(1:Int))).toNat*8)) 0 (bT x9)/\
   ∃L:fz,(s.ptr=dB L/\0<=f/\f<((s.len:Nat):Int))/\
   ∃G:bF,an h3 (L.add (f.toNat*8)) 0 (bT G)/\
   ∃I:fz,(s.ptr=dB I/\0<=f/\f<((s.len:Nat):Int))/\
   af xt (qf 170 (xk (dB (I.add (f.toNat*8)))) (recv x9)) h3 λ_ U=>
   (av.ok [] U)/\
   ∃r:fz,(s.ptr=dB r/\0<=(qc xo (f+(1:Int)))/\(qc xo (f+(1:Int)))<((s.len:Nat):Int))/\
   af xt (qf 170 (xk (dB (r.add ((qc xo (f+(1:Int))).toNat*8)))) (recv G)) U λ_ Z=>
   (av.ok [] Z)/\
   K2 (qc xo (f+(1:Int))) Z)
   (K (.tuple #[]) h3)) a g)) (m,b) h:=by
 subst ha;subst hm;subst hb;refine aw (λt:Nat×Nat=>(((i0 X+1+t.1:Nat):Int),((i0 X+1+t.2:Nat):Int))) (λt h'=>t.1<=t.2/\t.2<=i0 R/\(∀k (d:k<i0 R),k<t.1->¬cz x R[k]=eR)/\(∀k (d:k<i0 R),t.2<=k->cz x R[k]=eR)/\aa B h0 h' (cI s (X++(x::(R++Y)))::As)) (λt=>t.2-t.1) (0,i0 R) i4 ⟨jj,jj,λ_ _ h=>m6,λ_ g n=>absurd g sp,H⟩ ?_;rintro⟨i,j⟩ g ⟨am,hj,q,D,N⟩;dsimp only at*;refine ai (λe=>?_) (λe=>?_)
 ·have o:i<j:=i5
  rw[Jt _ _];have eh:((i0 X+1+i)+(i0 X+1+j))/2=i0 X+1+(i+j)/2:=i5
  rw[eh];have d:(i+j)/2<i0 R:=i5
  refine⟨i6,ky N _ i4 (x:=R[(i+j)/2]) ?_ (ky N X.length i4 (x:=x) ?_ (fe k8 ?_))⟩
  ·rw[qj i5,show X.length+1+(i+j)/2-i0 X=(i+j)/2+1 by omega,qB,qo d,qd d]
  ·rw[qj (qk _),zc];rfl
  refine(ry R[(i+j)/2] x g).mono ?_;rintro _ n ⟨rfl,R2⟩;have H2:=N.up R2.ag;refine⟨_,i4,trivial,ai (λe2=>?_) λe2=>?_⟩
  ·have S:=(sF _ _).1 e2;refine⟨((i+j)/2+1,j),js,⟨i7,hj,λk E V=>?_,D,H2⟩,i7⟩;intro hc;exact S (dX.trans _ _ _ hc (y.at_ dX (i:=k) (j:=(i+j)/2) (by dsimp only at V;omega) d))
  ·refine⟨(i,(i+j)/2),i4,⟨i7,i7,q,λk E P=>?_,H2⟩,i7⟩;exact dX.trans _ _ _ (CG e2) (y.at_ dX (by dsimp only at P;omega) E)
 ·have o:i=j:=i5
  subst o;have hM:Sd cz (R.take i++x::R.drop i):=by
   refine Sd.app dX (Sd.left (v:=R.drop i) (by rw[qK];exact y)) (zC.2 ⟨λz F=>?_,Sd.right (u:=R.take i) (by rw[qK];exact y)⟩) λz F w A=>?_
   ·obtain⟨k,d,rfl⟩:=qJ F;rw[wh];exact D _ _ i5
   ·obtain⟨k,d,rfl⟩:=qJ F;rw[yd];have T:k<i:=k4
    have g:=dX.GQ (q k k4 T);rcases qX.1 A with rfl|A
    ·exact g
    ·obtain⟨l,hl,rfl⟩:=qJ A;rw[wh];exact y.at_ dX i5 (by simp at hl;omega)
  have hE:cC cz (x::R) (R.take i++x::R.drop i):=by
   have g:cC cz ([x]++R.take i) (R.take i++[x]):=cC.rot dX λz F w A=>by
    rw[qx.1 F];obtain⟨k,d,rfl⟩:=qJ A;rw[yd];exact q k k4 k4
   have n:=g.app (cC.refl (le:=cz) (R.drop i));have e1:([x]++R.take i)++R.drop i=x::R:=by rw[qq,qK];rfl
   have e2:(R.take i++[x])++R.drop i=R.take i++x::R.drop i:=jj
   rw[e1,e2]at n;exact n
  have el:qc xo (((i0 X+1+i:Nat):Int)-1)=((i0 X+i:Nat):Int):=j5
  rw[el];refine aw (λt:Nat=>((i0 X+t:Nat):Int)) (λt h'=>t<=i/\aa B h0 h' (cI s (X++(R.take t++(x::(R.drop t++Y))))::As)) (λt=>i-t) 0 i4 ⟨i5,by simpa using N⟩ ?_;rintro t h3 ⟨ht,O⟩;refine ai (λe2=>?_) (λe2=>?_)
  ·have ah:t<i:=i5
   have J:t<i0 R:=i5
   have p:X++(R.take t++(x::(R.drop t++Y)))=(X++R.take t)++x::([]++R[t]::(R.drop (t+1)++Y)):=by rw[qQ J];simp only[qq,zy,z6]
   obtain⟨W,Q,q3,q4⟩:=TT (X++R.take t) [] (R.drop (t+1)++Y) x R[t] (i:=i0 X+t) (j:=i0 X+t+1) i9 i9;rw[<-p]at W Q q3 q4;have ek:qc xo (((i0 X+t:Nat):Int)+1)=((i0 X+t+1:Nat):Int):=j5
   rw[ek];refine ky O _ i4 Q (ky O _ i4 W ?_);refine O.set ac 0 i4 (λ_=>rfl) i4 (i0 X+t) i4 (qn.1 W).1 R[t] i4 i4 i4 λU H4=>⟨trivial,?_⟩
   refine H4.set ac 0 i4 (λ_=>rfl) i4 (i0 X+t+1) i4 (by rw[zA];exact(qn.1 Q).1) x i4 i4 i4 λZ H5=>⟨trivial,?_⟩
   refine⟨t+1,i4,⟨i5,?_⟩,i5⟩;have e3:X++(R.take (t+1)++(x::(R.drop (t+1)++Y)))=(X++R.take t)++R[t]::([]++x::(R.drop (t+1)++Y)):=by rw[aG R t J];simp only[qq,zy,z6]
   rw[e3,<-q3];exact H5
  ·have:t=i:=i5
   subst this;refine d h3 ⟨R.take t++x::R.drop t,hM,hE,?_⟩;have:X++((R.take t++x::R.drop t)++Y)=X++(R.take t++(x::(R.drop t++Y))):=jj
   rw[this];exact O
end
section
variable {B:aB} {h0 h h':f8} {As:List HP} {s:Sl} {d:List bF}
theorem Nq(y:bF)(X L Y:List bF)(ay:i0 X+i0 L+1+i0 Y<=2^40)(R:Sd cz L)(H:aa B h0 h (cI s (X++(L++(y::Y)))::As)){K:KI}
  (d:∀h',(∃M,Sd cz M/\cC cz (L++[y]) M/\aa B h0 h' (cI s (X++(M++Y))::As))->K (.tuple #[]) h') (a m:Int) (ha:a=(i0 X:Int)) (hm:m=(i0 X+i0 L:Nat)):
  aJ (σ:=Int×Int) (λb K3 W=>
   Br (decide (b.1<b.2))
   ((0<=(1:Int))/\
   ∃D:fz,(s.ptr=dB D/\0<=m/\m<((s.len:Nat):Int))/\
   ∃N:bF,an W (D.add (m.toNat*8)) 0 (bT N)/\
   ∃Q:fz,(s.ptr=dB Q/\0<=(qc xo (q9 (qc xr (qc xo (b.1+b.2))) (2^min (1:Int).toNat (ql xr))))/\(qc xo (q9 (qc xr (qc xo (b.1+b.2))) (2^min (1:Int).toNat (ql xr))))<((s.len:Nat):Int))/\
   ∃q:bF,an W (Q.add ((qc xo (q9 (qc xr (qc xo (b.1+b.2))) (2^min (1:Int).toNat (ql xr)))).toNat*8)) 0 (bT q)/\
   iG C 197 ((#[]:Array Value).toList++[recv N,recv q]++(#[]:Array Value).toList) (.one (.sc (.int .i64))) W λam h7=>
   (av.ok [] h7)/\
   Br (!(decide (am<(0:Int))))
   (K3 (qc xo ((qc xo (q9 (qc xr (qc xo (b.1+b.2))) (2^min (1:Int).toNat (ql xr))))+(1:Int)),b.2) h7)
   (K3 (b.1,qc xo (q9 (qc xr (qc xo (b.1+b.2))) (2^min (1:Int).toNat (ql xr)))) h7))
   (aJ (σ:=Int) (λc K4 h8=>
   Br (decide (c>b.1))
   (∃I:fz,(s.ptr=dB I/\0<=(qc xo (c-(1:Int)))/\(qc xo (c-(1:Int)))<((s.len:Nat):Int))/\
   ∃p:bF,an h8 (I.add ((qc xo (c-(1:Int))).toNat*8)) 0 (bT p)/\
   ∃r:fz,(s.ptr=dB r/\0<=c/\c<((s.len:Nat):Int))/\
   ∃A:bF,an h8 (r.add (c.toNat*8)) 0 (bT A)/\
   ∃a25:fz,(s.ptr=dB a25/\0<=c/\c<((s.len:Nat):Int))/\
   af xt (qf 170 (xk (dB (a25.add (c.toNat*8)))) (recv p)) h8 λ_ h9=>
   (av.ok [] h9)/\
   ∃F:fz,(s.ptr=dB F/\0<=(qc xo (c-(1:Int)))/\(qc xo (c-(1:Int)))<((s.len:Nat):Int))/\
   af xt (qf 170 (xk (dB (F.add ((qc xo (c-(1:Int))).toNat*8)))) (recv A)) h9 λ_ U=>
   (av.ok [] U)/\
   K4 (qc xo (c-(1:Int))) U)
   (K (.tuple #[]) h8)) m W)) (a,m) h:=by
 subst ha;subst hm;refine aw (λt:Nat×Nat=>(((i0 X+t.1:Nat):Int),((i0 X+t.2:Nat):Int))) (λt h'=>t.1<=t.2/\t.2<=i0 L/\(∀k (d:k<i0 L),k<t.1->cz L[k] y=eR)/\(∀k (d:k<i0 L),t.2<=k->¬cz L[k] y=eR)/\aa B h0 h' (cI s (X++(L++(y::Y)))::As)) (λt=>t.2-t.1) (0,i0 L) i4 ⟨jj,jj,λ_ _ h=>m6,λ_ o P=>absurd o (by simpa using P),H⟩ ?_;rintro⟨i,j⟩ o ⟨a0,hj,T,g,V⟩;dsimp only at*;refine ai (λe=>?_) (λe=>?_)
 ·have f:i<j:=i5
  rw[Jt _ _];have eh:((i0 X+i)+(i0 X+j))/2=i0 X+(i+j)/2:=i5
  rw[eh];have d:(i+j)/2<i0 L:=i5
  refine⟨i6,ky V (i0 X+i0 L) i4 (x:=y) ?_ (ky V _ i4 (x:=L[(i+j)/2]) ?_ (fe k8 ?_))⟩
  ·rw[qj i5,show X.length+i0 L-i0 X=i0 L by omega,qj (qk _),zc];rfl
  ·rw[qj i5,show X.length+(i+j)/2-i0 X=(i+j)/2 by omega,qo d,qd d]
  refine(ry y L[(i+j)/2] o).mono ?_;rintro _ P ⟨rfl,R2⟩;have H2:=V.up R2.ag;refine⟨_,i4,trivial,?_⟩;by_cases e2:mz y L[(i+j)/2]<0
  ·have ah:=(sF _ _).1 e2;refine bh (λJ=>absurd J nq) λ_=>?_;refine⟨(i,(i+j)/2),i4,⟨i7,i7,T,λk G ad=>?_,H2⟩,i7⟩;intro hc;exact ah (dX.trans _ _ _ (R.at_ dX (i:=(i+j)/2) (j:=k) (by dsimp only at ad;omega) G) hc)
  ·refine bh (λ_=>?_) λJ=>absurd J nq;refine⟨((i+j)/2+1,j),js,⟨i7,hj,λk G ar=>?_,g,H2⟩,i7⟩;exact dX.trans _ _ _ (R.at_ dX (by dsimp only at ar;omega) d) (CG e2)
 ·have f:i=j:=i5
  subst f;have hM:Sd cz (L.take i++y::L.drop i):=by
   refine Sd.app dX (Sd.left (v:=L.drop i) (by rw[qK];exact R)) (zC.2 ⟨λz O=>?_,Sd.right (u:=L.take i) (by rw[qK];exact R)⟩) λz O w E=>?_
   ·obtain⟨k,d,rfl⟩:=qJ O;rw[wh];exact dX.GQ (g _ k4 i5)
   ·obtain⟨k,d,rfl⟩:=qJ O;rw[yd];have ap:k<i:=k4
    have o:=T k k4 ap;rcases qX.1 E with rfl|E
    ·exact o
    ·obtain⟨l,hl,rfl⟩:=qJ E;rw[wh];exact R.at_ dX i5 (by simp at hl;omega)
  have hE:cC cz (L++[y]) (L.take i++y::L.drop i):=by
   have o:cC cz (L.drop i++[y]) ([y]++L.drop i):=cC.rot dX λz O w E=>by
    rw[qx.1 E];obtain⟨k,d,rfl⟩:=qJ O;rw[wh];exact g _ k4 i5
   have P:=(cC.refl (le:=cz) (L.take i)).app o;have e1:L.take i++(L.drop i++[y])=L++[y]:=by rw[<-qq,qK]
   rw[e1]at P;exact P
  refine aw (λt:Nat=>((i0 X+t:Nat):Int)) (λt h'=>i<=t/\t<=i0 L/\aa B h0 h' (cI s (X++(L.take t++(y::(L.drop t++Y))))::As)) (λt=>t-i) L.length i4 ⟨i5,i5,by simpa using V⟩ ?_;rintro t h3 ⟨ht,ax,Z⟩;refine ai (λe2=>?_) (λe2=>?_)
  ·obtain⟨u,rfl⟩:∃u,t=u+1:=⟨t-1,i5⟩
   have S:u<i0 L:=i5
   have n:X++(L.take (u+1)++(y::(L.drop (u+1)++Y)))=(X++L.take u)++L[u]::([]++y::(L.drop (u+1)++Y)):=by rw[aG L u S];simp only[qq,zy,z6]
   obtain⟨q1,q2,q3,q4⟩:=TT (X++L.take u) [] (L.drop (u+1)++Y) L[u] y (i:=i0 X+u) (j:=i0 X+(u+1)) i9 i9;rw[<-n]at q1 q2 q3 q4;have ek:qc xo (((i0 X+(u+1):Nat):Int)-1)=((i0 X+u:Nat):Int):=j5
   rw[ek];refine ky Z _ i4 q1 (ky Z _ i4 q2 ?_);refine Z.set ac 0 i4 (λ_=>rfl) i4 (i0 X+(u+1)) i4 (qn.1 q2).1 L[u] i4 i4 i4 λh4 H4=>⟨trivial,?_⟩
   refine H4.set ac 0 i4 (λ_=>rfl) i4 (i0 X+u) i4 (by rw[zA];exact(qn.1 q1).1) y i4 i4 i4 λh5 H5=>⟨trivial,?_⟩
   refine⟨u,i4,⟨i5,i5,?_⟩,i5⟩;have J:X++(L.take u++(y::(L.drop u++Y)))=(X++L.take u)++y::([]++L[u]::(L.drop (u+1)++Y)):=by rw[qQ S];simp only[qq,zy,z6]
   rw[J,<-q4];exact H5
  ·have:t=i:=i5
   subst this;refine d h3 ⟨L.take t++y::L.drop t,hM,hE,?_⟩;have:X++((L.take t++y::L.drop t)++Y)=X++(L.take t++(y::(L.drop t++Y))):=jj
   rw[this];exact Z
end
end Go.Qw
namespace Wl
open Go Go.Vc
theorem aba{L R:List bF}(l:Sd cz L)(h:Sd cz R)(p q:Nat)(r:p<=i0 L)(s:q<=i0 R)
  (n:∀i j (d:i<i0 L) (a:j<i0 R),i+1=p->j=q->cz L[i] R[j]=eR)
  (o:∀i j (d:i<i0 L) (a:j<i0 R),i=p->j+1=q->¬cz L[i] R[j]=eR):
  (∀x∈L.take p,∀y∈R.drop q,cz x y=eR)/\(∀x∈L.drop p,∀y∈R.take q,¬cz x y=eR):=by
 constructor
 ·intro x g y f;obtain⟨i,d,rfl⟩:=qJ g;obtain⟨j,a,rfl⟩:=qJ f;rw[yd,wh];have b:i<p:=k4
  have c:q+j<i0 R:=by simp at a;omega
  have e:=l.at_ dX (i:=i) (j:=p-1) i5 i5;have m:=n (p-1) q i5 i5 i5 i4;have h3:=h.at_ dX (i:=q) (j:=q+j) i5 c;exact dX.trans _ _ _ e (dX.trans _ _ _ m h3)
 ·intro x g y f k;obtain⟨i,d,rfl⟩:=qJ g;obtain⟨j,a,rfl⟩:=qJ f;rw[yd,wh]at k;have c:j<q:=by simp at a;omega
  have b:p+i<i0 L:=k4
  have e:=l.at_ dX (i:=p) (j:=p+i) i5 b;have h3:=h.at_ dX (i:=j) (j:=q-1) i5 i5;exact o p (q-1) i5 i5 i4 i5 (dX.trans _ _ _ e (dX.trans _ _ _ k h3))
end Wl
namespace Go.Qw
open Go Go.Vc Go.Proofs Wl
theorem Ga:∀(N:Nat) {B:aB} {h0 h:f8} {As:List HP} {s:Sl} (X L R Y:List bF) (a m b:Int),0<i0 L->0<i0 R->i0 L+i0 R<=N->a=(i0 X:Int)->m=(i0 X+i0 L:Nat)->b=(i0 X+i0 L+i0 R:Nat)->i0 X+i0 L+i0 R+i0 Y<=2^40->Sd cz L->Sd cz R->
  aa B h0 h (cI s (X++(L++(R++Y)))::As)->
  ab xt 301 #[s,xi xo a,xi xo m,xi xo b,.func (.func 197) #[] #[]] h λv h'=>v=.tuple #[]/\∃M,Sd cz M/\cC cz (L++R) M/\aa B h0 h' (cI s (X++(M++Y))::As):=by
 intro N
 induction N with
 |zero=>intro B h0 h As s X L R Y a m b hL hR hN;omega
 |succ N ih=>
  intro B h0 h As s X L R Y a m b hL hR hN ha hm hb ah Z U H;refine mZ s a m b (197,#[],#[]) ?_;unfold jq;have e1:qc xo (m-a)=(i0 L:Int):=j5
  have e2:qc xo (b-m)=(i0 R:Int):=j5
  rw[e1,e2];refine de (λc=>?_) λc=>de (λc2=>?_) λc2=>?_
  ·obtain⟨x,hx⟩:∃x,L=[x]:=by
    match L,hL,c with
    |[x],_,_=>exact⟨x,i4⟩
    |x::y::L,_,c=>simp at c;omega
   subst hx;exact Pk (K:=λv h'=>v=.tuple #[]/\∃M,Sd cz M/\cC cz ([x]++R) M/\aa B h0 h' (cI s (X++(M++Y))::As)) x X R Y (by simp at ah⊢;omega) U H (λh' ⟨M,q1,P,q3⟩=>⟨i4,M,q1,P,q3⟩) a m b ha (by rw[hm];simp) (by rw[hb];simp)
  ·obtain⟨y,hy⟩:∃y,R=[y]:=by
    match R,hR,c2 with
    |[x],_,_=>exact⟨x,i4⟩
    |x::y::L,_,c=>simp at c;omega
   subst hy;exact Nq (K:=λv h'=>v=.tuple #[]/\∃M,Sd cz M/\cC cz (L++[y]) M/\aa B h0 h' (cI s (X++(M++Y))::As)) y X L Y (by simp at ah⊢;omega) Z H (λh' ⟨M,q1,P,q3⟩=>⟨i4,M,q1,P,q3⟩) a m ha hm
  ·refine⟨i6,?_⟩;subst ha;subst hm;subst hb;have c':i0 L≠1:=λF=>c i5;have b0:i0 R≠1:=λF=>c2 i5;rw[Jt X.length (i0 X+i0 L+i0 R)];obtain⟨Fv,S⟩:∃Fv,Fv=(i0 X+(i0 X+i0 L+i0 R))/2:=⟨_,rfl⟩
   rw[<-S];have en:qc xo ((Fv:Int)+((i0 X+i0 L:Nat):Int))=((Fv+(i0 X+i0 L):Nat):Int):=j5
   rw[en];obtain⟨n,hn⟩:∃n,n=Fv+(i0 X+i0 L):=⟨_,rfl⟩
   rw[<-hn];have ep:qc xo ((n:Int)-1)=((n-1:Nat):Int):=j5
   rw[ep];obtain⟨D,hD⟩:∃D,D=X++(L++(R++Y)):=⟨_,rfl⟩
   have gL:∀i (f:i<i0 L),D[i0 X+i]?=dB L[i]:=λi f=>by
    rw[hD,qj i5,zq,qo f,qd f]
   have gR:∀i (f:i<i0 R),D[i0 X+i0 L+i]?=dB R[i]:=λi f=>by
    rw[hD,qj i5,show X.length+i0 L+i-i0 X=i0 L+i by omega,qj i5,zq,qo f,qd f]
   rw[<-hD]at H;refine bY (λ(g:Int×Int) h'=>h'=h/\∃o f:Nat,g=((o:Int),(f:Int))/\o<=f/\X.length<=o/\f<=i0 X+i0 L/\f<=Fv/\n<=o+(i0 X+i0 L+i0 R)/\(o=i0 X∨n=o+(i0 X+i0 L+i0 R))/\(f=i0 X+i0 L∨f=Fv)) ?_ ?_
   ·refine ai (λe=>⟨i4,n-(i0 X+i0 L+i0 R),Fv,?_,i5,i5,i5,i5,i5,i5,i5⟩) λe=>⟨i4,i0 X,i0 X+i0 L,i4,i5,i5,i5,i5,i5,i5,i5⟩
    have:qc xo ((n:Int)-((i0 X+i0 L+i0 R:Nat):Int))=((n-(i0 X+i0 L+i0 R):Nat):Int):=j5
    rw[this]
   ·rintro⟨br,bq⟩ _ ⟨rfl,o,f,bk,b1,b2,b3,b4,b5,b6,b7⟩;injection bk with est1 est2
    subst est1;subst est2;dsimp only;refine aw (λt:Nat×Nat=>((t.1:Int),(t.2:Int))) (λt h'=>o<=t.1/\t.1<=t.2/\t.2<=f/\
     (∀i j (l:i<i0 L) (Q:j<i0 R),i0 X+i+1=t.1->i0 X+i+(i0 X+i0 L+j)=n-1->o<t.1->cz L[i] R[j]=eR)/\
     (∀i j (l:i<i0 L) (Q:j<i0 R),i0 X+i=t.2->i0 X+i+(i0 X+i0 L+j)=n-1->t.2<f->¬cz L[i] R[j]=eR)/\
     aa B h0 h' (cI s D::As)) (λt=>t.2-t.1) (o,f) i4 ⟨jj,by simpa using b1,jj,λ_ _ _ _ _ _ E=>absurd E jj,λ_ _ _ _ _ _ E=>absurd E jj,H⟩ ?_
    rintro⟨g,r⟩ h1 ⟨t1,t2,t3,F1,F2,H1⟩;dsimp only at*;refine ai (λe=>?_) (λe=>?_)
    ·have E:g<r:=i5
     rw[Jt _ _];obtain⟨I,bl⟩:∃I,I=(g+r)/2:=⟨_,rfl⟩
     rw[<-bl];have a2:qc xo (((n-1:Nat):Int)-(I:Int))=((n-1-I:Nat):Int):=j5
     rw[a2];obtain⟨i,l⟩:∃i,I=i0 X+i:=⟨I-i0 X,i5⟩
     obtain⟨j,a5⟩:∃j,n-1-I=i0 X+i0 L+j:=⟨n-1-I-(i0 X+i0 L),i5⟩
     have ax:i<i0 L:=i5
     have a1:j<i0 R:=i5
     rw[a5,l];refine⟨i6,ky H1 _ i4 (gR j a1) (ky H1 _ i4 (gL i ax) (fe k8 ?_))⟩;refine(ry R[j] L[i] h1).mono ?_;rintro _ h2 ⟨rfl,R2⟩;have G:=H1.up R2.ag;refine⟨_,i4,trivial,?_⟩;by_cases e2:mz R[j] L[i]<0
     ·have a3:=(sF _ _).1 e2;refine bh (λe3=>absurd e3 nq) λ_=>?_;refine⟨(g,i0 X+i),i4,⟨t1,i7,i7,F1,λi2 j2 a6 a7 w A _=>?_,G⟩,i7⟩;dsimp only at w;have:i2=i:=i5
      subst this;have:j2=j:=i5
      subst this;exact a3
     ·refine bh (λ_=>?_) λe3=>absurd e3 nq;refine⟨(i0 X+i+1,r),js,⟨i7,i7,t3,λi2 j2 a6 a7 w A _=>?_,F2,G⟩,i7⟩;dsimp only at w;have:i2=i:=i5
      subst this;have:j2=j:=i5
      subst this;exact CG e2
    ·have a0:g=r:=i5
     subst a0;have bd:qc xo ((n:Int)-(g:Int))=((n-g:Nat):Int):=j5
     rw[bd];obtain⟨p,hp⟩:∃p,g=i0 X+p:=⟨g-i0 X,i5⟩
     obtain⟨q,hq⟩:∃q,n-g=i0 X+i0 L+q:=⟨n-g-(i0 X+i0 L),i5⟩
     have a8:p<=i0 L:=i5
     have ap:q<=i0 R:=i5
     obtain⟨a4,a9⟩:=aba Z U p q a8 ap (λi j l Q w A=>F1 i j l Q i5 i5 (by
      by_cases bb:o<g
      ·exact bb
      ·exfalso;have:g=o:=i5
       omega)) (λi j l Q w A=>F2 i j l Q i5 i5 (by
      by_cases ay:g<f
      ·exact ay
      ·exfalso;have:g=f:=i5
       omega))
     have eL:L.take p++L.drop p=L:=qK _ _;have T:R.take q++R.drop q=R:=qK _ _;have l1:i0 (L.take p)=p:=i9
     have l2:i0 (L.drop p)=i0 L-p:=jj
     have r1:i0 (R.take q)=q:=i9
     have r2:i0 (R.drop q)=i0 R-q:=jj
     have V:Sd cz (L.take p):=Sd.left (v:=L.drop p) (by rw[eL];exact Z);have W:Sd cz (L.drop p):=Sd.right (u:=L.take p) (by rw[eL];exact Z);have am:Sd cz (R.take q):=Sd.left (v:=R.drop q) (by rw[T];exact U);have ad:Sd cz (R.drop q):=Sd.right (u:=R.take q) (by rw[T];exact U);rw[hq,hp];refine bY (λ_ h'=>aa B h0 h' (cI s (X++(L.take p++(R.take q++(L.drop p++(R.drop q++Y)))))::As)) ?_ ?_
     ·have z:aa B h0 h1 (cI s ((X++L.take p)++(L.drop p++(R.take q++(R.drop q++Y))))::As):=by
       have:(X++L.take p)++(L.drop p++(R.take q++(R.drop q++Y)))=D:=by
        rw[hD]
        conv=>rhs;rw[<-eL,<-T]
        simp only[qq,zy,z6]
       rw[this];exact H1
      refine ai (λw=>ai (λA=>?_) λA=>?_) λw=>?_
      ·refine(VO (X++L.take p) (L.drop p) (R.take q) (R.drop q++Y) _ _ _ i5 i5 i9 i9 i9 i9 z).mono ?_;rintro _ h2 ⟨rfl,G⟩;refine⟨(),i4,?_⟩;rw[qq]at G;exact G
      ·have:R.take q=[]:=q8 i5;rw[this]at z⊢;simpa using z
      ·have:L.drop p=[]:=q8 i5;rw[this]at z⊢;simpa using z
     ·rintro _ h2 G;refine bY (λ_ h'=>∃k,Sd cz k/\cC cz (L.take p++R.take q) k/\k.length=p+q/\aa B h0 h' (cI s (X++(k++(L.drop p++(R.drop q++Y))))::As)) ?_ ?_
      ·have d:(L.take p=[]∨R.take q=[])->∃k,Sd cz k/\cC cz (L.take p++R.take q) k/\k.length=p+q/\aa B h0 h2 (cI s (X++(k++(L.drop p++(R.drop q++Y))))::As):=λO=>by
        refine⟨L.take p++R.take q,?_,cC.refl _,i9,by rw[qq];exact G⟩;rcases O with F|F
        ·rw[F];exact am
        ·rw[F,qN];exact V
       refine ai (λw=>ai (λA=>?_) λA=>d (.inr (q8 i5))) λw=>d (.inl (q8 i5));refine(ih X (L.take p) (R.take q) (L.drop p++(R.drop q++Y)) _ _ _ i5 i5 i5 i4 (by rw[l1]) (by rw[l1,r1];omega) i9 V am G).mono ?_;rintro _ h3 ⟨rfl,k,q1,P,q3⟩;refine⟨(),i4,k,q1,P,?_,q3⟩;have J:=xO dX P;rw[<-J];simp;omega
      ·rintro _ h3 ⟨k,m1,m2,m3,H3⟩;have fin:∀{h':f8} {M2:List bF},Sd cz M2->cC cz (L.drop p++R.drop q) M2->aa B h0 h' (cI s (X++(k++(M2++Y)))::As)->(Value.tuple #[]=.tuple #[]/\∃M,Sd cz M/\cC cz (L++R) M/\aa B h0 h' (cI s (X++(M++Y))::As)):=λ{h' M2} k1 k2 k3=>by
        obtain⟨f1,f2⟩:=aal dX (by rw[eL];exact Z) (by rw[T];exact U) a4 a9 m2 m1 k2 k1;rw[eL,T]at f2;exact⟨i4,k++M2,f1,f2,by rw[qq];exact k3⟩
       have d:(L.drop p=[]∨R.drop q=[])->(Value.tuple #[]=.tuple #[]/\∃M,Sd cz M/\cC cz (L++R) M/\aa B h0 h3 (cI s (X++(M++Y))::As)):=λO=>by
        refine fin (M2:=L.drop p++R.drop q) ?_ (cC.refl _) (by rw[qq];exact H3);rcases O with F|F
        ·rw[F];exact ad
        ·rw[F,qN];exact W
       refine ai (λw=>ai (λA=>?_) λA=>d (.inr (q8 i5))) λw=>d (.inl (q8 i5));have ar:aa B h0 h3 (cI s ((X++k)++(L.drop p++(R.drop q++Y)))::As):=by rw[qq];exact H3
       refine(ih (X++k) (L.drop p) (R.drop q) Y _ _ _ i5 i5 i5 i9 i9 i9 i9 W ad ar).mono ?_;rintro _ h4 ⟨rfl,M2,k1,k2,k3⟩;refine⟨(),i4,fin k1 k2 (by rw[qq]at k3;exact k3)⟩
end Go.Qw
namespace Wl
open Go Go.Vc
def Bs(k:Nat)(l:List bF):Prop:=∀q,Sd cz ((l.drop (q*k)).take k)
theorem Bs.nil(k:Nat):Bs k []:=λq=>by simp[Sd]
theorem Bs.first{k:Nat}{l:List bF}(h:Bs k l):Sd cz (l.take k):=by have:=h 0;simpa using this
theorem Bs.rest{k:Nat}{l:List bF}(h:Bs k l):Bs k (l.drop k):=λq=>by
 have:=h (q+1);rw[zN,show k+q*k=(q+1)*k by rw[zG,Nat.add_comm]];exact this
theorem Bs.snoc{k t:Nat}{l M:List bF}(h:Bs k l)(d:i0 l=t*k)(c:Sd cz M)(b:i0 M<=k:=by omega):Bs k (l++M):=λq=>by
 rcases Nat.lt_trichotomy q t with hq|hq|hq
 ·have a:(q+1)*k<=t*k:=zt _ hq;rw[zG]at a;rw[List.drop_append_of_le_length i5,ym l4];exact h q
 ·subst hq;rw[<-d,List.drop_left,qi b];exact c
 ·have a:(t+1)*k<=q*k:=zt _ hq;rw[zG]at a;rw[zf (by rw[qy];omega)];simp[Sd]
theorem Bs.whole{k:Nat}{l:List bF}(h:Bs k l)(a:i0 l<=k):Sd cz l:=by have:=h.first;rw[qi a]at this;exact this
end Wl
namespace Go.Qw
open Go Go.Vc Go.Proofs Wl
section
variable {B:aB} {h0 h h':f8} {As:List HP} {s:Sl} {d:List bF}
theorem VP(d:List bF)(n:Int)(hn:n=i0 d)(hd:i0 d<=2^30)(H:aa B h0 h (cI s d::As)):
  ab xt 248 #[s,xi xo n,.func (.func 197) #[] #[]] h λv h'=>v=.tuple #[]/\aa B h0 h' (cI s (d.mergeSort cz)::As):=by
 subst hn;refine nJ s d.length (197,#[],#[]) ?_;unfold jR;refine aw (λP:List bF=>((i0 P:Int),((i0 P+20:Nat):Int))) (λP h'=>i0 P<=i0 d/\(∃t,i0 P=t*20)/\Bs 20 P/\cC cz (d.take P.length) P/\aa B h0 h' (cI s (P++d.drop P.length)::As)) (λP=>i0 d-i0 P) [] i4 ⟨jj,⟨0,jj⟩,Bs.nil _,by simpa using cC.refl _,ln⟩ ?_;rintro P h1 ⟨hP,⟨t,E⟩,T,R,I⟩;dsimp only;refine ai (λe=>?_) (λe=>?_)
 ·have ad:i0 P+20<=i0 d:=i5
  have eY:(d.drop P.length).take 20++d.drop (i0 P+20)=d.drop P.length:=by rw[<-zN];exact qK _ _
  have S:i0 ((d.drop P.length).take 20)=20:=i9
  rw[<-eY]at I;refine(DL P ((d.drop P.length).take 20) (d.drop (i0 P+20)) _ _ i4 (by rw[S]) i9 I).mono ?_;rintro _ h2 ⟨rfl,i,j,b,H2⟩;have r:i0 i=20:=by rw[<-xO dX b,S]
  have g:i0 (P++i)=i0 P+20:=by rw[qy,r]
  refine⟨(),i4,P++i,?_,⟨i5,⟨t+1,by rw[g,E,zG]⟩,T.snoc E j,?_,?_⟩,i5⟩
  ·rw[g,ak _];congr 1
  ·rw[g];have:d.take (i0 P+20)=d.take P.length++(d.drop P.length).take 20:=by rw[List.take_add]
   rw[this];exact R.app b
  ·rw[g,qq];exact H2
 ·have J:aa B h0 h1 (cI s (P++(d.drop P.length++[]))::As):=by rw[qN];exact I
  refine(DL P (d.drop P.length) [] _ _ i4 l4 i9 J).mono ?_;rintro _ h3 ⟨rfl,i,j,b,U⟩;have r:i0 i=i0 d-i0 P:=by rw[<-xO dX b,ze]
  have G:Bs 20 (P++i):=T.snoc E j;have c:cC cz d (P++i):=by have:=R.app b;rw[qK]at this;exact this
  refine⟨(),i4,?_⟩;refine aw (λt:Nat×List bF=>(t.1:Int)) (λt h'=>0<t.1/\t.1<=2^32/\t.2.length=i0 d/\Bs t.1 t.2/\cC cz d t.2/\aa B h0 h' (cI s t.2::As)) (λt=>2^32-t.1) (20,P++i) i4 ⟨i7,i7,by dsimp only;rw[qy];omega,G,c,by rw[qN]at U;exact U⟩ ?_;rintro⟨k,l⟩ h4 ⟨ah,hk,Z,V,q,K⟩;dsimp only at*;refine ai (λe2=>?_) (λe2=>?_)
  ·have ar:k<i0 d:=i5
   have F:qc xo ((2:Int)*k)=((2*k:Nat):Int):=j5
   have O:qc xo ((k:Int)*2)=((2*k:Nat):Int):=j5
   rw[F];have next:∀{h':f8} (l':List bF),i0 l'=i0 d->Bs (2*k) l'->cC cz l l'->aa B h0 h' (cI s l'::As)->∃f:Nat×List bF,qc xo ((k:Int)*2)=(f.1:Int)/\(0<f.1/\f.1<=2^32/\f.2.length=i0 d/\Bs f.1 f.2/\cC cz d f.2/\aa B h0 h' (cI s f.2::As))/\2^32-f.1<2^32-k:=λ{h'} l' q1 q2 q3 q4=>
    ⟨(2*k,l'),O,⟨i7,i7,q1,q2,q.trans q3,q4⟩,i7⟩
   refine aw (λt:List bF×List bF=>((i0 t.1:Int),((i0 t.1+2*k:Nat):Int))) (λt h'=>(∃u,i0 t.1=u*(2*k))/\t.1.length+i0 t.2=i0 d/\Bs (2*k) t.1/\Bs k t.2/\cC cz l (t.1++t.2)/\aa B h0 h' (cI s (t.1++t.2)::As)) (λt=>i0 t.2) ([],l) (by dsimp only;rw[yh,Nat.zero_add];rfl) ⟨⟨0,jj⟩,by simpa using Z,Bs.nil _,V,by simpa using cC.refl _,by simpa using K⟩ ?_;rintro⟨P,Q⟩ W ⟨⟨u,A⟩,X,o,a,c,N⟩;dsimp only at*;have L:qc xo ((i0 P:Int)+k)=((i0 P+k:Nat):Int):=j5
   rw[L];have eQ:Q.take k++Q.drop k=Q:=qK _ _;refine ai (λe3=>?_) (λe3=>ai (λY=>?_) λY=>?_)
   ·have ap:2*k<=i0 Q:=i5
    have w:Q.take k++((Q.drop k).take k++Q.drop (2*k))=Q:=by
     have:Q.drop (2*k)=(Q.drop k).drop k:=by rw[zN];congr 1;omega
     rw[this,qK,eQ]
    have l1:i0 (Q.take k)=k:=i9
    have l2:i0 ((Q.drop k).take k)=k:=i9
    have m:aa B h0 W (cI s (P++(Q.take k++((Q.drop k).take k++Q.drop (2*k))))::As):=by rw[w];exact N
    refine(Ga _ P (Q.take k) ((Q.drop k).take k) (Q.drop (2*k)) _ _ _ i5 i5 (qk _) i4 (by rw[l1]) (by rw[l1,l2];omega) i9 a.first a.rest.first m).mono ?_;rintro _ h6 ⟨rfl,M,j,b,z⟩;have x:i0 M=2*k:=by rw[<-xO dX b,qy,l1,l2];omega
    have p:i0 (P++M)=i0 P+2*k:=by rw[qy,x]
    refine⟨(),i4,(P++M,Q.drop (2*k)),?_,⟨⟨u+1,by dsimp only;rw[p,A];exact(zG u (2*k)).symm⟩,by dsimp only;rw[p,ze];omega,o.snoc A j,?_,?_,?_⟩,by dsimp only;rw[ze];omega⟩
    ·dsimp only;rw[p,ak _];congr 1
    ·dsimp only;have:Q.drop (2*k)=(Q.drop k).drop k:=by rw[zN];congr 1;omega
     rw[this];exact a.rest.rest
    ·dsimp only;refine c.trans ?_
     conv=>arg 2;rw[<-w]
     rw[qq];have:=(cC.refl (le:=cz) P).app (b.app (cC.refl (le:=cz) (Q.drop (2*k))));rw[qq]at this;exact this
    ·dsimp only;rw[qq];exact z
   ·have y:k<i0 Q:=i5
    have am:i0 Q<2*k:=i5
    have l1:i0 (Q.take k)=k:=i9
    have l2:i0 (Q.drop k)=i0 Q-k:=jj
    have D:Sd cz (Q.drop k):=by have:=a.rest.first;rw[qi i5]at this;exact this
    have m:aa B h0 W (cI s (P++(Q.take k++(Q.drop k++[])))::As):=by rw[qN,eQ];exact N
    refine(Ga _ P (Q.take k) (Q.drop k) [] _ _ _ i5 i5 (qk _) i4 (by rw[l1]) (by rw[l1,l2];omega) i9 a.first D m).mono ?_;rintro _ h6 ⟨rfl,M,j,b,z⟩;have x:i0 M=i0 Q:=by rw[<-xO dX b,eQ]
    rw[eQ]at b;rw[qN]at z;exact⟨(),i4,next (P++M) (by rw[qy];omega) (o.snoc A j) (c.trans ((cC.refl _).app b)) z⟩
   ·have y:i0 Q<=k:=i5
    exact next (P++Q) (by rw[qy];omega) (o.snoc A (a.whole y)) c N
  ·have hs:Sd cz l:=V.whole i5;rw[afi dX hs q]at K;exact⟨i4,K⟩
theorem Nr(d:List bF)(a:i0 d<=2^30)(H:aa B h0 h (cI s d::As)):
  ab xt 196 #[s,.func (.func 197) #[] #[]] h λv h'=>v=.tuple #[]/\aa B h0 h' (cI s (d.mergeSort cz)::As):=by
 refine ko s (197,#[],#[]) ?_;unfold gr;refine(VP d _ (by rw[(H.own 0 i4).len]) a H).mono ?_;rintro _ c ⟨rfl,b⟩;exact⟨(),i4,i4,b⟩
def km:bF:=(0,0,0,0,0,0,0,⟨eH,0,0⟩)
end
end Go.Qw
namespace Wl
open Go Go.Vc Go.Qw
def kM(l:List bF)(k:Nat):Bool:=decide (k=0)||decide (mz (l.getD k km) (l.getD (k-1) km)≠0)
def kN(l:List bF)(k:Nat):List bF:=((qw k).filter (kM l)).map λi=>l.getD i km
def cpt(l:List bF):List bF:=kN l l.length
theorem nN(l:List bF)(k:Nat):kN l (k+1)=kN l k++if kM l k then[l.getD k km]else[]:=by unfold kN;rw[zQ,zl,qU,zr,va];split<;>rfl
end Wl
namespace Go.Qw
open Go Go.Vc Go.Proofs Wl
section
variable {B:aB} {h0 h h':f8} {As:List HP} {s:Sl} {d:List bF}
theorem Ns(a b:bF)(h:f8):ab xt 199 #[recv a,recv b] h λv h'=>v=xm (decide (mz a b=0))/\Sp h h' []:=by refine HN a b ?_;unfold AC;refine(Sp.refl h).boxed λi j f=>f.boxed λg d c=>?_;have c:Sp h d [ao i 170 (bT a),ao g 170 (bT b)]:=c;refine⟨a,(c.box 0 i4).aS _ i4,b,(c.box 1 i4).aS _ i4,(ry a b d).mono ?_⟩;rintro _ h3 ⟨rfl,e⟩;refine⟨_,i4,?_,.zip (aa.up c e.ag).ag⟩;congr 1
theorem Ly(l:List bF)(hd:i0 l<=2^30)(H:aa B h0 h (cI s l::As)):
  ab xt 198 #[s,.func (.func 199) #[] #[]] h λv h'=>∃r:Sl,v=r/\aa B h0 h' (cI r (cpt l)::As):=by
 refine li s (199,#[],#[]) ?_;unfold gK;have ad:=(H.own 0 i4).len;have y:=(H.own 0 i4).cap;have n:(∀j,j<i0 l->kM l j=eR)->cpt l=l:=λw=>by
  have:∀k,k<=i0 l->kN l k=l.take k:=λk=>by
   induction k with
   |zero=>simp[kN]
   |succ k ih=>
    intro K;rw[nN,ih i5,f9 (w k i5),aG l k,getD_lt (show k<i0 l by omega)]
  unfold cpt;rw[this _ (qk _),qW]
 refine ai (λe=>⟨s,i4,?_⟩) (λe=>?_)
 ·rw[n λj m=>by unfold kM;rw[g9 (show j=0 by omega)];rfl];exact H
 refine aw (λi:Nat=>(i:Int)) (λi h'=>1<=i/\i<=i0 l/\(∀j,j<i->kM l j=eR)/\aa B h0 h' (cI s l::As)) (λi=>i0 l-i) 1 i4 ⟨i5,i5,λj m=>by unfold kM;rw[g9 (show j=0 by omega)];rfl,H⟩ ?_;rintro i h1 ⟨am,hi,w,I⟩;refine ai (λN=>?_) (λN=>?_)
 ·have z:i<i0 l:=by have e':(i:Int)<(s.len:Int):=N;omega
  have ei:qc xo ((i:Int)-1)=((i-1:Nat):Int):=j5
  rw[ei];refine ky I i i4 (x:=l.getD i km) (by rw[getD_lt z,qd z]) (ky I (i-1) i4 (x:=l.getD (i-1) km) (by rw[getD_lt (show i-1<i0 l by omega),qd]) (fe k8 ?_));refine(Ns _ _ h1).mono ?_;rintro _ h2 ⟨rfl,R2⟩;have W:=I.up R2.ag;refine⟨_,i4,trivial,bD (λe2=>?_) λe2=>?_⟩
  ·have o:kM l i=eS:=by unfold kM;rw[hZ (show¬i=0 by omega)];simpa using e2
   have q:kN l i=l.take i:=by
    have:∀k,k<=i->kN l k=l.take k:=λk=>by
     induction k with
     |zero=>simp[kN]
     |succ k ih=>
      intro K;rw[nN,ih i5,f9 (w k i5),aG l k,getD_lt (show k<i0 l by omega)]
    exact this i (qk _)
   refine⟨⟨i5,i5⟩,?_⟩;rw[qm];refine aw (λt:Nat×List bF=>((i0 (kN l (i+t.1)):Int),(t.1:Int))) (λt h'=>1<=t.1/\i+t.1<=i0 l/\t.2.length=i0 l/\(kN l (i+t.1)).length+1<=i+t.1/\t.2.take (kN l (i+t.1)).length=kN l (i+t.1)/\(∀j,i+t.1-1<=j->t.2[j]?=l[j]?)/\aa B h0 h' (cI s t.2::As)) (λt=>i0 l-t.1) (1,l) ?_ ⟨jj,i7,i4,?_,?_,λ_ _=>rfl,W⟩ ?_
   ·dsimp only;rw[nN,o,q];simp;omega
   ·dsimp only;rw[nN,o,q];simp;omega
   ·dsimp only;rw[nN,o,q];simp
   rintro⟨k,D⟩ h3 ⟨ah,ap,A,P,d,u,J⟩;dsimp only at*;obtain⟨c,O⟩:∃c,c=i0 (kN l (i+k)):=⟨_,rfl⟩
   rw[<-O]at P d⊢;have ar:=(J.own 0 i4).len;have F:=(J.seq 0 i4 λ_=>rfl).drop i y;refine ai (λe3=>?_) (λe3=>?_)
   ·have Q:i+k<i0 l:=i5
    have ek:qc xo ((k:Int)-1)=((k-1:Nat):Int):=j5
    rw[ek];have X:∀j,k-1<=j->(m:i+j<i0 l)->(D.drop i)[j]?=dB (l.getD (i+j) km):=λj m G=>by
     rw[List.getElem?_drop,u _ i5,getD_lt G,qd G]
    have gk:=X k i5 Q;have T:=X (k-1) i5 i5;obtain⟨Z,Y⟩:=qn.1 gk;obtain⟨q1,q2⟩:=qn.1 T;refine Seq.eJ (f:=bT) (g:=bT) F k i4 Z (l.getD (i+k) km) (by rw[Y]) ?_;refine Seq.eJ (f:=bT) (g:=bT) F (k-1) i4 q1 (l.getD (i+(k-1)) km) (by rw[q2]) (fe k8 ?_);refine(Ns _ _ h3).mono ?_;rintro _ h4 ⟨rfl,R4⟩;have R:=J.up R4.ag;have p:kM l (i+k)=!decide (mz (l.getD (i+k) km) (l.getD (i+(k-1)) km)=0):=by unfold kM;rw[hZ (show¬i+k=0 by omega),show i+k-1=i+(k-1)by omega];simp
    have b:=nN l (i+k);rw[p]at b;refine⟨_,i4,trivial,bh (λU=>?_) λU=>?_⟩
    ·rw[U]at b;have a:i0 (kN l (i+(k+1)))=c+1:=by rw[<-w9,b];simp[O]
     have E:=(R.seq 0 i4 λ_=>rfl).drop i y;refine Seq.eJ (f:=bT) (g:=bT) E k i4 Z (l.getD (i+k) km) (by rw[Y]) ?_;refine R.set ac 0 i4 (λ_=>rfl) i4 c i4 i5 (l.getD (i+k) km) i4 i4 i4 λh5 H5=>?_;refine⟨(k+1,D.set c (l.getD (i+k) km)),?_,⟨i7,i7,by dsimp only;rw[zA];exact A,by dsimp only;rw[a];omega,?_,λj m=>?_,H5⟩,i7⟩
     ·dsimp only;rw[a,ak _,ak _];rfl
     ·dsimp only;rw[a,aG _ c (by rw[zA];omega),List.getElem_set_self,List.take_set_of_le (qk _),d,<-w9,b];simp
     ·dsimp only at m⊢;rw[zI i5];exact u j i5
    ·rw[U]at b;have a:i0 (kN l (i+(k+1)))=c:=by rw[<-w9,b];simp[O]
     refine⟨(k+1,D),?_,⟨i7,i7,A,by dsimp only;rw[a];omega,?_,λj m=>u j (by dsimp only at m;omega),R⟩,i7⟩
     ·dsimp only;rw[a,ak _];rfl
     ·dsimp only;rw[a,d,<-w9,b];simp
   ·have M:i+k=i0 l:=i5
    refine⟨⟨i5,i5⟩,?_⟩;rw[qm];refine J.tO ac 0 i4 ahY (λ_=>rfl) i4 i6 c i5 λh6 V=>⟨⟨i5,i5⟩,⟨s.ptr,c,s.cap⟩,i4,?_⟩
    rw[d,M]at V;exact V
  ·refine⟨i+1,j1,⟨i5,i5,λj m=>?_,W⟩,i5⟩;by_cases S:j=i
   ·subst S;unfold kM;rw[g9 (show mz (l.getD j km) (l.getD (j-1) km)≠0 by simpa using e2)];simp
   ·exact w j i5
 ·have L:i=i0 l:=by have e':¬(i:Int)<(s.len:Int):=N;omega
  subst L;rw[n w];exact⟨s,i4,I⟩
end
def fieldsOf(d:Option TypeDesc):List (Bool×TypeId×Nat):=match d with|some (.struct fs)=>fs.toList.map (λf=>(f.name== "_",f.type,f.offset))|_=>[]
theorem abc:fieldsOf (Tryz.prog.underlying 24)=[(eS,3,0),(eS,3,1),(eS,3,2)]:=j4
theorem adT:Tryz.prog.stoodInHeld 24=eS:=j4
theorem adU:Tryz.prog.eqGuardType Tryz.prog.depth 24=eS:=j4
theorem TZ{P:Program}{t:TypeId}{a b c:TypeId×Nat}(h:fieldsOf (P.underlying t)=[(eS,a.1,a.2),(eS,b.1,b.2),(eS,c.1,c.2)]):
  ∃f g e:Field,P.underlying t=dB (.struct #[f,g,e])/\(f.name≠ "_" /\f.type=a.1/\f.offset=a.2)/\(g.name≠ "_" /\g.type=b.1/\g.offset=b.2)/\(e.name≠ "_" /\e.type=c.1/\e.offset=c.2):=by
 cases hu:P.underlying t with
 |none=>rw[hu]at h;cases h
 |some d=>
  rw[hu]at h;cases d with
  |struct fs=>
   simp only[fieldsOf]at h;obtain⟨l⟩:=fs;have i:i0 l=3:=by simpa using congrArg vA h
   obtain⟨f,r,rfl⟩:=yt i;obtain⟨g,k,rfl⟩:=yt (by simpa using i:i0 r=1+1);obtain⟨e,j,rfl⟩:=yt (by simpa using i:i0 k=0+1);obtain rfl:j=[]:=by simpa using i
   simp at h;exact⟨f,g,e,i4,⟨h.1.1,h.1.2.1,h.1.2.2⟩,⟨h.2.1.1,h.2.1.2.1,h.2.1.2.2⟩,⟨h.2.2.1,h.2.2.2.1,h.2.2.2.2⟩⟩
  |_=>cases h
theorem jJ{P:Program}{d:Nat}{t:TypeId}{k:IntKind}(h:∃c,P.underlying t=dB (.int c))(a b:Int):aL P (Op.equalIn (d+1) t (.int k a) (.int k b)) (a==b):=by obtain⟨c,h⟩:=h;unfold Op.equalIn;refine(aU h).bind ?_;simp only[if_true];exact .pure
theorem mQ{P:Program}{t:TypeId}{k:IntKind}(h:P.underlying t=dB (.int k)){a:Array Value}{i:Nat}{v:Value}(b:a[i]?=dB v):aL P (part t a i) v:=by unfold part isAgg;refine aL.bind (v:=eS) ((aU h).bind .pure) ?_;simp only[zj,if_false,b];exact .pure
theorem aiR(p q:Pm):aL xt (Op.equal 24 (xn #[xi xo p.1,xi xo p.2.1,xi xo p.2.2]) (xn #[xi xo q.1,xi xo q.2.1,xi xo q.2.2])) (decide (p=q)):=by
 obtain⟨f,g,u,H,⟨B,z,E⟩,⟨I,A,y⟩,⟨D,F,u3⟩⟩:=TZ (a:=(3,0)) (b:=(3,1)) (c:=(3,2)) abc;have G:∃k,Tryz.prog.underlying 3=dB (.int k):=⟨.i64,j4⟩
 obtain⟨k,d⟩:=G;unfold Op.equal;rw[show Op.maxDepth=9998+1+1 from i4,Op.equalIn];refine(aU H).bind ?_;refine aL.bind (v:=xt) (λw=>rfl) ?_;simp only[adT,zj,if_false,List.forIn_toArray,List.forIn_cons,List.forIn_nil,ne_eq,B,I,D,not_false_eq_true,if_true,z,E,A,y,F,u3];obtain⟨a,b,c⟩:=p;obtain⟨h,i,j⟩:=q;dsimp only;have o:aL xt (part 3 #[Value.int xo a,Value.int xo b,Value.int xo c] 0) _:=mQ d i4;have n:aL xt (part 3 #[Value.int xo h,Value.int xo i,Value.int xo j] 0) _:=mQ d i4;have s:aL xt (part 3 #[Value.int xo a,Value.int xo b,Value.int xo c] 1) _:=mQ d i4;have r:aL xt (part 3 #[Value.int xo h,Value.int xo i,Value.int xo j] 1) _:=mQ d i4;have t:aL xt (part 3 #[Value.int xo a,Value.int xo b,Value.int xo c] 2) _:=mQ d i4;have x:aL xt (part 3 #[Value.int xo h,Value.int xo i,Value.int xo j] 2) _:=mQ d i4;by_cases l:a=h
 ·by_cases m:b=i
  ·by_cases h3:c=j
   ·have e:decide ((a,b,c)=(h,i,j))=eR:=by simp[l,m,h3]
    rw[e];refine aL.bind (v:=(eH,())) (aL.bind (v:=ForInStep.yield (eH,())) (o.bind (n.bind ((jJ ⟨k,d⟩ a h).bind ?_))) (aL.bind (v:=ForInStep.yield (eH,())) (s.bind (r.bind ((jJ ⟨k,d⟩ b i).bind ?_))) (aL.bind (v:=ForInStep.yield (eH,())) (t.bind (x.bind ((jJ ⟨k,d⟩ c j).bind ?_))) .pure))) .pure
    ·simp only[l,beq_self_eq_true,w6,zj,if_false];exact .pure
    ·simp only[m,beq_self_eq_true,w6,zj,if_false];exact .pure
    ·simp only[h3,beq_self_eq_true,w6,zj,if_false];exact .pure
   ·have e:decide ((a,b,c)=(h,i,j))=eS:=by simp[h3]
    rw[e];refine aL.bind (v:=(dB eS,())) (aL.bind (v:=ForInStep.yield (eH,())) (o.bind (n.bind ((jJ ⟨k,d⟩ a h).bind ?_))) (aL.bind (v:=ForInStep.yield (eH,())) (s.bind (r.bind ((jJ ⟨k,d⟩ b i).bind ?_))) (aL.bind (v:=ForInStep.done (dB eS,())) (t.bind (x.bind ((jJ ⟨k,d⟩ c j).bind ?_))) .pure))) .pure
    ·simp only[l,beq_self_eq_true,w6,zj,if_false];exact .pure
    ·simp only[m,beq_self_eq_true,w6,zj,if_false];exact .pure
    ·rw[show(c==j)=eS by simpa using h3];simp only[ya,if_true];exact .pure
  ·have e:decide ((a,b,c)=(h,i,j))=eS:=by simp[m]
   rw[e];refine aL.bind (v:=(dB eS,())) (aL.bind (v:=ForInStep.yield (eH,())) (o.bind (n.bind ((jJ ⟨k,d⟩ a h).bind ?_))) (aL.bind (v:=ForInStep.done (dB eS,())) (s.bind (r.bind ((jJ ⟨k,d⟩ b i).bind ?_))) .pure)) .pure
   ·simp only[l,beq_self_eq_true,w6,zj,if_false];exact .pure
   ·rw[show(b==i)=eS by simpa using m];simp only[ya,if_true];exact .pure
 ·have e:decide ((a,b,c)=(h,i,j))=eS:=by simp[l]
  rw[e];refine aL.bind (v:=(dB eS,())) (aL.bind (v:=ForInStep.done (dB eS,())) (o.bind (n.bind ((jJ ⟨k,d⟩ a h).bind ?_))) .pure) .pure;rw[show(a==h)=eS by simpa using l];simp only[ya,if_true];exact .pure
theorem aib(x y:Operand)(p q:Pm):kB xt .neq 24 x y (xn #[xi xo p.1,xi xo p.2.1,xi xo p.2.2]) (xn #[xi xo q.1,xi xo q.2.1,xi xo q.2.2]) (xm (!decide (p=q))):=by
 unfold kB eqGuard;refine aL.bind (v:=()) ?_ ?_
 ·simp only[w6,zj,if_false];refine aL.bind (v:=xt) (λw=>rfl) ?_;refine aL.bind (v:=xt) (λw=>rfl) ?_;simp only[adU,ya,if_true];exact .pure
 ·exact(aiR p q).bind .pure
end Go.Qw
namespace Wl
def YJ(P:bM->Bool)(l:List bM)(i:Int):Prop:=(i=-1/\l.any P=eS)∨∃n:Nat,∃h:n<i0 l,i=n/\P l[n]=eR/\(l.take n).any P=eS
theorem Ua{P:bM->Bool}{l:List bM}{i:Int}(h:YJ P l i):decide (i>=0)=l.any P:=by
 rcases h with⟨rfl,h⟩|⟨n,hn,rfl,h,_⟩
 ·rw[h];rfl
 ·rw[zV.2 ⟨_,qh hn,h⟩];exact g9 i5
end Wl
namespace Go.Qw
open Go Go.Vc Go.Proofs Wl
theorem Kp(f:FuncId)(pre post:Array Value)(P:Wl.bM->Bool)(l:Sl)(a:List Wl.bM)(h:f8)(q:C.fns[f]?=dB eR)(m:dT xT h l a)(A:i0 a<=2^30)
  (r:∀(u:ez) (E:Wl.bM) (h':f8),Sp h h' []->dT jC h' u E->E∈a->ab xt f (pre.toList++[Value.agg #[xl u.1,xi xo u.2.1,xi xo u.2.2.1,u.2.2.2]]++post.toList).toArray h' λv k=>v=xm (P E)/\Sp h' k []):
  ab xt 152 #[l,.func (.func f) pre post] h λv h'=>(∃i:Int,v=xi xo i/\YJ P a i)/\Sp h h' []:=by
 refine ib l (f,pre,post) ?_;unfold fD;obtain⟨j,w,D,t⟩:=bL.kD m;have x:=bL.len m;refine aw (λi:Nat=>(i:Int)) (λi h'=>i<=i0 a/\(a.take i).any P=eS/\Sp h h' []) (λi=>i0 a-i) 0 i4 ⟨i5,jj,Sp.refl h⟩ ?_;rintro i n ⟨F,b,d⟩;refine ai (λe=>?_) (λe=>?_)
 ·have c:i<i0 a:=by have y:(i:Int)<(l.len:Int):=e;omega
  have z:dT jC n (j[i]'(by omega)) a[i]:=jC.mono (jC.loc (t i i5 c) d.ag) λ_ s=>q7 s d.ag.1;refine(Seq.up w d.ag).eJ (g:=bP) i i4 i5 (j[i]'(by omega)) i4 (fe q ?_);refine(r (j[i]'(by omega)) a[i] n d z (qh c)).mono ?_;rintro _ B ⟨rfl,p⟩;have o:=d.up p.ag;refine⟨_,i4,bD (λe2=>⟨⟨i,i4,.inr ⟨i,c,i4,e2,b⟩⟩,o⟩) λe2=>?_⟩;refine⟨i+1,j1,⟨i5,?_,o⟩,i5⟩;rw[aG _ _ c,yM,b,List.any_cons,List.any_nil,e2];rfl
 ·have y:¬(i:Int)<(l.len:Int):=e;rw[qi i5]at b;exact⟨⟨-1,i4,.inl ⟨i4,b⟩⟩,d⟩
theorem Pn(f:FuncId)(pre post:Array Value)(P:Wl.bM->Bool)(l:Sl)(a:List Wl.bM)(h:f8)(c:C.fns[f]?=dB eR)(d:dT xT h l a)(e:i0 a<=2^30)
  (g:∀(u:ez) (E:Wl.bM) (h':f8),Sp h h' []->dT jC h' u E->E∈a->ab xt f (pre.toList++[Value.agg #[xl u.1,xi xo u.2.1,xi xo u.2.2.1,u.2.2.2]]++post.toList).toArray h' λv b=>v=xm (P E)/\Sp h' b []):
  ab xt 165 #[l,.func (.func f) pre post] h λv h'=>v=xm (a.any P)/\Sp h h' []:=by
 refine gE l (f,pre,post) ?_;unfold fd;refine(Kp f pre post P l a h c d e g).mono ?_;rintro _ m ⟨⟨i,rfl,k⟩,j⟩;exact⟨i,i4,by rw[Ua k],j⟩
theorem rC(o b t:Int)(h:f8):ab xt 62 #[xi xo o,xi xo b,xi xo t] h λv h'=>v=xi xq (ce o b t)/\h'=h:=by
 refine Rk o b t ?_;unfold JY;refine⟨?_,i4⟩;have:qc xq ((qc xq ((qc xq ((128:Int)*(qc xq o)))+(qc xq ((16:Int)*(qc xq b)))))+(qc xq t))=ce o b t:=by unfold ce qc;simp[ql,yY];omega
 rw[this]
theorem VQ(x:ci)(m:aE)(y:bF)(r:di)(h:f8)(o:dG h x m)(Y:dg m)(L:dT fv h y r):
  ab xt 195 #[gb x,recv y] h λv h'=>v=xm (fB m r)/\Sp h h' []:=by
 refine MY x y ?_;unfold FU;refine(Sp.refl h).boxed λT h1 H1=>H1.boxed λd R i=>?_;have i:Sp h R [ao T 44 (bn x),ao d 170 (bT y)]:=i;obtain⟨⟨V,e2,e3,G,e5,e7,e8⟩,e6⟩:=id L;have I:x.2.2.1=m.p.1:=congrArg (·.1) o.p;have A:x.2.2.2.1=m.p.2.1:=congrArg (·.2.1) o.p;have w:x.2.2.2.2.1=m.p.2.2:=congrArg (·.2.2) o.p;have B:y.2.2.2.1=r.p.1:=congrArg (·.1) G;have s:y.2.2.2.2.1=r.p.2.1:=congrArg (·.2.1) G;have H:y.2.2.2.2.2.1=r.p.2.2:=congrArg (·.2.2) G;have ah:=Y.ob;refine bj ⟨y,(i.box 1 i4).aS _ i4,(Ko y r R (fv.mono (fv.loc L i.ag) λ_ Z=>q7 Z i.ag.1)).mono ?_⟩;rintro _ h3 ⟨rfl,X⟩;have e:Sp h h3 [ao T 44 (bn x),ao d 170 (bT y)]:=i.up X.ag;have N:=e.box 0 i4;have t:=e.box 1 i4;refine⟨_,i4,bh (λg=>⟨by unfold fB;rw[g];rfl,.zip e.ag⟩) λg=>?_⟩;obtain⟨_,g2,_⟩:=(kX r).1 g;refine⟨r.p,by rw[<-B,<-s,<-H];exact t.Jq 3 i4 i4 i4,m.p,by rw[<-I,<-A,<-w];exact N.Jq 2 i4 i4 i4,_,aib _ _ r.p m.p,bh (λz=>⟨?_,.zip e.ag⟩) λz=>?_⟩
 ·unfold fB;rw[g,z];rfl
 obtain⟨P,O⟩:∃P:Wl.bM->Bool,P=λx=>decide (x.object=r.object)&&(decide (r.block<(x.tries.length:Int))&&decide (r.seed=ce r.object r.block (x.tries.getD r.block.toNat 0))):=⟨_,rfl⟩
 have F:fB m r=m.aH.any P:=by unfold fB;rw[g,z,O];rfl
 refine⟨x.2.2.2.2.2.2.2,N.cell i4,?_⟩;refine(Pn 247 #[] #[xk (dB d)] P x.2.2.2.2.2.2.2 m.aH h3 k8 (o.up e.ag).aH i5 λu E S U he _=>?_).mono ?_
 ·obtain⟨⟨y1,W,y3⟩,J⟩:=he;have ad:=Seq.len J;have l:=t.ag U.ag t.lt;refine JJ u d ?_;unfold BW;refine(Sp.refl S).boxed λa5 b a=>?_;have a:Sp S b [ao a5 94 (bP u)]:=a;have M:=a.box 0 i4;have c:=l.ag a.ag l.lt;have q:f7 b (a5.add 1)=dB (xi xo E.object):=by rw[<-W];exact M.cell i4
  have n:f7 b (a5.add 3)=dB (xj u.2.2.2.ptr u.2.2.2.len u.2.2.2.cap):=M.cell i4;have k:f7 b d=dB (xi xo r.object):=by rw[<-V];exact c.cell0 i4
  have j:f7 b (d.add 1)=dB (xi xo r.block):=by rw[<-e2];exact c.cell i4
  have Q:f7 b (d.add 6)=dB (xi xq r.seed):=by rw[<-e5];exact c.cell i4
  rw[O];refine⟨E.object,q,r.object,k,de (λD=>?_) λD=>⟨⟨k,q,trivial⟩,?_,.zip a.ag⟩⟩
  ·refine⟨u.2.2.2,n,r.block,j,ai (λq2=>?_) λq2=>⟨⟨j,n,k,q,trivial⟩,?_,.zip a.ag⟩⟩
   ·have K:r.block.toNat<E.tries.length:=i5
    refine⟨r.seed,Q,r.object,k,r.block,j,u.2.2.2,n,r.block,j,?_⟩;refine Seq.bC (f:=aq) (Seq.up J a.ag) r.block.toNat i5 K (E.tries.getD r.block.toNat 0) (by rw[getD_lt K];rfl) ?_;refine(rC _ _ _ b).mono ?_;rintro _ _ ⟨rfl,rfl⟩;refine⟨_,i4,⟨j,n,Q,j,n,k,q,trivial⟩,?_,.zip a.ag⟩;dsimp only;rw[g9 D,g9 (show r.block<(E.tries.length:Int)by omega),zJ,zJ];congr 1
   ·dsimp only;rw[hZ (show¬r.block<(E.tries.length:Int)by omega)];simp
  ·dsimp only;rw[hZ D];rfl
 ·rintro _ b ⟨rfl,R5⟩;exact⟨_,i4,by rw[F],.zip (aa.up e R5.ag).ag⟩
section
variable {α:Type}
def oJ(k:Nat)(f:α->bc):jz Sl (List α):=⟨λh q s l=>Seq h q s k f l/\s.len<=s.cap,λa b=>⟨a.1.ag b,a.2⟩,λa c=>⟨a.1.mono c,a.2⟩⟩
theorem aa.afJ{B:aB}{j h:f8}{As:List HP}{e a k:Nat}{s:Sl}{f:α->bc}{b:List (List α)}(H:aa B j h (dQ e s a k f b::As))(t:∀x,i0 (f x)=k):∃rs,aa B j h (cW (oJ k f) 1 bs s rs b::As):=by
 obtain⟨rs,H⟩:=H.ta;obtain⟨H,d⟩:=H.KM;refine⟨rs,H.gg 0 i4 λq m=>⟨?_,d,λi r l g c=>?_⟩⟩
 ·have:=HP.DJ (i:=0) m i4;exact this.1.seq (λ_=>rfl) this.2
 ·have n:i<i0 b:=(qn.1 c).1;have p:=iZ (e:=a) (k:=k) (f:=f) d i n;have:=HP.DJ (i:=i+1) m q6;have o:rs[i]'(by omega)=r:=by rw[qd i5]at g;simpa using g
  have a:b[i]=l:=by rw[qd n]at c;simpa using c
  rw[o,a]at this;exact⟨this.1.seq t this.2,this.1.cap⟩
end
def tu(T:List (bF×di)):HP:=⟨λh q=>∀t∈T,fv.p h q t.1 t.2,λa c t b=>fv.loc (a t b) c,λa d t b=>fv.mono (a t b) d⟩
end Go.Qw
namespace Wl
open Go Go.Vc Go.Qw
def Keyed(T:List (bF×di)):Prop:=∀t∈T,t.1.1=t.2.object/\t.1.2.1=t.2.block/\t.1.2.2.1=t.2.id
def Qq(a b:bF×di):Bool:=rS a.2 b.2
theorem adV{T:List (bF×di)}(k:Keyed T):∀a∈T,∀b∈T,Qq a b=cz a.1 b.1:=λa g b c=>by
 obtain⟨i,f,a3⟩:=k a g;obtain⟨d,h,e⟩:=k b c;unfold Qq rS cz;rw[decide_eq_decide,DI,i,f,a3,d,h,e]
theorem YK{T:List (bF×di)}(k:Keyed T):(T.mergeSort Qq).map qM=(T.map qM).mergeSort cz/\(T.mergeSort Qq).map zF=(T.map zF).mergeSort rS/\Keyed (T.mergeSort Qq):=
 ⟨vz (adV k),vz λa _ b _=>rfl,λt c=>k t (yF.1 c)⟩
def Nt:bF×di:=(km,Mh)
def EQ(T:List (bF×di)):List (bF×di):=((qw T.length).filter (pS (T.map zF))).map λi=>T.getD i Nt
theorem getD_map{α β:Type}(f:α->β)(l:List α)(i:Nat)(d:α):(l.map f).getD i (f d)=f (l.getD i d):=by rw[qe,qe,qS];cases l[i]?<;>rfl
theorem abd{T:List (bF×di)}(k:Keyed T):(EQ T).map qM=cpt (T.map qM)/\(EQ T).map zF=pT (T.map zF)/\∀t∈EQ T,t∈T:=by
 have n:∀i,i<i0 T->kM (T.map qM) i=pS (T.map zF) i:=λi a=>by
  unfold kM pS;have g:∀j,j<i0 T->(T.map qM).getD j km=(T[j]?.getD Nt).1/\(T.map zF).getD j Mh=(T[j]?.getD Nt).2:=λj e=>by
   rw[qe,qe,qS,qS,qd e];exact⟨i4,i4⟩
  by_cases h0:i=0
  ·rw[g9 h0];rfl
  ·rw[hZ h0,vp,vp,(g i a).1,(g i a).2,(g (i-1) i5).1,(g (i-1) i5).2];rw[qd a,qd (show i-1<i0 T by omega)];obtain⟨p,q,a3⟩:=k _ (qh a);obtain⟨o,l,m⟩:=k _ (qh (show i-1<i0 T by omega));unfold oG;simp only[Option.getD_some];have c:=aaY T[i].1 (T[i-1]'(by omega)).1;rw[p,q,a3,o,l,m]at c;by_cases b:mz T[i].1 (T[i-1]'(by omega)).1=0
   ·rw[hZ λh=>h b,g9 (c.1 b)];rfl
   ·rw[g9 b,hZ λr=>b (c.2 r)];rfl
 have f:(qw T.length).filter (kM (T.map qM))=(qw T.length).filter (pS (T.map zF)):=List.filter_congr λi a=>n i (qE.1 a);refine⟨?_,?_,λt d=>?_⟩
 ·unfold EQ cpt kN;rw[qA,f,wD];congr 1;funext i;exact(getD_map qM T i Nt).symm
 ·unfold EQ pT;rw[qA,wD];congr 1;funext i;exact(getD_map zF T i Nt).symm
 ·unfold EQ at d;obtain⟨i,a,rfl⟩:=qt.1 d;have:=qE.1 (qI.1 a).1;rw[getD_lt this];exact qh this
end Wl
namespace Go.Qw
open Go Go.Vc Go.Proofs Wl
theorem RB(a pw:fz)(d:bo)(s b:Sl)(x:ci)(m:aE)(h:f8)(H:cv h a 156 (ga pw d s b))(hl:fO h s 1 aD d.l)(ok:gB d)(hx:dG h x m)(hz:dg m):
  ab xt 130 #[xk (dB a),gb x] h λv h'=>∃(r:Sl) (T:List (bF×di)),v=r/\T.map zF=cU m d.l/\Keyed T/\Sp h h' [cI r (T.map qM),tu T]:=by
 refine Lh (dB a) x ?_;unfold Dp;have ad:=ok.len;have U:=ok.room;refine(Sp.refl h).boxed λp h1 J=>?_;have J:Sp h h1 [ao p 44 (bn x)]:=J;refine(Lu s b (H.ag J.ag H.lt) (hl.up J.ag) ok).mono ?_;rintro _ h2 ⟨B,rfl,R2⟩;have M:=J.ca R2;obtain⟨rs,M⟩:=aa.afJ M λ_=>rfl;refine⟨B,i4,?_⟩;have F2:=M.fR 0 i4;have ax:=F2.1.len;have ah:=F2.2.1;have F:Sp h h2 [cI ⟨eH,0,0⟩ [],tu [],cW (oJ 1 aD) 1 bs B rs d.l,ao p 44 (bn x)]:=
  ((M.comp (.one (A:=tu []) (aY.refl _ _) λt f=>(by cases f))).nil 170 8 bT).cE [3,2,0,1]
 refine aw (λt:Sl×Nat×List (bF×di)=>(t.1,(t.2.1:Int)-1)) (λt h'=>t.2.1<=i0 d.l/\t.2.2.length<=t.2.1/\Keyed t.2.2/\t.2.2.map zF=(d.l.take t.2.1).filterMap (jo m)/\Sp h h' [cI t.1 (t.2.2.map qM),tu t.2.2,cW (oJ 1 aD) 1 bs B rs d.l,ao p 44 (bn x)]) (λt=>i0 d.l-t.2.1) (⟨eH,0,0⟩,0,[]) i4 ⟨jj,jj,(λt f=>(by cases f)),jj,F⟩ ?_;rintro⟨o,i,T⟩ h3 ⟨hi,am,L,k,F⟩;dsimp only at*;have ei:qc xo ((i:Int)-1+1)=(i:Int):=j5
 rw[ei];refine ai (λe=>?_) (λe=>?_)
 ·have P:i=i0 d.l:=i5
  subst P;rw[qW]at k;refine(Nr (T.map qM) o6 F).mono ?_;rintro _ h4 ⟨rfl,H4⟩;obtain⟨s1,s2,s3⟩:=YK L;rw[<-s1]at H4;refine⟨(),i4,(Ly _ (by rw[qA,List.length_mergeSort];omega) H4).mono ?_⟩;rintro _ h5 ⟨r5,rfl,H5⟩;obtain⟨c1,c2,c3⟩:=abd s3;rw[<-c1]at H5;refine⟨r5,i4,r5,EQ (T.mergeSort Qq),i4,?_,λt f=>s3 t (c3 t f),?_⟩
  ·have hr:cU m d.l=(EQ (T.mergeSort Qq)).map zF:=by unfold cU;rw[<-k,c2,s2]
   exact hr.symm
  ·exact(H5.gg 1 i4 (D:=tu (EQ (T.mergeSort Qq))) λq z t f=>z t (yF.1 (c3 t f))).cE [0,1]
 ·have E:i<i0 d.l:=i5
  have g:=Yh m d.l i E;have next:∀{h':f8} {w:Sl} {T':List (bF×di)},i0 T'<=i+1->Keyed T'->T'.map zF=(d.l.take (i+1)).filterMap (jo m)->Sp h h' [cI w (T'.map qM),tu T',cW (oJ 1 aD) 1 bs B rs d.l,ao p 44 (bn x)]->
    ∃j:Sl×Nat×List (bF×di),((⟨w.ptr,w.len,w.cap⟩:Sl),(i:Int))=(j.1,(j.2.1:Int)-1)/\(j.2.1<=i0 d.l/\j.2.2.length<=j.2.1/\Keyed j.2.2/\j.2.2.map zF=(d.l.take j.2.1).filterMap (jo m)/\Sp h h' [cI j.1 (j.2.2.map qM),tu j.2.2,cW (oJ 1 aD) 1 bs B rs d.l,ao p 44 (bn x)])/\d.l.length-j.2.1<i0 d.l-i:=λ{h' w T'} q1 Z q3 q4=>
   ⟨(w,i+1,T'),by dsimp only;congr 1;omega,⟨i7,q1,Z,q3,q4⟩,i7⟩
  refine bj ?_;refine(F.fR 2 i4).1.mS i i4 i5 ?_;obtain⟨u,R⟩:=Fix.row (F.fR 2 rfl) E;obtain⟨c,hc⟩:∃c,c=d.l[i]:=⟨_,rfl⟩
  rw[<-hc]at u g;have ar:i0 c=64:=by rw[hc];exact ok.cell _ (qh E)
  refine(TV (rs[i]'(by omega)) c h3 u i5 R).mono ?_;rintro _ h6 ⟨y,rfl,Q0,Q1⟩;refine⟨(y,(eF c).isSome),i4,?_⟩;dsimp only;cases htr:eF c with
  |none=>
   have I:jo m c=eH:=by unfold jo;rw[htr]
   rw[I,Option.toList_none,qN]at g;have O:=F.up (Q0 htr).ag;refine O.alloc ac i4 λa9 h7 W=>?_;refine W.storeAll ac 4 i4 i4 (bT y) i4 i4 i4 i4 λh8 n=>bD (λe=>j3) λ_=>?_;exact next i5 L (by rw[k,g]) (n.cE [0,1,2,3])
  |some r=>
   have O:=F.ca (Q1 r htr);refine O.alloc ac i4 λa9 h7 W=>?_;refine W.storeAll ac 5 i4 i4 (bT y) i4 i4 i4 i4 λh8 n=>bD (λ_=>?_) λe=>j3
   have n:Sp h h8 [EA fv y r,cI o (T.map qM),tu T,cW (oJ 1 aD) 1 bs B rs d.l,ao p 44 (bn x),ao a9 170 (bT y)]:=n;have V:=n.eAt 0 i4;have S:an h8 p 0 (bn x):=(n.box 4 i4).aS _ i4;have N:an h8 a9 0 (bT y):=(n.box 5 i4).aS _ i4;have Y:=VQ x m y r h8 (hx.up n.ag) hz V;refine⟨x,S,y,N,Y.mono ?_⟩;rintro _ h9 ⟨rfl,R9⟩;have Q:Sp h h9 [EA fv y r,cI o (T.map qM),tu T,cW (oJ 1 aD) 1 bs B rs d.l,ao p 44 (bn x),ao a9 170 (bT y)]:=n.up R9.ag;refine⟨_,i4,bD (λe2=>?_) λe2=>?_⟩
   ·have I:jo m c=dB r:=by unfold jo;rw[htr];exact f9 e2
    rw[I,Option.toList_some]at g;refine⟨y,(Q.box 5 i4).aS _ i4,?_⟩;refine Q.push ac 1 i4 ahY i4 i6 (λ_=>rfl) agw y j4 i6 o6 λw ap K=>?_;have G:=(K.eAt 0 i4).1;have X:=K.merge 2 0 i6 i4 i4 (D:=tu (T++[(y,r)])) (λq1 Z _ p1 p2 t f=>by
     rcases qD.1 f with f|f
     ·exact fv.mono (p1 t f) λ_ H=>.inl H
     ·rw[qx.1 f];exact fv.mono p2 λ_ H=>.inr H)
    refine next (T':=T++[(y,r)]) i9 (λt f=>?_) (by rw[qU,k,g];rfl) ?_
    ·rcases qD.1 f with f|f
     ·exact L t f
     ·rw[qx.1 f];exact⟨G.1,G.2.1,G.2.2.1⟩
    ·rw[qU];exact X.cE [1,2,3,4]
   ·have I:jo m c=eH:=by unfold jo;rw[htr];exact g0 (by rw[e2];simp)
    rw[I,Option.toList_none,qN]at g;exact next i5 L (by rw[k,g]) (Q.cE [1,2,3,4])
theorem Ih(a pw:fz)(d:bo)(s b:Sl)(x:ci)(m:aE)(h:f8)(z:cv h a 156 (ga pw d s b))(g:fO h s 1 aD d.l)(ok:gB d)(w:dG h x m)(o:dg m):
  ab xt 130 #[xk (dB a),gb x] h λv h'=>∃(r:Sl) (n:List bF),v=r/\Sp h h' [cW fv 8 bT r n (cU m d.l)]:=by
 refine(RB a pw d s b x m h z g ok w o).mono ?_;rintro _ h' ⟨r,T,rfl,p,_,H⟩;refine⟨r,T.map qM,i4,?_⟩;have i:=(H.freeze 0 i4 λ_=>rfl).mi;have u:aa _ _ _ (cW fv 8 bT r (T.map qM) (cU m d.l)::_):=i.gg 0 i4 λq ⟨A,B,_,b,c,k,y⟩=>by
  rw[<-p];refine⟨Seq.mono y c,jj,λj D l' e f=>?_⟩;rw[qS]at e f;cases g3:T[j]? with
  |none=>rw[g3]at e;cases e
  |some t=>
   rw[g3]at e f;simp at e f;subst e;subst f;exact fv.mono (k t (w4 g3)) b
 exact u.cE [0]
end Go.Qw
namespace Go.Vc
open Go Wl
def bp(l:az)(k:Nat):az:=((qw k).map λi:Nat=>(i:Int)).filter λi=>decide (0<l.getD i.toNat 0)
def eU(l:az):az×Bool:=
 if l.all (fq · 0 512)then(bp l l.length,decide (i0 l<=64)&&decide (0<i0 (bp l l.length)))else([],eS)
theorem Gb(l:az)(k:Nat)(a:k<i0 l):bp l (k+1)=bp l k++if 0<l[k]then[(k:Int)]else[]:=by unfold bp;rw[zQ,qU,zl];congr 1;simp only[List.map_cons,List.map_nil,zr,va,qm,qe,qd a,Option.getD_some];by_cases h:0<l[k]<;>simp[h]
theorem rD(l:az)(k:Nat):i0 (bp l k)<=k:=by unfold bp;exact za (qR _ _) jj
end Go.Vc
namespace Go.Qw
open Go Go.Vc Go.Proofs Wl
section
theorem od(s:Sl)(l:az)(h:f8)(m:Rd h s 1 aq l)(B:i0 l<=2^20):
  ab xt 39 #[s] h λv h'=>∃r:Sl,v=.tuple #[r,xm (eU l).2]/\Sp h h' [al 3 r 1 aq (eU l).1]:=by
 refine Ld s ?_;unfold Dg;have x:=m.len;have z:Sp h h [al 3 ⟨eH,0,0⟩ 1 aq (bp l 0)]:=(Sp.refl h).nil 3 1 aq;refine aw (λt:Sl×Nat=>(t.1,(t.2:Int))) (λt h'=>t.2<=i0 l/\(l.take t.2).all (fq · 0 512)=eR/\Sp h h' [al 3 t.1 1 aq (bp l t.2)]) (λt=>i0 l-t.2) (⟨eH,0,0⟩,0) i4 ⟨jj,jj,z⟩ ?_;rintro⟨o,i⟩ D ⟨F,c,f⟩;dsimp only at*;have d:∀(a:i<i0 l),fq l[i] 0 512=eS->eU l=([],eS):=λa g=>by
  unfold eU;rw[g0];intro w;have:=qL.1 w _ (qh a);rw[g]at this;cases this
 refine ai (λe=>?_) (λe=>?_)
 ·have a:i<i0 l:=i5
  have A:=rD l i;refine(Seq.up m f.ag).bC i i4 a l[i] i4 ?_;refine bj (ai (λj=>?_) λj=>ai (λe2=>?_) λe2=>?_)
  ·have g:=d a n7;rw[g];exact⟨⟨eH,0,0⟩,i4,(f.cE []).nil 3 1 aq⟩
  ·have g:=d a n7;rw[g];exact⟨⟨eH,0,0⟩,i4,(f.cE []).nil 3 1 aq⟩
  ·have b:(l.take (i+1)).all (fq · 0 512)=eR:=by rw[aG l i a,yL,c,zJ,List.all_cons,List.all_nil,Bool.and_true];unfold fq;simp;omega
   refine ai (λn=>?_) (λn=>?_)
   ·refine f.push ac 0 i4 gm i4 i6 (λ_=>rfl) fN (i:Int) i4 i6 i5 λq E u=>?_;refine⟨(q,i+1),js,⟨i7,b,?_⟩,i7⟩;dsimp only;rw[Gb l i a,f9 i5];exact u
   ·refine⟨(o,i+1),js,⟨i7,b,?_⟩,i7⟩;dsimp only;rw[Gb l i a,g0 i5,qN];exact f
 ·have k:i=i0 l:=i5
  subst k;rw[qW]at c;have y:=(f.own 0 i4).len;have p:eU l=(bp l l.length,decide (i0 l<=64)&&decide (0<i0 (bp l l.length))):=by unfold eU;rw[f9 c]
  rw[p];refine ai (λj=>⟨o,?_,f⟩) (λj=>⟨o,?_,f⟩)
  ·dsimp only;rw[g9 (show l.length<=64 by omega),zJ];congr 4;refine congrArg Value.bool ?_;rw[decide_eq_decide];omega
  ·dsimp only;rw[hZ (show¬i0 l<=64 by omega),Bool.false_and]
end
section
variable {B:aB} {h0 h:f8} {As:List HP} {a pw:fz} {offs:Int} {da:List aO} {w:Pow} {ds:aF}
theorem dJ(x:ci)(m:aE)(g:dG h x m)(c:dg m)(H:aa B h0 h (bu bJ a pw (bn x) offs da w ds::As)):
  ab xt 25 #[xk (dB a)] h λv h'=>∃r:Sl,v=r/\Sp h h' [al 3 r 1 aq (aR ds m.drives)]:=by
 refine EC (dB a) ?_;unfold tW;obtain⟨ok,b⟩:=aa.cN H;have f:=c.dr;refine bD (λe=>j3) λ_=>⟨a,i4,x.2.2.2.2.2.2.1,b.cell i4,(YG _ m.drives g.drives i5 H).mono ?_⟩;rintro _ i ⟨r,rfl,d⟩;exact⟨r,i4,r,i4,d⟩
theorem sJ(x:ci)(m:aE)(k:dG h x m)(i:dg m)(H:aa B h0 h (bu bJ a pw (bn x) offs da w ds::As)):
  ab xt 16 #[xk (dB a)] h λv h'=>∃y:ci,v=gb y/\Sp h h' [dF y m]:=by
 refine Ao (dB a) ?_;unfold oq;obtain⟨ok,f⟩:=aa.cN H;refine(Sp.refl h).alloc ac i4 λo j b=>?_;have c:=f.ag b.ag f.lt;refine bD (λe=>j3) λ_=>⟨a,i4,x,c.aS _ i4,(No x m j (k.up b.ag) i).mono ?_⟩;rintro _ n ⟨y,rfl,g⟩;have l:=b.comp g;refine⟨y,i4,?_⟩;refine l.store ac 0 i4 i4 0 (bn y) i4 i4 i4 l0 λh3 d=>?_;exact⟨y,(d.box 0 i4).aS _ i4,y,i4,d.cE [1]⟩
end
end Go.Qw
namespace Go.Vc
open Go Wl
def dY(w:Pow)(offs:Int):Bool:=w.off||w.offs !=offs
end Go.Vc
namespace Go.Qw
open Go Go.Vc Go.Proofs Wl
section
variable {B:aB} {h0 h:f8} {As:List HP} {a pw:fz} {mc:bc} {offs:Int} {da:List aO} {w:Pow} {ds:aF}
theorem aa.agx(H:aa B h0 h (bu bJ a pw mc offs da w ds::As)):∃l,Nk w l/\cv h pw 92 (powC w l):=by obtain⟨ok,c⟩:=Go.Vc.aa.sH H;have d:=c.rest;obtain⟨l,e,b⟩:=aa.DF d;exact⟨l,e,b.box 0 i4⟩
theorem sK(H:aa B h0 h (bu bJ a pw mc offs da w ds::As)):
  ab xt 57 #[xk (dB a)] h λv h'=>v=xm (dY w offs)/\h'=h:=by
 refine EG (dB a) ?_;unfold uc;obtain⟨ok,f⟩:=aa.cN H;obtain⟨l,i,d⟩:=aa.agx H;have c:f7 h (a.add 8)=dB (xk (dB pw)):=f.cell (TW ok.l8);have g:f7 h (a.add 9)=dB (xi xo offs):=f.cell (YF ok.l8);refine bD (λ_=>?_) (λe=>j3);refine⟨a,i4,dB pw,c,(Jp l d).mono ?_⟩;rintro _ _ ⟨rfl,rfl⟩;refine⟨_,i4,trivial,bh (λe=>⟨trivial,?_⟩) λe=>?_⟩
 ·have b:w.off=eR:=l5
  exact⟨by unfold dY;rw[b];rfl,i4⟩
 ·have b:w.off=eS:=l5
  refine⟨a,i4,dB pw,c,a,i4,offs,g,(Qk l d).mono ?_⟩;rintro _ _ ⟨rfl,rfl⟩;exact⟨_,i4,⟨g,trivial⟩,by unfold dY;rw[b];rfl,i4⟩
theorem RC(H:aa B h0 h (bu bJ a pw mc offs da w ds::As)):
  ab xt 90 #[xk (dB a)] h λv h'=>v=xk (dB pw)/\h'=h:=by
 refine Dj (dB a) ?_;unfold rZ;obtain⟨ok,b⟩:=aa.cN H;exact bD (λe=>j3) λ_=>⟨a,i4,dB pw,b.cell (TW ok.l8),i4,i4⟩
end
end Go.Qw
namespace Go.Vc
open Go Wl
section
variable {k:Kit} {B:aB} {h0 h:f8} {As:List HP} {a pw:fz} {mc:bc} {offs:Int} {w:Pow}
theorem aa.aic(H:aa B h0 h As):∀n,aa B h0 h (qg n emp++As)
 |0=>H
 |n+1=>(((aa.aic H n).comp (.one (A:=emp) (aY.refl _ _) trivial)).bw:aa B h0 h (emp::(qg n emp++As)))
theorem aa.abe(h8:i0 mc=8)(H:aa B h0 h (ao a k.tS (dh mc pw offs (qg 64 eH))::dE k.tP pw w::As)):aa B h0 h (bu k a pw mc offs (qg 64 eH) w (qg 64 eH)::As):=by
 have ok:gM mc (qg 64 eH) (qg 64 (eH:Option bo)):=⟨h8,jj,jj,λi=>by
  simp only[qe,wg];split<;>rfl⟩
 have e:ig k pw (qg 64 eH) (qg 64 (eH:Option bo))=qg 64 emp:=by simp[ig,aia]
 refine aa.um ok ?_;rw[e];have f:=aa.aic H 64;refine f.pick (λi=>if i=0 then 64 else if i=1 then 65 else if i<66 then i-2 else i) (λx y b=>by(try dsimp only at b);split at b<;>split at b<;>(try split at b)<;>(try split at b)<;>(try split at b)<;>(try split at b)<;>omega) λi A d=>?_;rcases i with _|_|i
 ·simpa using d
 ·simpa using d
 ·by_cases g:i<64
  ·have c:(qg 64 emp++As)[i]?=dB A:=d;rw[qo k9]at c
   try dsimp only
   rw[g0 i5,g0 i5,f9 i5,qo i9];simpa using c
  ·have c:(qg 64 emp++As)[i]?=dB A:=d;rw[qj i9]at c
   try dsimp only
   rw[g0 i5,g0 i5,g0 i5,qj i9];simp only[List.length_replicate]at c⊢;obtain⟨j,rfl⟩:∃j,i=j+64:=⟨i-64,i5⟩
   have e2:j+64+1+1-64=j+1+1:=i5
   rw[e2];simpa using c
end
end Go.Vc
namespace Go.Qw
open Go Go.Vc Go.Proofs Wl
section
theorem abf(x:ci)(pw:fz)(offs:Int):aL xt (Instr.build 84 #[(0,gb x),(1,xk (dB pw)),(2,xi xo offs)]) (xn (dh (bn x) pw offs (qg 64 eH)).toArray):=
 GG ac (i:=_) i4 i4 i4 (vs:=[(0,gb x),(1,xk (dB pw)),(2,xi xo offs)]) (cells:=(dh (bn x) pw offs (qg 64 eH)).toArray) j4
end
end Go.Qw
namespace Go.Vc
open Go Wl
section
variable {k:Kit} {B:aB} {h0 h:f8} {As:List HP} {a pw b:fz} {mc:bc} {offs:Int} {da:List aO} {w:Pow} {ds:aF} {d:bo} {n:Nat}
theorem Qr(h8:i0 mc=8):(dh mc pw offs da).set (10+n) (xk (dB b))=dh mc pw offs (da.set n (dB b)):=by unfold dh;rw[qZ _ _ i5,h8,show 10+n-8=n+1+1 by omega,zP,zP,List.map_set]
theorem aa.agy(ok:gM mc da ds)(z:n<64)(v:ds[n]?=dB eH)(H:aa B h0 h (ao a k.tS (dh mc pw offs (da.set n (dB b)))::dE k.tP pw w::(ig k pw da ds++(iK k.tD (k.f pw) b d::As)))):aa B h0 h (bu k a pw mc offs (da.set n (dB b)) w (ds.set n (dB d))::As):=by
 have t:=ok.aaZ z v;have o:=ok.la;have m:=ok.ls;have r:gM mc (da.set n (dB b)) (ds.set n (dB d)):=⟨ok.l8,by simp[o],by simp[m],λi=>by
  by_cases c:n=i
  ·subst c;rw[qe,qe,zp i5,zp i5];rfl
  ·have:=ok.same i;rw[qe,qe]at this⊢;rw[zI c,zI c];exact this⟩
 have s:=Lx (k:=k) (pw:=pw) ok;have u:(ig k pw da ds)[n]?=dB emp:=by simp only[ig,wA,t,v];rfl
 have g:ig k pw (da.set n (dB b)) (ds.set n (dB d))=(ig k pw da ds).set n (iK k.tD (k.f pw) b d):=by
  apply zO;intro j;simp only[ig,zd,wA,vn];by_cases l:n=j
  ·subst l;rw[f9 i4,f9 i5,f9 i4,f9 i5,f9 i4,f9 i5];rfl
  ·simp[l]
 refine aa.um r ?_;rw[g];obtain⟨L,p⟩:∃L,L=ig k pw da ds:=⟨_,rfl⟩
 rw[<-p]at H u s⊢;have x:=H.cons (i0 L+2) (A:=iK k.tD (k.f pw) b d) (by
  rw[qB,qB,qj (qk _),zc];rfl)
 have e:(ao a k.tS (dh mc pw offs (da.set n (dB b)))::dE k.tP pw w::(L++(iK k.tD (k.f pw) b d::As))).set (i0 L+2) emp=ao a k.tS (dh mc pw offs (da.set n (dB b)))::dE k.tP pw w::(L++(emp::As)):=by rw[zP,zP,qZ _ _ (qk _),zc];rfl
 rw[e]at x;have G:=x.aZ 3 [0,2,1];have q:L.set n emp=L:=by
  obtain⟨D,I⟩:=qn.1 u
  conv=>lhs;rw[<-I]
  exact List.set_getElem_self D
 have E:aa B h0 h (iK k.tD (k.f pw) b d::dE k.tP pw w::ao a k.tS (dh mc pw offs (da.set n (dB b)))::(L.set n emp++(emp::As))):=by rw[q];exact G
 have y:=aa.Js n i5 E;have F:=aa.closeAll (ao a k.tS (dh mc pw offs (da.set n (dB b)))::dE k.tP pw w::L.set n (iK k.tD (k.f pw) b d)) y;exact aa.pf (L:=ao a k.tS (dh mc pw offs (da.set n (dB b)))::dE k.tP pw w::L.set n (iK k.tD (k.f pw) b d)) F.pO
end
open Go Wl Go.Qw
def ck(p:Pm)(extra:Int)(l:az):aE:=⟨1,0,p,extra,bp l l.length,[]⟩
def iA(l:az)(k:Nat):aF:=(qw 64).map λi:Nat=>if(i:Int)∈(bp l l.length).take k then dB (bo.new (l.getD i 0).toNat)else eH
def gc(p:Pm)(extra:Int)(w:Pow)(l:az):Int×Pow×aF:=
 if(eU l).2&&(bB p&&fq extra 0 16)then
  if(bp l l.length).any λi=>decide (l.getD i.toNat 0<(i0 (bm (ck p extra l)):Int))then(7,w,[])
  else layAll (bt (ck p extra l) (bp l l.length)) w (iA l (bp l l.length).length)
 else(1,w,[])
theorem Ub(l:az):iA l 0=qg 64 eH:=by
 unfold iA;rw[List.take_zero];apply zO;intro j;simp only[qS,wg,zu,List.not_mem_nil,if_false];by_cases h:j<64
 ·simp[h,zu]
 ·simp[h]
theorem VR(l:az)(k:Nat):i0 (iA l k)=64:=by simp[iA]
theorem Uc(l:az)(k n:Nat)(e:k<i0 (bp l l.length))(c:(bp l l.length)[k]=(n:Int))(b:n<64):(iA l k).set n (dB (bo.new (l.getD n 0).toNat))=iA l (k+1):=by
 apply zO;intro j;unfold iA;rw[aG _ _ e,c,zd,qA,zx];by_cases d:j<64
 ·simp only[qS,zu d,qT,qD,qx];by_cases a:n=j
  ·subst a;rw[f9 i4,f9 b,f9 (Or.inr i4)]
  ·rw[g0 a];have:¬(j:Int)=(n:Int):=i5
   simp only[this,or_false]
 ·rw[g0 i5];rw[qV i9,qV i9]
theorem AJ(l:az)(k:Nat)(x:Int):x∈bp l k↔∃n:Nat,n<k/\x=(n:Int)/\0<l.getD n 0:=by
 unfold bp;rw[qI,qt];constructor
 ·rintro⟨⟨n,a,rfl⟩,b⟩;exact⟨n,qE.1 a,i4,k0⟩
 ·rintro⟨n,a,rfl,b⟩;exact⟨⟨n,qE.2 a,i4⟩,k0⟩
theorem VS(l:az)(k i:Nat)(a:i<i0 (bp l k)):∃n:Nat,n<k/\(bp l k)[i]=(n:Int)/\0<l.getD n 0:=(AJ l k _).1 (qh a)
end Go.Vc
namespace Wl
open Go
def dR(p:Int×Int×Int):Nat:=(p.1*p.2.2).toNat
def xE(a:Nat)(b:ba)(i:Nat):ba:=(b.drop (i*a)).take a++(qg a 0).drop (b.drop (i*a)).length
theorem Ii(a:Nat)(b:ba)(i:Nat):i0 (xE a b i)=a:=by unfold xE;simp;omega
def splitB(p:Int×Int×Int)(b:ba):cw:=(qw (countP p b.length).toNat).map (xE (dR p) b)
def Nu(p:Int×Int×Int)(o b:Int)(n:Nat):Bool:=dK p (ce o b n) (ff p)
def rE(p:Int×Int×Int)(o b:Int):Option Nat:=(qw 16).find? (Nu p o b)
def cX(p:Int×Int×Int)(o:Int):Nat->Option (az)
 |0=>dB []
 |n+1=>(cX p o n).bind λl=>(rE p o n).map λt=>l++[(t:Int)]
theorem jc{p:Int×Int×Int}{o:Int}:∀{n:Nat} {l:az},cX p o n=dB l->i0 l=n
 |0,l,h=>by cases h;rfl
 |n+1,l,h=>by
  unfold cX at h;cases h1:cX p o n with
  |none=>rw[h1]at h;cases h
  |some k=>
   rw[h1]at h;cases h2:rE p o n with
   |none=>rw[h2]at h;cases h
   |some t=>
    rw[h2]at h;have h:dB (k++[(t:Int)])=dB l:=h;injection h with h
    rw[<-h,qy,jc h1];rfl
theorem Ij{p:Int×Int×Int}{o b:Int}{t:Nat}(h:rE p o b=dB t):t<16/\Nu p o b t=eR/\∀k,k<t->Nu p o b k=eS:=by
 unfold rE at h;obtain⟨e,us,vs,c,h3⟩:=List.find?_eq_some_iff_append.1 h;have d:=congrArg vA c;have f:t=i0 us:=by
  have:(qw 16)[i0 us]?=dB t:=by rw[c,qj (qk _),zc];rfl
  rw[zu k4]at this;injection this with this;exact this.symm
 refine⟨k4,e,λk g=>?_⟩;have a:k∈us:=by
  have:(qw 16)[k]?=us[k]?:=by rw[c,qo i5]
  rw[zu k4]at this;exact w4 this.symm
 simpa using h3 k a
theorem BY{p:Int×Int×Int}{o:Int}:∀{n:Nat} {l:az},cX p o n=dB l->∀i (b:i<i0 l),∃t:Nat,l[i]=(t:Int)/\rE p o i=dB t
 |0,l,h=>by cases h;intro i b;simp at b
 |n+1,l,h=>by
  unfold cX at h;cases h1:cX p o n with
  |none=>rw[h1]at h;cases h
  |some k=>
   rw[h1]at h;cases h2:rE p o n with
   |none=>rw[h2]at h;cases h
   |some t=>
    rw[h2]at h;have h:dB (k++[(t:Int)])=dB l:=h;injection h with h
    subst h;intro i b;have c:=jc h1;by_cases a:i<i0 k
    ·rw[List.getElem_append_left a];exact BY h1 i a
    ·have:i=i0 k:=by simp at b;omega
     subst this;refine⟨t,jj,?_⟩;rw[c];exact h2
end Wl
namespace Go.Qw
open Go Go.Vc Go.Proofs Wl
theorem Ik(p:Pm)(h:f8)(c:bB p=eR):ab xt 106 #[lu p] h λv h'=>v=xi xo (dR p)/\Sp h h' []:=by
 have d:=(bZ p).1 c;refine Dn p ?_;unfold Av;refine(Sp.refl h).boxed λf h3 a=>⟨p.1,(a.box 0 i4).cell0 i4,p.2.2,(a.box 0 i4).cell i4,?_,a.cE []⟩
 have e:p.1*p.2.2<=16*24:=yn i5 i5 i5 i5;have b:0<=p.1*p.2.2:=vD i5 i5;rw[ak _];unfold dR;congr 1;omega
theorem lQ{p:Pm}(b:bB p=eR):1<=dR p/\dR p<=384/\(dR p:Int)=p.1*p.2.2:=by have c:=(bZ p).1 b;have d:p.1*p.2.2<=16*24:=yn i5 i5 i5 i5;have a:0<p.1*p.2.2:=Int.mul_pos i5 i5;unfold dR;omega
theorem mJ{p:Pm}(a:bB p=eR)(n:Nat):0<=countP p n/\countP p n<=n/\∀i:Nat,(i:Int)<countP p n->i*dR p<n:=by
 obtain⟨d,g,b⟩:=lQ a;unfold countP;rw[a,zJ];by_cases h0:0<(n:Int)
 ·rw[g9 h0,f9 i4,<-b];have e:((n:Int)-1)/(dR p:Int)<=n-1:=Int.ediv_le_self _ i5;have f:0<=((n:Int)-1)/(dR p:Int):=Int.ediv_nonneg i5 i5;refine⟨i5,i5,λi c=>?_⟩;have h3:(i:Int)<=((n:Int)-1)/(dR p:Int):=i5
  have h:=(Int.le_ediv_iff_mul_le i5).1 h3;have j:((i*dR p:Nat):Int)=(i:Int)*(dR p:Int):=wu i (dR p);omega
 ·rw[hZ h0,g0 i6];exact⟨i5,i5,λi c=>i5⟩
theorem VT(p:Pm)(s:Sl)(b:ba)(h:f8)(f:bB p=eR)(m:Rd h s 1 aD b)(B:s.len<=s.cap)(P:i0 b<=2^30):ab xt 107 #[lu p,s] h λv h'=>∃r:Sl,v=r/\Sp h h' [fa r (splitB p b)]:=by
 refine ML p s ?_;unfold FJ;have c:=m.len;obtain⟨R,T,O⟩:=lQ f;obtain⟨S,V,c3⟩:=mJ f b.length;refine(Sp.refl h).boxed λk G q=>?_;refine⟨p,(q.box 0 i4).aS _ i4,?_⟩;refine(xD p s.len G).mono ?_;rintro _ L ⟨rfl,x⟩;have K:=q.up x.ag;refine⟨_,i4,?_⟩;obtain⟨n,E⟩:∃n:Nat,n=(countP p b.length).toNat:=⟨_,rfl⟩
 have d:(countP p (s.len:Nat))=(n:Int):=by rw[c];omega
 rw[d];have N:i0 (splitB p b)=n:=by unfold splitB;rw[<-E];simp
 have a:Sp h L [fa ⟨eH,0,0⟩ ((splitB p b).take 0),ao k 24 [xi xo p.1,xi xo p.2.1,xi xo p.2.2]]:=K.Aa 34 5 1 aD;refine aw (λt:Sl×Nat=>(t.1,(t.2:Int))) (λt h'=>t.2<=n/\Sp h h' [fa t.1 ((splitB p b).take t.2),ao k 24 [xi xo p.1,xi xo p.2.1,xi xo p.2.2]]) (λt=>n-t.2) (⟨eH,0,0⟩,0) i4 ⟨jj,a⟩ ?_;rintro⟨o,i⟩ h3 ⟨W,a⟩;dsimp only at*;refine ai (λe=>?_) (λe=>?_)
 ·have I:i<n:=i5
  have J:=c3 i (by rw[<-c,d];omega);refine⟨p,(a.box 1 i4).aS _ i4,(Ik p h3 f).mono ?_⟩;rintro _ U ⟨rfl,y⟩;have A:=a.up y.ag;refine⟨_,i4,A.LZ ac aD gz i6 (0:UInt8) i4 i4 (dR p) (dR p) i4 i4 (qk _) i5 λv M X Q g=>?_⟩;have g:=g.bw;refine⟨p,(g.box 2 i4).aS _ i4,(Ik p M f).mono ?_⟩;rintro _ Y ⟨rfl,H⟩;have l:=g.up H.ag;refine⟨_,i4,?_⟩;have em:qc xo ((i:Int)*(dR p:Int))=((i*dR p:Nat):Int):=by rw[<-wu,ak _]
  dsimp only;rw[em,qm];refine⟨⟨i5,i5⟩,?_⟩;have F:=(Seq.up m l.ag).drop (i*dR p) B;refine l.LY ac 0 i4 gz (λ_=>rfl) (v:=⟨_,s.len-i*dR p,s.cap-i*dR p⟩) F gV λ_ D j=>?_;have j:Sp h D [al 5 v 1 aD (xE (dR p) b i),fa o ((splitB p b).take i),ao k 24 [xi xo p.1,xi xo p.2.1,xi xo p.2.2]]:=by simpa[xE]using j
  refine(j.aZ 2 [1,0]).Eg ac fx i9 λz h8 w=>?_;refine⟨(z,i+1),js,⟨i7,?_⟩,i7⟩;dsimp only;rw[aG _ _ (show i<i0 (splitB p b) by omega)];have u:(splitB p b)[i]'(by omega)=xE (dR p) b i:=by simp[splitB]
  rw[u];exact w
 ·rw[qi i5]at a;exact⟨o,i4,a.cE [0]⟩
theorem oA(a b:UInt8):qc xp ((qF (ql xp) (a.toNat:Int)^^^qF (ql xp) (b.toNat:Int)).toNat:Nat)=((a^^^b).toNat:Int):=by
 have e:∀a:UInt8,qF (ql xp) (a.toNat:Int)=a.toBitVec:=λa=>by
  apply BitVec.eq_of_toNat_eq;have:=wQ a;simp[ql]
 rw[e,e];have c:=(a.toBitVec^^^b.toBitVec).isLt;have:((a^^^b).toNat:Int)=((a.toBitVec^^^b.toBitVec).toNat:Int):=rfl;rw[this];show(((a.toBitVec^^^b.toBitVec).toNat:Nat):Int)%256=_;have:(a.toBitVec^^^b.toBitVec).toNat<256:=c;omega
def tri(a:UInt8):Nat->Int×Int×Int
 |0=>((a.toNat:Int),(3:Int),(0:Int))
 |1=>(((Gf.x2 a).toNat:Int),(1:Int),(a.toNat:Int))
 |_=>(((Gf.x2 (Gf.x2 a)).toNat:Int),(0:Int),((Gf.x3 a).toNat:Int))
theorem VU(a:UInt8)(h:f8):ab xt 205 #[xi xp a.toNat,xi xp 3] h λv h'=>v=xi xp (Gf.x3 a).toNat/\h'=h:=by
 have e:∀n:Nat,n<256->
   ((qc xp ((qF (ql xp) (n:Int)&&&(qF (ql xp) (128:Int))).toNat:Nat)) !=(0:Int))=eR->qc xp ((qF (ql xp) (qc xp ((n:Int)*2^min (1:Int).toNat (ql xp)))^^^(qF (ql xp) (27:Int))).toNat:Nat)=((Gf.x2 (yB n)).toNat:Int):=j6
 have c:∀n:Nat,n<256->
   ((qc xp ((qF (ql xp) (n:Int)&&&(qF (ql xp) (128:Int))).toNat:Nat)) !=(0:Int))=eS->qc xp ((n:Int)*2^min (1:Int).toNat (ql xp))=((Gf.x2 (yB n)).toNat:Int):=j6
 refine TM _ _ ?_;unfold Na;refine aw (tri a) (λt h'=>h'=h/\t<=2) (λt=>2-t) 0 i4 ⟨i4,i5⟩ ?_;rintro t h' ⟨rfl,f⟩;rcases(show t=0∨t=1∨t=2 by omega)with rfl|rfl|rfl
 ·rw[show tri a 0=((a.toNat:Int),(3:Int),(0:Int))from rfl];dsimp only;refine xY i6 (bj (GC i6 ?_));refine⟨i6,bj ?_⟩;refine bD (λd=>?_) (λd=>?_)
  ·rw[e _ (wQ a) d,yP];refine⟨i6,1,?_,⟨i4,i6⟩,i6⟩;have:=oA 0 a;simp only[wq]at this;exact y5 i4 (y5 i4 this)
  ·rw[c _ (wQ a) d,yP];refine⟨i6,1,?_,⟨i4,i6⟩,i6⟩;have:=oA 0 a;simp only[wq]at this;exact y5 i4 (y5 i4 this)
 ·rw[show tri a 1=(((Gf.x2 a).toNat:Int),(1:Int),(a.toNat:Int))from rfl];dsimp only;refine xY i6 (bj (GC i6 ?_));refine⟨i6,bj ?_⟩;refine bD (λd=>?_) (λd=>?_)
  ·rw[e _ (wQ (Gf.x2 a)) d,yP];refine⟨i6,2,?_,⟨i4,i6⟩,i6⟩;refine y5 i4 (y5 i4 ?_);have:=oA a (Gf.x2 a);rw[vj]at this;exact this
  ·rw[c _ (wQ (Gf.x2 a)) d,yP];refine⟨i6,2,?_,⟨i4,i6⟩,i6⟩;refine y5 i4 (y5 i4 ?_);have:=oA a (Gf.x2 a);rw[vj]at this;exact this
 ·exact GC (b:=(0:Int)==0) i6 ⟨i4,i4⟩
def jK:az:=(qw 255).map λi=>((Gf.pw i).toNat:Int)
def sM:az:=(qw 256).map λx=>if x=0 then 0 else((Gf.lg (yB x):Nat):Int)
theorem ij:i0 jK=255:=by simp[jK]
theorem AK:i0 sM=256:=by simp[sM]
def cV:bc:=jK.map (Sc.enc (.int .u8))++sM.map (Sc.enc (.int .i64))
abbrev fI(h:f8)(a:fz):Prop:=cv h a 197 cV
theorem Po(k:IntKind)(l:az):(l.map (Sc.enc (.int k))).all (·.oneCell')=eR:=by rw[List.all_map,qL];intro x _;rfl
theorem VV(h:f8):ab xt 132 #[] h λv h'=>v=xn (jK.map (Sc.enc (.int .u8))).toArray/\Sp h h' []:=by
 refine Rr ?_;unfold Kf;refine(Sp.refl h).alloc ac i4 λa q p=>?_;refine aw (λi:Nat=>(((Gf.pw i).toNat:Int),(i:Int))) (λi h'=>i<=255/\Sp h h' [ao a 192 (((qw 255).map λj=>if j<i then((Gf.pw j).toNat:Int)else 0).map (Sc.enc (.int .u8)))]) (λi=>255-i) 0 i4 ⟨i5,?_⟩ ?_
 ·have e:((qw 255).map λj=>if j<0 then((Gf.pw j).toNat:Int)else 0).map (Sc.enc (.int .u8))=qg 255 (xi xp 0):=by simp;rfl
  rw[e];exact p
 ·rintro i r ⟨t,g⟩;refine ai (λn=>?_) (λk=>?_)
  ·dsimp only at n;refine⟨⟨i7,i7⟩,?_⟩;dsimp only;rw[show((i:Int).toNat*1)=i by omega];refine g.storeAt ac 0 i4 i4 i4 i4 i4 i9 λh3 f=>?_;refine(VU (Gf.pw i) h3).mono ?_;rintro v s ⟨rfl,rfl⟩;refine⟨_,i4,i+1,?_,⟨i5,?_⟩,i5⟩
   ·rw[ak _];rfl
   ·have e:((((qw 255).map λj=>if j<i then((Gf.pw j).toNat:Int)else 0).map (Sc.enc (.int .u8))).set i (xi xp (Gf.pw i).toNat))=(((qw 255).map λj=>if j<i+1 then((Gf.pw j).toNat:Int)else 0).map (Sc.enc (.int .u8))):=by
     apply zO;intro j;simp only[zd,qS,qA,zx];by_cases b:i=j
     ·subst b;have:i<255:=i5
      simp[this]
     ·by_cases d:j<255
      ·simp only[b,if_false,zu d,qT];by_cases c:j<i
       ·rw[f9 c,f9 i5]
       ·rw[g0 c,g0 i5]
      ·simp[b,d]
    rw[<-e];exact f
  ·have l:i=255:=by dsimp only at k;omega
   subst l;have e:((qw 255).map λj=>if j<255 then((Gf.pw j).toNat:Int)else 0)=jK:=by unfold jK;apply List.map_congr_left;intro j b;rw[f9 (qE.1 b)]
   rw[e]at g;have o:=g.box 0 i4;refine⟨jK,⟨ij,o.aS _ n3⟩,?_⟩;refine g.storeAll ac 0 i4 i4 (jK.map (Sc.enc (.int .u8))) i4 (by rw[qA,ij]) (Po _ _) i4 λh3 f=>?_;have m:=f.box 0 i4;exact⟨jK,⟨ij,m.aS _ n3⟩,i4,.zip f.ag⟩
theorem abg(h:f8):ab xt 133 #[xn (jK.map (Sc.enc (.int .u8))).toArray] h λv h'=>v=xn (sM.map (Sc.enc (.int .i64))).toArray/\Sp h h' []:=by
 refine VE jK ?_;unfold Qd;refine(Sp.refl h).boxed λa B u=>?_;refine u.alloc ac i4 λz D q=>?_;have o:=q.box 0 i4;refine⟨jK,⟨ij,o.aS _ (by show List.take _ (jK.map _)=_;rw[qi (qk _)])⟩,?_⟩;let L:Nat->az:=λi=>(qw 256).map λx=>if x≠0/\Gf.lg (yB x)<i then((Gf.lg (yB x):Nat):Int)else 0
 refine aw (λi:Nat=>(i:Int)) (λi h'=>i<=255/\Sp h h' [emp,ao z 194 ((L i).map (Sc.enc (.int .i64)))]) (λi=>255-i) 0 i4 ⟨i5,?_⟩ ?_
 ·have e:(L 0).map (Sc.enc (.int .i64))=qg 256 (xi xo 0):=by simp[L];rfl
  rw[e];exact q.gg 0 i4 λ_ _=>trivial
 ·rintro i h3 ⟨E,k⟩;refine ai (λy=>?_) (λs=>?_)
  ·have c:i<255:=i5
   have p:=wQ (Gf.pw i);refine⟨((Gf.pw i).toNat:Int),⟨i5,i5,by simp[jK,c]⟩,⟨i5,i5⟩,?_⟩;rw[show(((Gf.pw i).toNat:Int).toNat*1)=(Gf.pw i).toNat by omega];refine k.storeAt ac 1 i4 i4 i4 i4 i4 (by simp[L];omega) λw g=>?_;refine⟨i+1,j1,⟨i5,?_⟩,i5⟩;have e:((L i).map (Sc.enc (.int .i64))).set (Gf.pw i).toNat (xi xo i)=(L (i+1)).map (Sc.enc (.int .i64)):=by
    apply zO;intro j;simp only[zd,qS,qA,zx,L];by_cases f:(Gf.pw i).toNat=j
    ·subst f;simp only[if_true,zu p,qT,p];have n:(Gf.pw i).toNat≠0:=λh0=>Gf.XX i c (yy.1 h0);rw[yP,Gf.XW i c,f9 ⟨n,i5⟩]
    ·by_cases d:j<256
     ·simp only[f,if_false,zu d,qT];by_cases b:j=0
      ·simp[b]
      ·have A:Gf.lg (yB j)≠i:=λh0=>by
        apply f;rw[<-h0,Gf.XV _ λt=>b (by have:=congrArg UInt8.toNat t;simpa[yW d]using this)];simp[yW d]
       by_cases l:Gf.lg (yB j)<i
       ·rw[f9 ⟨b,l⟩,f9 ⟨b,i5⟩]
       ·rw[g0 λr=>l r.2,g0 λr=>l i5]
     ·simp[f,d]
   rw[<-e];exact g
  ·have c:i=255:=i5
   subst c;have e:L 255=sM:=by
    unfold sM;apply List.map_congr_left;intro j f;by_cases b:j=0
    ·simp[b]
    ·rw[f9 ⟨b,Gf.Mb _⟩,g0 b]
   rw[e]at k;have o:=k.box 1 i4;refine⟨sM,⟨AK,o.aS _ n3⟩,?_⟩;refine k.storeAll ac 1 i4 i4 (sM.map (Sc.enc (.int .i64))) i4 (by rw[qA,AK]) (Po _ _) i4 λw g=>?_;have m:=g.box 1 i4;exact⟨sM,⟨AK,m.aS _ n3⟩,i4,.zip g.ag⟩
theorem rF(h:f8):ab xt 65 #[] h λv h'=>∃a:fz,v=xk (dB a)/\Sp h h' [ao a 197 cV]:=by
 refine YA ?_;unfold Tv;refine(VV h).mono ?_;rintro v r ⟨rfl,o⟩;refine⟨jK,i4,?_⟩;refine o.alloc ac i4 λa s p=>?_;refine p.storeAll ac 0 i4 i4 (jK.map (Sc.enc (.int .u8))) i4 (by rw[qA,ij]) (Po _ _) (by rw[qA,ij];rfl) λh3 g=>?_;have j:=g.box 0 i4;have c:an h3 a 0 (jK.map (Sc.enc (.int .u8))):=j.aS _ n3;refine⟨jK,⟨ij,c⟩,jK,⟨ij,c⟩,?_⟩;refine(abg h3).mono ?_;rintro v t ⟨rfl,f⟩;refine⟨sM,i4,oe.2 ⟨(f.ag).cells j.lt c,trivial⟩,_,GG ac (i:=_) i4 i4 i4 (cells:=cV.toArray) ?_,?_⟩
 ·have b:∀z:bc,i0 z=511->wy (λn=>[(0,255),(255,256)][n]?) z.toArray [(0,xn (jK.map (Sc.enc (.int .u8))).toArray),(1,xn (sM.map (Sc.enc (.int .i64))).toArray)]=dB cV.toArray:=by
   intro z b;have e:z=[]++z.take 255++z.drop 255:=jj
   conv=>lhs;rw[e]
   rw[Sy (vs:=jK.map (Sc.enc (.int .u8))) i4 (by simp[ij]) (by simp[ij,b])];have e2:[]++jK.map (Sc.enc (.int .u8))++z.drop 255=jK.map (Sc.enc (.int .u8))++z.drop 255++[]:=jj
   rw[e2,Sy (vs:=sM.map (Sc.enc (.int .i64))) i4 (by simp[ij,AK]) (by simp[AK,b])];simp[wy,cV]
  exact b _ i4
 ·have m:(Value.agg cV.toArray).cells.toList=cV:=rfl;refine(g.comp f).boxed λq u k=>?_;have d:=k.box 0 i4;exact⟨oe.2 ⟨d.aS _ n3,trivial⟩,q,i4,k.take 1 λi A l=>by cases i with|zero=>exact l|succ i=>simp at l⟩
theorem Il{h:f8}{a:fz}(c:fI h a)(n:Nat)(b:n<255):f7 h (a.add n)=dB (xi xp (Gf.pw n).toNat):=
 c.cell (by rw[cV,qo (by simp[ij,b])];simp[jK,b])
theorem Im{h:f8}{a:fz}(c:fI h a)(x:UInt8)(f:x≠0):f7 h ((a.add 255).add x.toNat)=dB (xi xo (Gf.lg x)):=by
 have d:=c.addr;have e:(a.add 255).add x.toNat=a.add (255+x.toNat):=by rw[d,add_eq,add_eq,add_eq];congr 1;omega
 rw[e];refine c.cell ?_;have b:=wQ x;have h0:x.toNat≠0:=λh0=>f (yy.1 h0);rw[cV,qj (by simp[ij])];simp[ij,sM,b,h0]
theorem sN(a:fz)(h:f8):ab xt 206 #[xk (dB a)] h λv h'=>v=xk (dB a)/\h'=h:=by refine Lm (dB a) ?_;unfold Dv;exact xY i4 ⟨i4,i4⟩
theorem uF(a:fz)(h:f8):ab xt 203 #[xk (dB a)] h λv h'=>v=xk (dB a)/\h'=h:=by refine TL (dB a) ?_;unfold MZ;exact xY i4 ⟨i4,i4⟩
theorem RD(a:fz)(h:f8):ab xt 302 #[xk (dB a)] h λv h'=>v=xk (dB a)/\h'=h:=by refine TP (dB a) ?_;unfold Ni;exact xY i4 ⟨i4,i4⟩
theorem CH{x:UInt8}:((x.toNat:Int)=0)↔x=0:=⟨λh=>yy.1 j7,λh=>by rw[h];rfl⟩
theorem Lz(a:fz)(x y:UInt8)(h:f8)(d:fI h a):ab xt 280 #[xk (dB a),xi xp x.toNat,xi xp y.toNat] h λv h'=>v=xi xp (Gf.mul x y).toNat/\h'=h:=by
 refine Lq (dB a) _ _ ?_;unfold DD;refine bj ?_;refine de (λh0=>⟨by rw[Gf.mul,f9 (.inl (CH.1 h0))];rfl,i4⟩) λi=>?_;refine de (λh0=>⟨by rw[Gf.mul,f9 (.inr (CH.1 h0))];rfl,i4⟩) λg=>?_;have c:x≠0:=λh0=>i (CH.2 h0);have b:y≠0:=λh0=>g (CH.2 h0);refine(sN a h).mono ?_;rintro v l ⟨rfl,rfl⟩;have k:=wQ x;have j:=wQ y;have l1:=Gf.Mb x;have l2:=Gf.Mb y;refine⟨dB a,i4,a,i4,⟨i5,i5⟩,(Gf.lg x:Int),?_,a,i4,⟨i5,i5⟩,(Gf.lg y:Int),?_,i6,a,i4,?_⟩
 ·rw[show((x.toNat:Int).toNat*1)=x.toNat by omega];exact Im d x c
 ·rw[show((y.toNat:Int).toNat*1)=y.toNat by omega];exact Im d y b
 rw[ak _];have e:wj ((Gf.lg x:Int)+(Gf.lg y:Int)) 255=(((Gf.lg x+Gf.lg y)%255:Nat):Int):=by rw[yG i5];rfl
 rw[e];have f:=yw (Gf.lg x+Gf.lg y) (show 255>0 by decide);refine⟨⟨i5,i5⟩,_,?_,by rw[Gf.mul,g0 (by simp[c,b])],i4⟩;rw[show((((Gf.lg x+Gf.lg y)%255:Nat):Int).toNat*1)=(Gf.lg x+Gf.lg y)%255 by omega];exact Il d _ f
theorem adW(a:fz)(x:UInt8)(h:f8)(d:fI h a):ab xt 251 #[xk (dB a),xi xp x.toNat] h λv h'=>v=xi xp (Gf.inv x).toNat/\h'=h:=by
 refine Lp (dB a) _ ?_;unfold DB;refine de (λh0=>⟨by rw[Gf.inv,f9 (CH.1 h0)];rfl,i4⟩) λf=>?_;have b:x≠0:=λh0=>f (CH.2 h0);refine(sN a h).mono ?_;rintro v i ⟨rfl,rfl⟩;have g:=wQ x;have l1:=Gf.Mb x;refine⟨dB a,i4,a,i4,⟨i5,i5⟩,(Gf.lg x:Int),?_,i6,a,i4,?_⟩
 ·rw[show((x.toNat:Int).toNat*1)=x.toNat by omega];exact Im d x b
 rw[ak _];have e:wj (255-(Gf.lg x:Int)) 255=(((255-Gf.lg x)%255:Nat):Int):=by rw[yG i5];omega
 rw[e];have c:=yw (255-Gf.lg x) (show 255>0 by decide);refine⟨⟨i5,i5⟩,_,?_,by rw[Gf.inv,g0 b],i4⟩;rw[show((((255-Gf.lg x)%255:Nat):Int).toNat*1)=(255-Gf.lg x)%255 by omega];exact Il d _ c
theorem adX(a:fz)(n:Int)(h:f8)(g:fI h a):ab xt 137 #[xk (dB a),xi xo n] h λv h'=>v=xi xp (Gf.pw (n%255).toNat).toNat/\h'=h:=by
 refine Li (dB a) n ?_;unfold Dq;have j:=vw n (show(0:Int)<255 by decide);have i:-255<n.tmod 255:=Int.lt_tmod_of_pos n i6;have b:=Sx n 255 i6;have d:=Int.emod_nonneg n (show(255:Int)≠0 by decide);have f:=Int.emod_lt_of_pos n (show(0:Int)<255 by decide);refine⟨i6,bY (λs h'=>s=n%255/\h'=h) ?_ ?_⟩
 ·refine ai (λc=>?_) (λe=>?_)
  ·rw[f9 c]at b;exact⟨by rw[ak _,b],i4⟩
  ·rw[g0 e]at b;exact⟨b.symm,i4⟩
 ·rintro s h' ⟨rfl,rfl⟩;refine(sN a h').mono ?_;rintro v i ⟨rfl,rfl⟩;refine⟨dB a,i4,a,i4,⟨d,f⟩,_,?_,i4,i4⟩;rw[wF];exact Il g _ i5
theorem kz(p:Pm)(h:f8):ab xt 21 #[lu p] h λv h'=>v=xi xo (bE p)/\Sp h h' []:=by refine Ts p ?_;unfold Mr;refine(Sp.refl h).boxed λa f d=>?_;refine⟨p,(d.box 0 i4).aS _ i4,?_⟩;refine(dW p f).mono ?_;rintro v i ⟨rfl,g⟩;have b:=d.comp g;have c:=b.box 0 i4;refine⟨_,i4,bh (λe=>⟨by simp[bE,e],.zip b.ag⟩) λe=>?_⟩;refine⟨_,c.cell0 i4,_,c.cell i4,?_,.zip b.ag⟩;have:=(bZ p).1 e;rw[ak _,bE,f9 e]
theorem abh(n i:Int)(h:f8):ab xt 136 #[xi xo n,xi xo i] h λv h'=>∃s:Sl,v=s/\
  Sp h h' [al 5 s 1 aD (if 1<=n/\n<=64/\0<=i/\i<n then(qg n.toNat (0:UInt8)).set i.toNat 1 else[])]:=by
 refine TG n i ?_;unfold MO;have a:∀c:Prop,¬c->[Decidable c]->Sp h h [al 5 ⟨eH,0,0⟩ 1 aD (if c then(qg n.toNat (0:UInt8)).set i.toNat 1 else[])]:=λc b _=>by
  rw[g0 b];exact(Sp.refl h).nil 5 1 aD
 refine bj ?_;refine ai (λe=>⟨⟨eH,0,0⟩,i4,a _ i5⟩) λk=>?_;refine ai (λe=>⟨⟨eH,0,0⟩,i4,a _ i5⟩) λe2=>?_;refine ai (λe=>⟨⟨eH,0,0⟩,i4,a _ i5⟩) λg=>?_;refine ai (λe=>⟨⟨eH,0,0⟩,i4,a _ i5⟩) λo=>?_;refine(Sp.refl h).make ac aD ⟨_,_,i4,i4,i4,i4,i4,i4⟩ i6 0 i4 i4 n.toNat n.toNat i5 i5 (qk _) i5 λs l j b d=>?_;refine d.set ac 0 i4 (λ_=>rfl) i4 i.toNat i5 i9 1 i4 i4 i4 λm f=>?_;refine⟨s,i4,?_⟩;rw[f9 i5];exact f
theorem RE(s:Int)(h:f8):ab xt 223 #[xi xq s] h λv h'=>∃a:fz,v=xk (dB a)/\Sp h h' [ao a 344 [xi xr (qc xr s)]]:=by refine TO s ?_;unfold Nc;exact(Sp.refl h).boxed λa c b=>⟨a,i4,b⟩
theorem DM(a:fz)(s:Int)(h:f8)(d:cv h a 344 [xi xr s]):ab xt 224 #[xk (dB a)] h λv h'=>v=xi xq (told s)/\cv h' a 344 [xi xr (Ft s)]/\aY (·≠a.block) h h':=by refine HT (dB a) ?_;unfold AE;refine xY i4 ⟨a,i4,s,d.cell0 i4,a,i4,?_⟩;refine Ed ac d i4 _ i4 i4 i4 (qk _) λe b c _=>?_;exact⟨a,i4,_,b.cell0 i4,i6,i4,b,c⟩
theorem Nv(a:fz)(s n:Int)(h:f8)(d:cv h a 344 [xi xr s])(g:0<n:=by omega)(f:n<=2^62:=by omega):ab xt 282 #[xk (dB a),xi xo n] h λv h'=>v=xi xo (mF s n)/\cv h' a 344 [xi xr (Ft s)]/\aY (·≠a.block) h h':=by refine Gs (dB a) n ?_;unfold vC;refine bj (xY i4 (ai (λe=>i5) λ_=>?_));refine(DM a s h d).mono ?_;rintro v i ⟨rfl,b,c⟩;exact⟨_,i4,o4,i4,b,c⟩
theorem Xu(a b:Nat)(c:a<=2^40)(d:b<=2^40):qc xo ((a:Int)+(b:Int))=((a+b:Nat):Int):=by rw[ak _];rfl
theorem abi(l:Nat)(h:f8)(f:l<=20):ab xt 316 #[xi xo l] h λv h'=>v=xi xo (fE l)/\h'=h:=by
 have i:∀l:Nat,l<=20->∀r:Nat,r<=5->(∀j,j<r->j*j<l)->r*r<l->r<5:=i6
 have m:∀l:Nat,l<=20->∀r:Nat,r<=5->(∀j,j<r->j*j<l)->¬r*r<l->r=fE l:=i6
 refine Lr l ?_;unfold DE;refine aw (λr:Nat=>(r:Int)) (λr h'=>h'=h/\r<=5/\∀j,j<r->j*j<l) (λr=>5-r) 0 i4 ⟨i4,i5,λj c=>i5⟩ ?_;rintro r h' ⟨rfl,d,c⟩;have n:r*r<=25:=Nat.mul_le_mul d d;have e:qc xo ((r:Int)*(r:Int))=((r*r:Nat):Int):=by rw[<-wu];exact wb _
 rw[e];refine ai (λk=>?_) (λg=>?_)
 ·have a:r*r<l:=i5
  have o:=i l f r d c a;refine⟨r+1,j1,⟨i4,i5,λj b=>?_⟩,i5⟩;rcases Nat.lt_succ_iff_lt_or_eq.1 b with b|rfl
  ·exact c j b
  ·exact a
 ·exact⟨by rw[m l f r d c i5],i4⟩
theorem abj(r:Nat)(h:f8)(a:r<=5):ab xt 187 #[xi xr r] h λv h'=>v=xi xo (Jb r)/\h'=h:=by
 intro w b;refine(Tryz.bits_Len (r:Int) w i5 i5).mono ?_;rintro e w' ⟨rfl,rfl⟩;have k:∀r:Nat,r<=5->Lib.bitLen r=Jb r:=j6
 exact⟨_,i4,dm.refl _,by rw[qm,k r a],b⟩
theorem VW(l k:Nat)(h:f8)(b:l<=20)(a:1<=l)(d:k<=20)(f:1<=k):ab xt 283 #[xi xo l,xi xo k] h λv h'=>v=xi xo (su l k)/\h'=h:=by
 have w:∀k:Nat,k<=20->1<k->qc xo ((k:Int)*qc xo ((k:Int)-1))=((k*(k-1):Nat):Int)/\k*(k-1)≠0:=i6
 have y:∀l:Nat,l<=20->1<=l->1<=fE l/\fE l<=5:=i6
 have c3:∀l:Nat,l<=20->1<=l->qc xo (yc (l:Int) (fE l))=((l/fE l:Nat):Int):=i6
 have o:∀l:Nat,l<=20->1<=l->∀k:Nat,k<=20->1<=k->qc xo ((l:Int)*k)≠0:=j6
 have t:∀k:Nat,k<=20->1<k->qc xo (yc (1048576:Int) (qc xo ((k:Int)*qc xo ((k:Int)-1))))=((1048576/(k*(k-1)):Nat):Int):=j6
 have r:∀l:Nat,l<=20->1<=l->qc xo (yc (1048576:Int) (l:Int))=((1048576/l:Nat):Int):=j6
 have q:∀l:Nat,l<=20->1<=l->∀k:Nat,k<=20->1<=k->qc xo (yc (qc xo ((1048576:Int)*fE l)) (qc xo ((l:Int)*k)))=((1048576*fE l/(l*k):Nat):Int):=j6
 have j:∀l:Nat,l<=20->1<=l->qc xo (yc (qc xo ((qc xo ((1048576:Int)*fE l))*Jb (fE l))) (l:Int))=((1048576*fE l*Jb (fE l)/l:Nat):Int):=j6
 have x:∀l:Nat,l<=20->∀k:Nat,k<=20->1048576*fE l/(l*k)<=2^30/\1048576*fE l*Jb (fE l)/l<=2^30/\1048576/(k*(k-1))<=2^30/\1048576/l<=2^30:=j6
 refine HY l k ?_;unfold AG;have i:=x l b k d;refine(abi l h b).mono ?_;rintro v p ⟨rfl,rfl⟩;have n:=y l b a;refine⟨_,i4,i5,bY (λs h'=>s=(((if k>1 then 1048576/(k*(k-1))else 1048576/l):Nat):Int)/\h'=p) ?_ ?_⟩
 ·refine ai (λe=>?_) (λe=>?_)
  ·have:=w k d i5;refine⟨by rw[this.1];omega,by rw[t k d i5,f9 i5],i4⟩
  ·refine⟨by rw[r l b a,g0 i5],i4⟩
 ·rintro s u ⟨rfl,rfl⟩;have z:(if k>1 then 1048576/(k*(k-1))else 1048576/l)<=2^30:=by split<;>first|exact i.2.2.1|exact i.2.2.2
  refine bj ?_;dsimp only;refine⟨show((fE l:Nat):Int)≠0 by omega,?_⟩;rw[c3 l b a];refine ai (λe=>⟨o l b a k d f,?_,i4⟩) (λe=>?_)
  ·rw[q l b a k d f,Xu _ _ i5 (za i.1 i6),su,f9 (c:=k<l/fE l) (Int.ofNat_lt.1 e)]
  ·refine de (λe2=>?_) (λe2=>?_)
   ·have m:qc xr (fE l:Int)=(fE l:Int):=o4
    rw[m];refine(abj (fE l) u n.2).mono ?_;rintro v h3 ⟨rfl,rfl⟩;refine⟨_,i4,i5,?_,i4⟩;rw[j l b a,Xu _ _ i5 (za i.2.1 i6),su,g0 (c:=k<l/fE l) λg=>e (Int.ofNat_lt.2 g),f9 (c:=k=l/fE l) (vZ.1 e2)]
   ·exact⟨by rw[su,g0 (c:=k<l/fE l) λg=>e (Int.ofNat_lt.2 g),g0 (c:=k=l/fE l) λg=>e2 (vZ.2 g),Nat.add_zero],i4⟩
theorem YL(l:Nat)(h:f8)(a:l<=20)(c:1<=l):ab xt 226 #[xi xo l] h λv h'=>∃s:Sl,v=s/\Sp h h' [al 3 s 1 aq (kc l)]:=by
 refine JI l ?_;unfold BV;refine bj (ai (λe=>i5) λ_=>ai (λe=>i5) λ_=>?_);refine(Sp.refl h).make ac aq gm i6 0 i4 i4 0 l i4 i4 i5 i5 λs p j o g=>?_;refine aw (λt:Sl×Nat=>(t.1,((ne l t.2:Nat):Int),((t.2+1:Nat):Int))) (λt h'=>t.2<=l/\Sp h h' [al 3 t.1 1 aq ((kc l).take t.2)]) (λt=>l-t.2) (s,0) i4 ⟨jj,k9⟩ ?_;rintro⟨s,k⟩ i ⟨q,b⟩;dsimp only at*;refine ai (λe=>?_) (λe=>?_)
 ·refine(VW l (k+1) i a c i5 i5).mono ?_;rintro v h3 ⟨rfl,rfl⟩;refine⟨_,i4,?_⟩;have r:=Jc l a k i5;have n:=Mc l a (k+1) i5;have e2:qc xo ((ne l k:Int)+(su l (k+1):Int))=((ne l (k+1):Nat):Int):=by rw[ak _,ne];rfl
  dsimp only;rw[e2];refine b.push ac 0 i4 gm i4 i6 (λ_=>rfl) fN _ i4 i6 o8 λm u f=>?_;refine⟨(m,k+1),js,⟨i7,?_⟩,i7⟩;have d:(kc l).take (k+1)=(kc l).take k++[((ne l (k+1):Nat):Int)]:=by rw[aG _ _ rb];simp[kc]
  dsimp only;rw[d];exact f
 ·refine⟨s,i4,?_⟩;rw[qi rb]at b;exact b
theorem VX{p:aB}(t:Sl)(lt:az)(x b:Int)(h:f8)(g:Seq h p t 1 aq lt)(s:0<=x)(a:lt.getLast?=dB b)(i:x<b)(r:i0 lt<=2^40):
  ab xt 281 #[t,xi xo x] h λv h'=>v=xi xo (XY lt x)/\h'=h:=by
 refine HX t x ?_;unfold AF;have q:=g.len;have f:lt≠[]:=λe=>by rw[e]at a;cases a
 have n:0<i0 lt:=List.length_pos_iff.2 f;have c:lt[i0 lt-1]=b:=by rw[List.getLast?_eq_getElem?,qd i5]at a;simpa using a
 refine bj (de (λe=>i5) λ_=>ai (λe=>i5) λ_=>?_);rw[ak _];refine g.bC (i0 lt-1) i5 i5 _ i4 ?_;rw[c];refine ai (λe=>i5) λ_=>?_;have d:(lt.findIdx λy=>decide (y>x))<i0 lt:=List.findIdx_lt_length_of_exists ⟨b,List.mem_of_getLast? a,by simpa using i⟩;refine aw (λk:Nat=>(k:Int)) (λk h'=>h'=h/\k<=(lt.findIdx λy=>decide (y>x))) (λk=>i0 lt-k) 0 i4 ⟨i4,i5⟩ ?_;rintro k h' ⟨rfl,m⟩;refine ai (λe=>?_) (λe=>i5);have j:k<i0 lt:=i5
 refine g.bC k i4 j _ i4 ?_;rw[ak _];refine ai (λe2=>?_) (λe2=>?_)
 ·have:(lt.findIdx λy=>decide (y>x))=k:=Nat.le_antisymm (Nat.le_of_not_lt λl=>by have:=List.not_of_lt_findIdx l;simp at this;omega) m;exact⟨by rw[XY,this];rfl,i4⟩
 ·refine⟨k+1,i4,⟨i4,?_⟩,i5⟩;refine Nat.lt_of_le_of_ne m λo=>?_;have:=List.findIdx_getElem (xs:=lt) (p:=λy=>decide (y>x)) (w:=d);simp only[<-o]at this;simp at this;omega
theorem JK(t:Sl)(n:Nat)(a:fz)(s:Int)(h:f8)(g:Seq h (·≠a.block) t 1 aq (kc n))(o:cv h a 344 [xi xr s])(c:1<=n)(f:n<=20):
  ab xt 225 #[t,xk (dB a)] h λv h'=>v=xi xo (Jd s n)/\cv h' a 344 [xi xr (Ft s)]/\aY (·≠a.block) h h':=by
 refine Ln t (dB a) ?_;unfold Dx;have j:=g.len;rw[mj]at j;refine de (λe=>i5) λ_=>?_;rw[ak _];refine g.bC (n-1) i5 rb _ i4 ?_;have k:(kc n)[n-1]'(by rw[mj];omega)=((ne n n:Nat):Int):=by simp only[kc,List.getElem_map,List.getElem_range];rw[show n-1+1=n by omega]
 rw[k];have p:=SJ n f c;have m:=Jc n f n f;refine(Nv a s _ h o).mono ?_;rintro v l ⟨rfl,i,d⟩;have b:=Ad s (ne n n);refine⟨_,i4,(VX t (kc n) _ _ l (g.ag d) b.1 (Md n c) b.2 rb).mono ?_⟩;rintro v q ⟨rfl,rfl⟩;exact⟨_,i4,i4,i,d⟩
theorem abk(a:fz)(s:Int)(n k:Nat)(h:f8)(E:cv h a 344 [xi xr s])(Q:n<=64)(S:k<=n):
  ab xt 227 #[xk (dB a),xi xo n,xi xo k] h λv h'=>∃r:Sl,v=r/\aa (λb=>b<h.size/\¬b=a.block) h h' [ao a 344 [xi xr (gG n s (upto n) k).1],al 3 r 1 aq (Ja s n k)]:=by
 refine Nd (dB a) n k ?_;unfold FV;refine bj (ai (λe=>i5) λ_=>ai (λe=>i5) λ_=>ai (λe=>i5) λ_=>ai (λe=>i5) λ_=>?_);have L:aa (λb=>b<h.size/\¬b=a.block) h h [ao a 344 [xi xr s]]:=.ZV (λb=>b=a.block) (λb o=>by rw[o];exact E.lt) ⟨E,i4⟩;refine L.make ac aq gm i6 0 i4 i4 n n i4 i4 (qk _) i5 λv R O P K=>?_;refine aw (λi:Nat=>(i:Int)) (λi h'=>i<=n/\aa (λb=>b<h.size/\¬b=a.block) h h' [ao a 344 [xi xr s],al 3 v 1 aq ((upto n).take i++qg (n-i) 0)]) (λi=>n-i) 0 i4 ⟨i5,by simpa using K⟩ ?_;rintro i T ⟨U,B⟩;refine ai (λe=>?_) (λe=>?_)
 ·have m:i<n:=i5
  refine B.set ac 1 i4 (λ_=>rfl) i4 i i4 (by simp[gW];omega) (i:Int) i4 i4 i4 λh3 f=>?_;refine⟨i+1,j1,⟨i5,?_⟩,i5⟩;have e2:((upto n).take i++qg (n-i) 0).set i (i:Int)=(upto n).take (i+1)++qg (n-(i+1)) 0:=by
   have x:i0 ((upto n).take i)=i:=by rw[zb,gW];omega
   rw[aG _ _ sb,qZ _ _ i5,x,zc,show n-i=n-(i+1)+1 by omega,ye,zw];simp[upto]
  rw[<-e2];exact f
 ·have m:i=n:=i5
  subst m;have e2:(upto i).take i++qg (i-i) 0=upto i:=by rw[qi sb];simp
  rw[e2]at B;refine aw (λj:Nat=>(j:Int)) (λj h'=>j<=k/\aa (λb=>b<h.size/\¬b=a.block) h h' [ao a 344 [xi xr (gG i s (upto i) j).1],al 3 v 1 aq (gG i s (upto i) j).2]) (λj=>k-j) 0 i4 ⟨i5,B⟩ ?_;rintro j h3 ⟨N,f⟩;have z:=Ae i s (upto i) j;rw[gW]at z;refine ai (λG=>?_) (λG=>?_)
  ·rw[ak _];have c:((i:Int)-(j:Int))=((i-j:Nat):Int):=i5
   rw[c];refine(Nv a _ _ h3 (f.box 0 i4)).mono ?_;rintro w F ⟨rfl,q,y⟩;have l:=f.CW 0 i4 y q;have I:=Ad (gG i s (upto i) j).1 ((i-j:Nat):Int);refine⟨_,i4,?_⟩;dsimp only;rw[ak _,ak _];have J:(j:Int)+mF (gG i s (upto i) j).1 ((i-j:Nat):Int)=((j+(mF (gG i s (upto i) j).1 ((i-j:Nat):Int)).toNat:Nat):Int):=i5
   have d:j+(mF (gG i s (upto i) j).1 ((i-j:Nat):Int)).toNat<(gG i s (upto i) j).2.length:=i5
   rw[J];have g:=l.seq 1 i4 λ_=>rfl;refine g.bC _ i4 d _ i4 ?_;refine g.bC j i4 i5 _ i4 ?_;refine l.set ac 1 i4 (λ_=>rfl) i4 j i4 i5 _ i4 i4 i4 λM A=>⟨trivial,?_⟩
   refine A.set ac 1 i4 (λ_=>rfl) i4 _ i4 n5 _ i4 i4 i4 λV H=>⟨trivial,?_⟩
   refine⟨j+1,i4,⟨i5,?_⟩,i5⟩;rw[gG,td,lG,lG,Go.Vc.getD_lt d,Go.Vc.getD_lt (show j<(gG i s (upto i) j).2.length by omega)];exact H
  ·have D:j=k:=i5
   subst D;refine⟨⟨i5,i5⟩,?_⟩;have t:=f.seq 1 i4 λ_=>rfl;refine(jX ⟨v.ptr,j,v.cap⟩ ((gG i s (upto i) j).2.take j) h3 (t.take j i5) o8).mono ?_;rintro w F ⟨r,rfl,l⟩;refine⟨r,i4,?_⟩;refine(Ql r _ F (l.own 0 i4) o8).mono ?_;rintro w M ⟨rfl,p,u⟩;have A:=(f.comp l).pd 2 i4 u p;exact⟨(),i4,r,i4,A.del 1⟩
theorem BZ(p:Pm)(seed id:Int)(h:f8):ab xt 161 #[lu p,xi xq seed,xi xo id] h λv h'=>∃r:Sl,v=r/\Sp h h' [al 3 r 1 aq (if bB p&&bW id then dw (bE p).toNat seed id else[])]:=by
 refine VF p seed id ?_;unfold Qe;refine(Sp.refl h).boxed λa B F=>?_;refine bj ?_;refine⟨p,(F.box 0 i4).aS _ i4,(dW p B).mono ?_⟩;rintro v u ⟨rfl,G⟩;have s:=F.comp G;have y:(bB p&&bW id)=eS->Sp h u [al 3 ⟨eH,0,0⟩ 1 aq (if bB p&&bW id then dw (bE p).toNat seed id else[])]:=λH=>by
  rw[H];exact(s.nil 3 1 aq).take 1 (λi A f=>by cases i with|zero=>exact f|succ i=>simp at f)
 refine⟨_,i4,bh (λe=>⟨⟨eH,0,0⟩,i4,y n9⟩) λg=>?_⟩;refine ai (λe=>⟨⟨eH,0,0⟩,i4,y ld⟩) λT=>?_;refine ai (λe=>⟨⟨eH,0,0⟩,i4,y ld⟩) λe2=>?_;have hid:bW id=eR:=ld
 rw[g,hid];refine⟨p,(s.box 0 i4).aS _ i4,(kz p u).mono ?_⟩;rintro v h3 ⟨rfl,K⟩;have L:=s.comp K;have P:=(bZ p).1 g;have U:bE p=p.1+p.2.1:=by rw[bE,f9 g]
 obtain⟨n,J⟩:∃n:Nat,bE p=n:=⟨(bE p).toNat,i5⟩
 refine⟨_,i4,?_⟩;dsimp only;rw[J,qm];refine(RE _ h3).mono ?_;rintro v M ⟨d,rfl,z⟩;refine⟨dB d,i4,?_⟩;refine(DM d _ M (z.box 0 i4)).mono ?_;rintro v Q ⟨rfl,o,k⟩;have D:=z.CW 0 i4 k o;refine⟨_,i4,?_⟩;refine(YL n Q i5 i5).mono ?_;rintro v S ⟨t,rfl,j⟩;have c:=D.comp j;refine⟨t,i4,?_⟩;have l:∀b,t.on b->b≠d.block:=λb m V=>by
  have B:=(j.fresh 0 i4).2 b m;have u:=(D.box 0 i4).lt;omega
 refine(JK t n d _ S ((j.own 0 i4).seq (λ_=>rfl) l) (c.box 0 i4) i5 i5).mono ?_;rintro v I ⟨rfl,x,w⟩;have E:=c.CW 0 i4 w x;refine⟨_,i4,?_⟩;refine(abk d _ n _ I (E.box 0 i4) i5 (Af _ n i5 i5)).mono ?_;rintro v h8 ⟨r,rfl,O⟩;have R:=E.call 0 i4 (λb=>b=d.block) (λq N b m=>by rw[m];exact N.2) O;exact⟨r,i4,r,i4,((L.comp R).take 3 λi A f=>by cases i with|zero=>exact f|succ i=>simp at f)⟩
end Go.Qw
