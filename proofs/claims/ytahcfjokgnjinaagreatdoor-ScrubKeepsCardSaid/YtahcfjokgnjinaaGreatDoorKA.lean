/- Lemmas for the proof of the law; no condition. -/
import Derived.Test.YtahcfjokgnjinaaGreatDoorTabS
import Derived.Test.YtahcfjokgnjinaaGreatDoorShelfA
set_option linter.unusedVariables false
set_option linter.unusedSimpArgs false
open Go.Proofs.Tryz renaming prog -> xD
open Go.Value renaming agg -> xy, bool -> xx, int -> xt, pointer -> xv, slice -> xu, string -> xw
open Go.IntKind renaming bits -> qk, i64 -> xz, signed -> va, u32 -> xB, u64 -> xC, u8 -> xA, wrap -> qc
open Option renaming isSome_iff_exists -> vD, some -> zP
open Int renaming fdiv -> qZ, tdiv -> wz, tmod -> wo
open List renaming all_eq_false -> yZ, exists_cons_of_length_eq_add_one -> yF, length -> vL, length_zipWith -> y9, mem_of_getElem? -> yd, range -> qz, replicate -> qh
open BitVec renaming ofInt -> qE, ofNat -> wK
open Prod renaming fst -> qK, snd -> zL
open Go.Instr renaming fill -> wF, storeAt -> qf
open UInt8 renaming ofNat -> yJ, ofNat_toNat -> yY, toNat_lt -> w6
set_option maxRecDepth 100000
open Option renaming some -> dB, none -> eH
open Bool renaming true -> eR, false -> eS
open Go renaming Addr -> eY
open Go.Vc renaming cellOf -> f7, Heap -> f8
open List renaming length -> ii
namespace Go.Vc
open Go Wl
abbrev Cells:=cI
abbrev powC(w:Pow)(l:Int):ba:=[xx w.off,xx w.fuse.isSome,xt xz l,xt xz w.offs]
def Jt(w:Pow)(l:Int):Prop:=∀k,w.fuse=dB k->l=k/\k<2^62
def dv(t:Nat)(a:eY)(w:Pow):HP:=HP.ex λl:Int=>(al a t (powC w l)).and (Jt w l)
variable {B:aA} {h0 h h':f8} {As:List HP} {t:Nat} {a:eY} {w:Pow}
theorem aa.Bh(H:aa B h0 h (dv t a w::As)):∃l,Jt w l/\aa B h0 h (al a t (powC w l)::As):=by obtain⟨l,H⟩:=H.rx;obtain⟨H,b⟩:=H.Hn;exact⟨l,b,H⟩
theorem aa.HV{l:Int}(b:Jt w l)(H:aa B h0 h (al a t (powC w l)::As)):aa B h0 h (dv t a w::As):=
 (H.toHn b).tQ (F:=λl:Int=>(al a t (powC w l)).and (Jt w l)) l
end Go.Vc
namespace Go.Qw
open Go Go.Vc Go.Proofs Wl
variable {B:aA} {h0 h h':f8} {As:List HP} {t:Nat} {a:eY} {w:Pow}
theorem Gd(l:Int)(b:cw h a 121 (powC w l)):aq xD 26 #[xv (dB a)] h λv h'=>v=xx (!w.off)/\h'=h:=by refine EB (dB a) ?_;exact bA (λ_=>⟨a,i0,w.off,b.cell0 i0,i0,i0⟩) λe=>j0
theorem Ml(l:Int)(b:cw h a 121 (powC w l)):aq xD 74 #[xv (dB a)] h λv h'=>v=xt xz w.offs/\h'=h:=by refine Cl (dB a) ?_;exact bA (λe=>j0) λ_=>⟨a,i0,w.offs,b.cell i0,i0,i0⟩
theorem Mm(h:f8):aq xD 33 #[] h λv h'=>∃a,v=xv (dB a)/\Sp h h' [dv 121 a Pow.new]:=by refine Nk ?_;refine(Sp.refl h).boxed λa c b=>⟨a,i0,aa.HV (l:=0) (w:=Pow.new) (λk e=>j0) b⟩
theorem EK(H:aa B h0 h (dv 121 a w::As)):aq xD 127 #[xv (dB a)] h λv h'=>v=xx w.step.1/\aa B h0 h' (dv 121 a w.step.2::As):=by
 obtain⟨l,s,b⟩:=H.Bh;refine Cr (dB a) ?_;refine(Gd l (b.box 0 i0)).mono ?_;rintro _ x ⟨rfl,rfl⟩;refine⟨_,i0,bi (λe=>?_) λe=>?_⟩
 ·have:w.step=(eS,w):=by unfold Pow.step;rw[f9 l7]
  rw[this];exact⟨i0,H⟩
 have g:w.off=eS:=l7
 refine⟨a,i0,_,(b.box 0 i0).cell i0,bi (λe2=>?_) λe2=>?_⟩
 ·have:w.step=(eR,w):=by
   unfold Pow.step;rw[g0 mn];cases d:w.fuse with
   |none=>rfl
   |some k=>rw[d]at e2;cases e2
  rw[this];exact⟨i0,H⟩
 obtain⟨k,d⟩:∃k,w.fuse=dB k:=vD.1 e2;obtain⟨rfl,t⟩:=s k d;have p:powC w (k:Int)=[xx eS,xx eR,xt xz k,xt xz w.offs]:=by simp[powC,g,d]
 rw[p]at b;refine⟨a,i0,_,(b.box 0 i0).cell i0,cy (λo=>?_) λo=>?_⟩
 ·have i:k=0:=i4
  subst i;have m:w.step=(eS,⟨eR,dB 0,qc xz (w.offs+1)⟩):=by unfold Pow.step;rw[g0 mn,d]
  rw[m];refine⟨a,i0,b.jJ an 0 i0 i0 [xx eR] i0 i0 i0 i9 λu n=>?_⟩;refine⟨a,i0,w.offs,(n.box 0 i0).cell i0,a,i0,n.store an 0 i0 i0 3 [xt xz (qc xz (w.offs+1))] i0 i0 i0 (by simp[powC]) λh3 f=>⟨i0,?_⟩⟩;refine aa.HV (l:=((0:Nat):Int)) (λq c=>by cases c;exact⟨i0,i5⟩) ?_;exact f
 ·obtain⟨j,rfl⟩:∃j,k=j+1:=⟨k-1,i4⟩
  have m:w.step=(eR,⟨eS,dB j,w.offs⟩):=by unfold Pow.step;rw[g0 mn,d]
  rw[m];refine⟨a,i0,_,(b.box 0 i0).cell i0,a,i0,b.store an 0 i0 i0 2 [xt xz (qc xz (((j+1:Nat):Int)-1))] i0 i0 i0 (by simp[powC]) λh3 f=>⟨i0,?_⟩⟩;refine aa.HV (l:=(j:Int)) (λq c=>by cases c;exact⟨i0,i4⟩) ?_;rw[af _]at f;have r:((j+1:Nat):Int)-1=(j:Int):=i4
  rw[r]at f;exact f
abbrev Pm:=Int×Int×Int
abbrev kb(p:Pm):Value:=xy #[xt xz p.1,xt xz p.2.1,xt xz p.2.2]
theorem eT(p:Pm)(h:f8):aq xD 73 #[kb p] h λv h'=>v=xx (bM p)/\Sp h h' []:=by refine RY p ?_;refine(Sp.refl h).boxed λa d f=>?_;have e:=f.box 0 i0;have c:Sp h d []:=.zip f.ag;have i:f7 d a=dB (xt xz p.1):=e.cell0 i0;have g:f7 d (a.add 1)=dB (xt xz p.2.1):=e.cell i0;have j:f7 d (a.add 2)=dB (xt xz p.2.2):=e.cell i0;unfold bM;refine⟨_,i,ac (λb=>?_) λb=>⟨o6,c⟩⟩;rw[g9 b];refine⟨_,i,ac (λb=>?_) λb=>⟨o6,c⟩⟩;rw[g9 b];refine⟨_,g,ac (λb=>?_) λb=>⟨o6,c⟩⟩;rw[g9 b];refine⟨_,g,ac (λb=>?_) λb=>⟨o6,c⟩⟩;rw[g9 b];refine⟨_,j,ac (λb=>?_) λb=>⟨o6,c⟩⟩;rw[g9 b];exact⟨_,j,i0,c⟩
abbrev fS:bU C.toAO 22 3 1 [xt xz 0] 8:=⟨_,_,i0,i0,i0,i0,i0,i0⟩
abbrev gU:bU C.toAO 71 5 1 [xt xA 0] 1:=⟨_,_,i0,i0,i0,i0,i0,i0⟩
abbrev fF:bU C.toAO 56 71 1 [xu eH 0 0] 24:=⟨_,_,i0,i0,i0,i0,i0,i0⟩
theorem jF(s:Sl)(l:aw)(h:f8)(a:Rd h s 1 ak l)(f:ii l<=2^30):aq xD 104 #[s] h λv h'=>∃r:Sl,v=r/\Sp h h' [ae 3 r 1 ak l]:=by
 refine uo s ?_;refine bA (λe=>?_) (λe=>?_)
 ·have:=a.isNil e;subst this;exact⟨⟨eH,0,0⟩,i0,(Sp.refl h).nil 3 1 ak⟩
 ·refine(Sp.refl h).lit an ak fS i0 [] i0 i5 i0 λg i b=>?_;refine b.append an 0 i0 fS ⟨_,_,i0,i0⟩ i0 i5 (λ_=>rfl) (a.up b.ag) eJ i7 λd j c=>⟨d,i0,c⟩
theorem fc(s:Sl)(l:aV)(h:f8)(a:Rd h s 1 aD l)(f:ii l<=2^30):aq xD 101 #[s] h λv h'=>∃r:Sl,v=r/\Sp h h' [ae 5 r 1 aD l]:=by
 refine Jd s ?_;refine bA (λe=>?_) (λe=>?_)
 ·have:=a.isNil e;subst this;exact⟨⟨eH,0,0⟩,i0,(Sp.refl h).nil 5 1 aD⟩
 ·refine(Sp.refl h).lit an aD gU i0 [] i0 i5 i0 λg i b=>?_;refine b.append an 0 i0 gU ⟨_,_,i0,i0⟩ i0 i5 (λ_=>rfl) (a.up b.ag) iF i7 λd j c=>⟨d,i0,c⟩
theorem EL{e:TypeId}(s:Sl)(l:aw)(h:f8)(c:Own h e s 1 ak l)(a:ii l<2^40):aq xD 96 #[s] h λv h'=>v=.tuple #[]/\Own h' e s 1 ak (ja l)/\aZ (λb=>¬s.on b) h h':=
 OL Tryz.slices_Sort_int Tryz.slices_Sort_int_none c a
theorem cD(x n:Int)(h:f8)(a:0<n:=by decide)(e:n<=2^62:=by decide):aq xD 14 #[xt xz x,xt xz n] h λv h'=>v=xt xz (x%n)/\h'=h:=by
 refine sO x n ?_;have f:=vG x a;have g:-n<x.tmod n:=Int.lt_tmod_of_pos x a;have d:=OC x n a;refine⟨i4,bc ?_⟩;refine ac (λb=>?_) (λc=>?_)
 ·rw[af _];exact⟨by rw[d,f9 b],i0⟩
 ·exact⟨by rw[d,g0 c],i0⟩
end Go.Qw
namespace Wl
structure iP (d:bj):Prop where
 wait:d.wait<=ii d.l
 len:ii d.l<=d.room
 room:d.room<=512
 cell:∀c∈d.l,ii c=64
 laid:ii d.laid<=d.room
 cellL:∀c∈d.laid,ii c=64
variable {d:bj} {w:Pow} {b:aV}
theorem iP.new{n:Nat}(h:n<=512):iP (bj.new n):=⟨qm _,zo _,h,by simp[bj.new],zo _,by simp[bj.new]⟩
theorem iP.rewrite{l:cI}(h:iP d):iP (d.rewrite w l).2.2:=by
 obtain⟨a,e,h3,b,f,i⟩:=h;unfold bj.rewrite;split
 ·exact⟨a,e,h3,b,f,i⟩
 ·rename_i g;have g:∀c∈l,ii c=64:=m4
  split
  ·exact⟨a,e,h3,b,f,i⟩
  ·split
   ·exact⟨a,e,h3,b,f,i⟩
   ·split
    ·exact⟨a,e,h3,b,f,i⟩
    ·split
     ·exact⟨zo _,i6,h3,g,zo _,i9⟩
     ·exact⟨a,e,h3,b,i6,g⟩
end Wl
namespace Go.Vc
open Go Wl Go.Qw
abbrev fG(s:Sl)(l:Cells):HP:=dg 71 s 5 1 aD l
def iw(t:Nat)(f:bj->Sl->Sl->ba)(a:eY)(d:bj):HP:=
 (HP.ex λb:Sl×Sl=>(al a t (f d b.1 b.2)).sep ((fG b.1 d.l).sep (fG b.2 d.laid))).and (iP d)
variable {B:aA} {h0 h h':f8} {As:List HP} {t:Nat} {f:bj->Sl->Sl->ba} {a:eY} {d:bj}
theorem aa.oX(H:aa B h0 h (iw t f a d::As)):iP d/\∃s b:Sl,aa B h0 h (al a t (f d s b)::fG s d.l::fG b d.laid::As):=by obtain⟨H,ok⟩:=H.Hn;obtain⟨c,H⟩:=H.rx;exact⟨ok,c.1,c.2,H.rO.rO.aT 3 [2,1,0]⟩
theorem aa.ut{s b:Sl}(ok:iP d)(H:aa B h0 h (al a t (f d s b)::fG s d.l::fG b d.laid::As)):aa B h0 h (iw t f a d::As):=
 ((((H.aT 3 [2,1,0]).lJ).lJ).tQ (F:=λc:Sl×Sl=>(al a t (f d c.1 c.2)).sep ((fG c.1 d.l).sep (fG c.2 d.laid))) (s,b)).toHn ok
end Go.Vc
namespace Go.Qw
open Go Go.Vc Go.Proofs Wl
abbrev fz(pw:eY)(d:bj)(s b:Sl):ba:=[xv (dB pw),xt xz d.room,s,xt xz d.wait,b,xx d.has,xx d.lost]
abbrev iU(pw a:eY)(d:bj):HP:=iw 119 (fz pw) a d
variable {B:aA} {h0 h h':f8} {As:List HP} {a pw:eY} {d:bj} {w:Pow}
theorem Ju(n:Int)(pw:eY)(h:f8):aq xD 75 #[xt xz n,xv (dB pw)] h λv h'=>
  (1<=n/\n<=512->∃a,v=xv (dB a)/\Sp h h' [iU pw a (bj.new n.toNat)])/\(¬(1<=n/\n<=512)->v=xv eH/\Sp h h' []):=by
 refine Np n (dB pw) ?_;refine bc (ac (λe=>⟨λc=>absurd c i4,λ_=>⟨i0,Sp.refl h⟩⟩) λg=>ac (λe=>⟨λc=>absurd c i4,λ_=>⟨i0,Sp.refl h⟩⟩) λe2=>bA (λe=>j0) λ_=>?_);refine(Sp.refl h).boxed λa i f=>⟨λ_=>⟨a,i0,?_⟩,λc=>absurd i4 c⟩
 refine aa.ut (s:=⟨eH,0,0⟩) (b:=⟨eH,0,0⟩) (iP.new i4) ?_;have e:((n.toNat:Nat):Int)=n:=i4
 have d:=((f.Aj 71 5 1 aD).Aj 71 5 1 aD).aT 3 [2,1,0];have e2:fz pw (bj.new n.toNat) ⟨eH,0,0⟩ ⟨eH,0,0⟩=[xv (dB pw),xt xz n,xu eH 0 0,xt xz 0,xu eH 0 0,xx eS,xx eS]:=by simp only[fz,bj.new,e];rfl
 rw[e2];exact d
theorem EM(s b:Sl)(c:bj)(H:aa B h0 h (al a 119 (fz pw d s b)::fG s d.l::fG b d.laid::dv 121 pw w::As))(ok:iP d)(f:c={d with laid:=[],has:=eS}):
  aq xD 128 #[xv (dB a)] h λv h'=>v=xt xz 0/\aa B h0 h' (iU pw a c::dv 121 pw w::As):=by
 refine Ct (dB a) ?_;refine⟨a,i0,H.store an 0 i0 i0 4 [xu eH 0 0] i0 i0 i0 ln λi e=>?_⟩;refine⟨a,i0,e.store an 0 i0 i0 5 [xx eS] i0 i0 i0 ln λh3 g=>⟨i0,?_⟩⟩;subst f;refine aa.ut (s:=s) (b:=⟨eH,0,0⟩) ⟨ok.wait,ok.len,ok.room,ok.cell,zo _,i9⟩ ?_;exact((g.Aj 71 5 1 aD).aT 5 [1,2,0,4])
theorem GJ(x:Sl)(row:aV)(H:aa B h0 h (iU pw a d::dv 121 pw w::As))(P:Rd h x 1 aD row)(hr:ii row<=2^20):
  aq xD 133 #[xv (dB a),x] h λv h'=>v=xt xz (d.append w row).1/\aa B h0 h' (iU pw a (d.append w row).2.2::dv 121 pw (d.append w row).2.1::As):=by
 refine nF (dB a) x ?_;have T:=P.len;obtain⟨ok,s,b,z⟩:=H.oX;have m:=z.box 0 i0;obtain⟨S,_⟩:=aa.sa (z.aT 4 [1]);have F:=ok.room;have O:=ok.len;have G:=ok.wait;have g:∀(e:Int),d.append w row=(e,w,d)->(Value.int .i64 e=xt xz (d.append w row).1/\aa B h0 h (iU pw a (d.append w row).2.2::dv 121 pw (d.append w row).2.1::As)):=λe R=>by
  rw[R];exact⟨i0,H⟩
 refine bc (ci (λe=>g 1 (by unfold bj.append;rw[f9 i4])) λX=>?_);have y:ii row=64:=i4
 refine bc (bA (λe=>j0) λ_=>⟨a,i0,d.lost,m.cell i0,bA (λe=>g 5 ?_) λf=>?_⟩)
 ·unfold bj.append;rw[g0 i4,f9 e]
 refine⟨a,i0,s,m.cell i0,a,i0,(d.room:Int),m.cell i0,ac (λe=>g 7 ?_) λM=>?_⟩
 ·unfold bj.append;rw[g0 i4,g0 p0,f9 i4]
 obtain⟨l,hl,L⟩:=(z.aT 4 [3,0,1,2]).Bh;refine⟨a,i0,dB pw,m.cell0 i0,(Gd l (L.box 0 i0)).mono ?_⟩;rintro _ V ⟨rfl,rfl⟩;refine⟨_,i0,bi (λe=>g 14 ?_) λn=>?_⟩
 ·unfold bj.append;rw[g0 i4,g0 p0,g0 i4,f9 l7]
 have j:w.off=eS:=l6
 refine bc ⟨a,i0,s,m.cell i0,(fc x row V P i4).mono ?_⟩;rintro _ h4 ⟨r,rfl,U⟩;have E:=(z.cj U).aT 5 [2,0,1,3,4];have o:=E.box 2 i0;refine⟨r,i0,⟨o.cell i0,trivial⟩,?_⟩;have W:=E;refine E.ne an bp fF i0 [r] i0 (show 1*1<=2^20 by decide) i0 ⟨o.cell i0,trivial⟩ ?_;refine E.FN an fF i4 λD h6 I=>⟨trivial,?_⟩
 have I:=I.aT 4 [1,0,2,3];refine⟨a,i0,I.store an 0 i0 i0 2 [D] i0 i0 i0 ln λZ N=>⟨trivial,?_⟩⟩;have J:=N.box 0 i0;refine⟨a,i0,(d.wait:Int),J.cell i0,a,i0,?_⟩;rw[af ((d.wait:Int)+1)];refine N.store an 0 i0 i0 3 [xt xz ((d.wait:Int)+1)] i0 i0 i0 ln λh8 Q=>?_;obtain⟨i,k⟩:∃i:bj,i={d with l:=d.l++[row],wait:=d.wait+1}:=⟨_,rfl⟩
 have p:iP i:=by
  subst k;refine⟨i7,i7,ok.room,λc u=>?_,ok.laid,ok.cellL⟩;rcases qA.1 u with u|u
  ·exact ok.cell c u
  ·rw[qB.1 u];exact y
 have q:aa B h0 h8 (al a 119 (fz pw i D b)::fG D i.l::fG b i.laid::dv 121 pw w::As):=by rw[k];exact Q
 refine⟨a,i0,dB pw,(q.box 0 i0).cell0 i0,(EK (q.aT 4 [3,0,1,2])).mono ?_⟩;rintro _ h9 ⟨rfl,A⟩;have A:=A.aT 4 [1,2,3,0];have t:d.append w row=if w.step.1 then(0,w.step.2,{i with laid:=[],has:=eS})else(14,w.step.2,i):=by rw[k];unfold bj.append;rw[g0 i4,g0 p0,g0 i4,g0 (by simp[j])]
 rw[t];refine⟨_,i0,bi (λe=>?_) λe=>?_⟩
 ·rw[e];exact⟨i0,A.ut p⟩
 ·rw[e];refine(EM D b _ A p i0).mono ?_;rintro _ Y ⟨rfl,K⟩;exact⟨0,i0,i0,K⟩
theorem Lp(x:Sl)(row:aV)(h:f8)(b:Rd h x 1 aD row):aq xD 133 #[xv eH,x] h λv h'=>v=xt xz (if row.length≠64 then 1 else 5)/\h'=h:=by refine nF eH x ?_;have a:=b.len;refine bc (ci (λe=>⟨by rw[f9 i4],i0⟩) λe=>?_);exact bc (bA (λ_=>⟨by rw[g0 i4],i0⟩) λe=>j0)
theorem XP(H:aa B h0 h (iU pw a d::dv 121 pw w::As)):
  aq xD 178 #[xv (dB a)] h λv h'=>v=xt xz (d.sync w).1/\aa B h0 h' (iU pw a (d.sync w).2.2::dv 121 pw (d.sync w).2.1::As):=by
 refine oV (dB a) ?_;obtain⟨ok,s,b,j⟩:=H.oX;have i:=j.box 0 i0;refine bc (bA (λe=>j0) λ_=>⟨a,i0,d.lost,i.cell i0,bA (λe=>?_) λc=>?_⟩)
 ·have:d.sync w=(5,w,d):=by unfold bj.sync;rw[f9 e]
  rw[this];exact⟨i0,H⟩
 refine⟨a,i0,dB pw,i.cell0 i0,(EK (j.aT 4 [3,0,1,2])).mono ?_⟩;rintro _ m ⟨rfl,g⟩;have g:=g.aT 4 [1,2,3,0];have f:d.sync w=if w.step.1 then(0,w.step.2,{{d with wait:=0}with laid:=[],has:=eS})else(14,w.step.2,d):=by unfold bj.sync;rw[g0 p7]
 rw[f];refine⟨_,i0,bi (λe=>?_) λe=>?_⟩
 ·rw[e];exact⟨i0,g.ut ok⟩
 ·rw[e];refine⟨a,i0,g.store an 0 i0 i0 3 [xt xz 0] i0 i0 i0 ln λh3 k=>?_⟩;refine(EM (d:={d with wait:=0}) s b _ k ⟨zo _,ok.len,ok.room,ok.cell,ok.laid,ok.cellL⟩ rfl).mono ?_;rintro _ n ⟨rfl,l⟩;exact⟨0,i0,i0,l⟩
theorem PQ(h:f8):aq xD 178 #[xv eH] h λv h'=>v=xt xz 5/\h'=h:=by refine oV eH ?_;exact bc (bA (λ_=>⟨i0,i0⟩) λe=>j0)
theorem iU.box(H:aa B h0 h (iU pw a d::As)):∃s b:Sl,cw h a 119 (fz pw d s b)/\fW h s 1 aD d.l/\s.len=ii d.l:=by obtain⟨ok,s,b,c⟩:=H.oX;exact⟨s,b,c.box 0 i0,(c.aT 3 [1]).DX λ_=>rfl,(aa.sa (c.aT 3 [1])).1⟩
theorem XQ(s b:Sl)(c:cw h a 119 (fz pw d s b)):aq xD 126 #[xv (dB a)] h λv h'=>v=xt xz d.room/\h'=h:=by refine Cq (dB a) ?_;exact bA (λe=>j0) λ_=>⟨a,i0,_,c.cell i0,i0,i0⟩
theorem Mn(s b:Sl)(f:cw h a 119 (fz pw d s b))(c:s.len=ii d.l):aq xD 212 #[xv (dB a)] h λv h'=>v=xt xz (ii d.l:Int)/\h'=h:=by refine Dx (dB a) ?_;exact bA (λe=>j0) λ_=>⟨a,i0,_,f.cell i0,by rw[c],i0⟩
theorem EN(s b:Sl)(c:cw h a 119 (fz pw d s b)):aq xD 61 #[xv (dB a)] h λv h'=>v=xx d.lost/\h'=h:=by refine Ck (dB a) ?_;exact bA (λ_=>⟨a,i0,_,c.cell i0,i0,i0⟩) λe=>j0
theorem XR(s b:Sl)(i:Int)(j:cw h a 119 (fz pw d s b))(m:fW h s 1 aD d.l)(q:∀c∈d.l,ii c=64):aq xD 43 #[xv (dB a),xt xz i] h λv h'=>∃r:Sl,v=r/\Sp h h' [ae 5 r 1 aD (if 0<=i then d.l.getD i.toNat []else[])]:=by
 refine oU (dB a) i ?_;have n:=m.len;have f:(if 0<=i then d.l.getD i.toNat []else[])=[]->∃r:Sl,Value.slice eH 0 0=xu r.ptr r.len r.cap/\Sp h h [ae 5 r 1 aD (if 0<=i then d.l.getD i.toNat []else[])]:=λe=>by
  rw[e];exact⟨⟨eH,0,0⟩,i0,(Sp.refl h).nil 5 1 aD⟩
 refine bc (bA (λe=>j0) λ_=>ac (λe=>f (by rw[g0 i4])) λt=>⟨a,i0,s,j.cell i0,ac (λe=>f ?_) λe2=>?_⟩)
 ·rw[f9 i4,qe,qP i4];rfl
 ·refine⟨a,i0,s,j.cell i0,m.get i.toNat i4 i4 λr p=>?_⟩;have g:i.toNat<ii d.l:=i4
  have:=q _ (qg g);refine(fc r _ h p i4).mono ?_;rintro _ u ⟨k,rfl,o⟩;rw[f9 i4,getD_lt g];exact⟨k,i0,k,i0,o⟩
theorem HW(l:Sl)(a:Cells)(h:f8)(f:fW h l 1 aD a)(x:ii a<=2^20)(m:∀c∈a,ii c<=2^20):aq xD 67 #[l] h λv h'=>∃r:Sl,v=r/\Sp h h' [fG r a]:=by
 refine No l ?_;have o:=f.len;refine av (λt:Sl×Nat=>(t.1,(t.2:Int))) (λt h'=>t.2<=ii a/\Sp h h' [fG t.1 (a.take t.2)]) (λt=>ii a-t.2) (⟨eH,0,0⟩,0) i0 ⟨i9,by simpa using(Sp.refl h).Aj 71 5 1 aD⟩ ?_;rintro⟨s,i⟩ q ⟨w,d⟩;dsimp only at*;refine ac (λe=>?_) (λe=>?_)
 ·have b:i<ii a:=i4
  refine(f.up d.ag).get i i0 b λr j=>?_;have:=m _ (qg b);refine(fc r _ q j i4).mono ?_;rintro _ u ⟨n,rfl,p⟩;refine⟨n,i0,?_⟩;refine aa.FN an (d.comp p) fF i7 λk h3 g=>?_;refine⟨(k,i+1),jj,⟨i6,?_⟩,i6⟩;dsimp only;rw[aH _ _ b];exact g
 ·rw[qi i4]at d;exact⟨s,i0,d⟩
theorem PR(s b:Sl)(f:cw h a 119 (fz pw d s b))(i:fW h s 1 aD d.l)(ok:iP d):aq xD 24 #[xv (dB a)] h λv h'=>∃r:Sl,v=r/\Sp h h' [fG r d.l]:=by
 refine Dt (dB a) ?_;have:=ok.len;have:=ok.room;refine bA (λe=>j0) λ_=>⟨a,i0,s,f.cell i0,(HW s d.l h i i4 λc j=>by rw[ok.cell c j];decide).mono ?_⟩
 rintro _ k ⟨r,rfl,g⟩;exact⟨r,i0,r,i0,g⟩
theorem aaJ(b:Sl)(l:aV)(h:f8)(p:Rd h b 1 aD l)(B:ii l<=2^40):aq xD 165 #[b] h λv h'=>v=xt xB (lX l).toNat/\h'=h:=by
 refine Sb b ?_;have D:=p.len;refine av (λt:Nat=>(((kU (l.take t)).toNat:Int),(t:Int))) (λt h'=>t<=ii l/\h'=h) (λt=>ii l-t) 0 i0 ⟨i4,i0⟩ ?_;rintro i z ⟨E,rfl⟩;refine ac (λe=>?_) (λe=>?_)
 ·have d:i<ii l:=by have u:(i:Int)<(b.len:Int):=e;omega
  refine p.bD i i0 d (l[i].toNat:Int) i0 ?_;have s:qc xB (l[i].toNat:Int)=((wK 32 l[i].toNat).toNat:Int):=by rw[LV,yb]
  rw[s,UM];refine av (λk:Nat=>(((eC k (kU (l.take i)^^^wK 32 l[i].toNat)).toNat:Int),(k:Int))) (λk h'=>k<=8/\h'=z) (λk=>8-k) 0 i0 ⟨i4,i0⟩ ?_;rintro k q ⟨A,rfl⟩;obtain⟨c,m⟩:∃c,c=eC k (kU (l.take i)^^^wK 32 l[i].toNat):=⟨_,rfl⟩
  dsimp only;rw[<-m];refine ac (λe2=>⟨i5,?_⟩) (λe2=>?_)
  ·have a:∀n:jw,n=jM c->∃f:Nat,(((n.toNat:Nat):Int),qc xz ((k:Int)+1))=(((eC f (kU (l.take i)^^^wK 32 l[i].toNat)).toNat:Int),(f:Int))/\(f<=8/\q=q)/\8-f<8-k:=λn y=>
    ⟨k+1,by rw[af _,y,m];rfl,⟨i4,i0⟩,i4⟩
   have r:qc xB ((qE (qk xB) (c.toNat:Int)&&&qE (qk xB) (1:Int)).toNat:Nat)=((c&&&1#32).toNat:Int):=afT c 1#32;have w:qc xB ((qE (qk xB) ((c>>>1).toNat:Int)^^^qE (qk xB) (3988292384:Int)).toNat:Nat)=(((c>>>1)^^^3988292384#32).toNat:Int):=UM (c>>>1) 3988292384#32;rw[r,adk,w];refine cy (λj=>a _ ?_) (λj=>a _ ?_)
   ·unfold jM;rw[f9 ((TF c).1 j)]
   ·unfold jM;rw[g0 λx=>j ((TF c).2 x)]
  ·have g:k=8:=i4
   subst g;refine⟨i+1,?_,⟨i4,i0⟩,i4⟩;rw[af _,aH _ _ d,UL,m];rfl
 ·have o:i=ii l:=by have u:¬(i:Int)<(b.len:Int):=e;omega
  subst o;refine⟨?_,i0⟩;rw[qV];exact congrArg (Value.int .u32) (UM 4294967295#32 (kU l))
theorem EO(kind:Int)(a:Sl)(l:aV)(h:f8)(u:Rd h a 1 aD l)(O:ii l<=2^40:=by omega):aq xD 102 #[xt xz kind,a] h λv h'=>∃r:Sl,v=r/\Sp h h' [ae 5 r 1 aD (dX kind l)]:=by
 refine Py kind a ?_;have P:=u.len;have f:¬(1<=kind/\kind<=255/\l.length<=55)->∃r:Sl,Value.slice eH 0 0=xu r.ptr r.len r.cap/\Sp h h [ae 5 r 1 aD (dX kind l)]:=λe=>by
  unfold dX;rw[g0 e];exact⟨⟨eH,0,0⟩,i0,(Sp.refl h).nil 5 1 aD⟩
 refine bc (ac (λe=>f i4) λM=>ac (λe=>f i4) λe2=>ac (λe=>f i4) λL=>?_);refine(Sp.refl h).make an aD gU i5 0 i0 i0 64 64 i0 i0 (qm _) i5 λo z t m B=>?_;rw[ez];refine B.lit an aD gU i0 [87,115,1,b8 kind] i0 (show 4*1<=2^20 by decide) i0 λv3 h3 x=>?_;refine x.IE an 0 i0 gU (λ_=>rfl) (x.seq 1 i0 λ_=>rfl) iF λ_ p j=>⟨⟨i5,by rw[t];decide⟩,?_⟩
 have j:Sp h p [ae 5 o 1 aD ([87,115,1,b8 kind]++qh 60 0)]:=by have:=j.cu [0];simpa using this
 refine j.OP an 0 i0 gU (λ_=>rfl) (Seq.up u j.ag) iF 4 i9 i0 i0 λ_ w k=>⟨⟨i5,by rw[m];decide⟩,?_⟩
 have J:([87,115,1,b8 kind]++qh 60 0).take 4++(l.take (ii ([87,115,1,b8 kind]++qh 60 (0:UInt8))-4)++([87,115,1,b8 kind]++qh 60 0).drop (4+ii l))=dU kind l++qh 5 0:=by
  have K:ii ([87,115,1,b8 kind]++qh 60 (0:UInt8))=64:=i9
  rw[K,qi (l:=l) i4,<-zJ];have z:([87,115,1,b8 kind]++qh 60 (0:UInt8)).drop 4=qh 60 0:=rfl;have h3:([87,115,1,b8 kind]++qh 60 (0:UInt8)).take 4=[87,115,1,b8 kind]:=rfl;rw[z,h3,List.drop_replicate];unfold dU;have p:qh (60-ii l) (0:UInt8)=qh (55-ii l) 0++qh 5 0:=by rw[List.replicate_append_replicate];congr 1;omega
  rw[p];simp[qp]
 rw[J]at k;have b:ii (dU kind l)=59:=ub i4;have F:Rd w ⟨o.ptr,59,o.cap⟩ 1 aD (dU kind l):=by have:=(k.seq 0 i0 λ_=>rfl).take 59 l4;rw[wq i4,qi i4]at this;exact this
 refine(aaJ ⟨o.ptr,59,o.cap⟩ (dU kind l) w F i4).mono ?_;rintro _ R ⟨rfl,rfl⟩;obtain⟨c,A⟩:∃c,c=lX (dU kind l):=⟨_,rfl⟩
 rw[<-A];refine⟨_,i0,?_⟩;refine av (λi:Nat=>(i:Int)) (λi h'=>i<=4/\Sp h h' [ae 5 o 1 aD (dU kind l++((li c).take i++qh (5-i) 0))]) (λi=>4-i) 0 i0 ⟨i4,by simpa using k⟩ ?_;rintro i N ⟨Q,y⟩;have d:=BO c;refine ac (λe=>?_) (λe=>?_)
 ·have D:i<4:=by have E:(i:Int)<4:=e;omega
  rw[af ((8:Int)*i),af ((59:Int)+i)];refine⟨i4,?_⟩;have H:((8:Int)*(i:Int)).toNat=8*i:=i4
  have G:min (8*i) (qk xB)=8*i:=by have:qk xB=32:=rfl;omega
  rw[H,G,ez];have I:b8 (qZ (c.toNat:Int) (2^(8*i)))=(li c)[i]'(by omega):=by simp[li]
  rw[I];refine y.set an 0 i0 (λ_=>rfl) i0 (59+i) i4 (by simp[b];omega) ((li c)[i]'(by omega)) i0 i0 i0 λh8 g=>?_;refine⟨i+1,js,⟨i4,?_⟩,i4⟩;have n:(dU kind l++((li c).take i++qh (5-i) 0)).set (59+i) ((li c)[i]'(by omega))=dU kind l++((li c).take (i+1)++qh (5-(i+1)) 0):=by
   rw[qX _ _ i4,b,zx,qX _ _ i7,aH _ _];have:5-i=(5-(i+1))+1:=i4
   rw[this,yl];simp[d,Nat.min_eq_left (show i<=4 by omega)];rw[aH _ _ (show i<ii (li c) by omega),qp];rfl
  rw[n]at g;exact g
 ·have s:i=4:=by have E:¬(i:Int)<4:=e;omega
  subst s;refine y.set an 0 i0 (λ_=>rfl) i0 63 i0 (by simp[b,d]) 165 i0 i0 i0 λh8 g=>⟨o,i0,?_⟩
  have q:(dU kind l++((li c).take 4++qh (5-4) 0)).set 63 165=dX kind l:=by unfold dX;rw[f9 ⟨i4,i4,i4⟩,<-A,qi i4,qX _ _ i4,b,qX _ _ qb];simp[d]
  rw[q]at g;exact g
end Go.Qw
namespace Go.Vc
open Go Wl
abbrev dV:=ByteArray×Int×Int×Sl
abbrev bX:=Int×Int×Int×Int×Int×Int×Sl×Sl
abbrev bE(x:dV):ba:=[xw x.1,xt xz x.2.1,xt xz x.2.2.1,x.2.2.2]
abbrev aS(x:bX):ba:=[xt xz x.1,xt xz x.2.1,xt xz x.2.2.1,xt xz x.2.2.2.1,xt xz x.2.2.2.2.1,xt xz x.2.2.2.2.2.1,x.2.2.2.2.2.2.1,x.2.2.2.2.2.2.2]
abbrev fT(x:bX):Value:=xy #[xt xz x.1,xt xz x.2.1,xt xz x.2.2.1,xt xz x.2.2.2.1,xt xz x.2.2.2.2.1,xt xz x.2.2.2.2.2.1,x.2.2.2.2.2.2.1,x.2.2.2.2.2.2.2]
def jk:iZ dV Wl.cz:=⟨λh q a b=>(a.1=b.name/\a.2.1=b.object/\a.2.2.1=b.length)/\Seq h q a.2.2.2 1 ak b.tries,λa c=>⟨a.1,a.2.ag c⟩,λa d=>⟨a.1,a.2.mono d⟩⟩
abbrev tz:iZ Sl (List Wl.cz):=bH jk 4 bE
structure rD (h:f8) (q:aA) (x:bX) (m:aC):Prop where
 seq:x.1=m.seq
 next:x.2.1=m.next
 p:(x.2.2.1,x.2.2.2.1,x.2.2.2.2.1)=m.p
 extra:x.2.2.2.2.2.1=m.extra
 drives:Seq h q x.2.2.2.2.2.2.1 1 ak m.drives
 aF:tz.p h q x.2.2.2.2.2.2.2 m.aF
 dcap:x.2.2.2.2.2.2.1.len<=x.2.2.2.2.2.2.1.cap
 ocap:x.2.2.2.2.2.2.2.len<=x.2.2.2.2.2.2.2.cap
abbrev dH(h:f8)(x:bX)(m:aC):Prop:=rD h (λb=>b<h.size) x m
theorem rD.ag{h h':f8}{q:aA}{x:bX}{m:aC}(a:rD h q x m)(b:aZ q h h'):rD h' q x m:=⟨a.seq,a.next,a.p,a.extra,a.drives.ag b,tz.loc a.aF b,a.dcap,a.ocap⟩
theorem rD.mono{h:f8}{q q':aA}{x:bX}{m:aC}(a:rD h q x m)(c:∀b,q b->q' b):rD h q' x m:=⟨a.seq,a.next,a.p,a.extra,a.drives.mono c,tz.mono a.aF c,a.dcap,a.ocap⟩
theorem dH.up{h h':f8}{x:bX}{m:aC}(a:dH h x m)(c:aZ (λb=>b<h.size) h h'):dH h' x m:=(rD.ag a c).mono λ_ d=>qY d c.1
def bS(x:bX)(m:aC):HP:=⟨λh q=>rD h q x m,λa b=>a.ag b,λa c=>a.mono c⟩
theorem Lq:∀x,∀c∈bE x,c.oneCell'=eR:=by intro x c a;simp[bE]at a;rcases a with rfl|rfl|rfl|rfl<;>rfl
end Go.Vc
namespace Go.Qw
open Go Go.Vc Go.Proofs Wl
theorem pR(n a b:Int)(h:f8):aq xD 190 #[xt xz n,xt xz a,xt xz b] h λv h'=>v=xx (fm n a b)/\h'=h:=by
 refine Jl n a b ?_;unfold fm;refine ac (λe=>⟨?_,i0⟩) (λe=>⟨?_,i0⟩)
 ·rw[g9 (show a<=n from e)];rfl
 ·rw[hU (show¬a<=n from e)];rfl
theorem Mo(s:ByteArray)(h:f8)(F:s.size<=2^40):aq xD 136 #[xw s] h λv h'=>v=xx (mB s)/\Sp h h' []:=by
 refine Nt s ?_;refine adl an ⟨_,i0,i0⟩ ⟨_,i0,i0⟩ ⟨_,i0,i0⟩ s λr E n=>?_;have w:=n.rd 0 i0;have B:=w.len;have z:=BP s;refine av (λi:Nat=>(i:Int)) (λi h'=>i<=s.size/\h'=E/\∀c∈(jf s).take i,mN c=eR) (λi=>s.size-i) 0 i0 ⟨i4,i0,i9⟩ ?_;rintro i q ⟨G,rfl,d⟩;refine ac (λe=>?_) (λe=>?_)
 ·have j:i<ii (jf s):=by have D:(i:Int)<(r.len:Int):=e;omega
  refine w.bD i i0 j ((jf s)[i].toNat:Int) i0 ?_;obtain⟨c,u⟩:∃c,c=(jf s)[i]:=⟨_,rfl⟩
  rw[<-u];have a:mN c=eR->∃o:Nat,qc xz ((i:Int)+1)=(o:Int)/\(o<=s.size/\q=q/\∀c∈(jf s).take o,mN c=eR)/\s.size-o<s.size-i:=λt=>
   ⟨i+1,js,⟨i4,i0,λx k=>by
    rw[aH _ _ j]at k;rcases qA.1 k with k|k
    ·exact d x k
    ·rw[qB.1 k,<-u];exact t⟩,i4⟩
  have g:mN c=eS->Value.bool eS=xx (mB s)/\Sp h q []:=λt=>by
   refine⟨?_,n.cu []⟩;unfold mB;have:s.data.toList.all mN=eS:=yZ.2 ⟨c,by rw[u];exact qg j,by rw[t];simp⟩;rw[this];rfl
  have b:mN c=eR↔((97<=(c.toNat:Int)/\(c.toNat:Int)<=122)∨(48<=(c.toNat:Int)/\(c.toNat:Int)<=57)∨(c.toNat:Int)=45):=by unfold mN;simp[or_assoc];omega
  have f:mN c=eS↔¬((97<=(c.toNat:Int)/\(c.toNat:Int)<=122)∨(48<=(c.toNat:Int)/\(c.toNat:Int)<=57)∨(c.toNat:Int)=45):=by rw[<-b];cases mN c<;>simp
  refine ac (λp=>ac (λe2=>ci (λl=>g (f.2 i4)) λl=>a (b.2 i4)) λe2=>ac (λl=>ci (λm=>g (f.2 i4)) λm=>a (b.2 i4)) λl=>a (b.2 i4)) λp=>ac (λe2=>ac (λl=>ci (λm=>g (f.2 i4)) λm=>a (b.2 i4)) λl=>ac (λm=>ci (λA=>g (f.2 i4)) λA=>a (b.2 i4)) λm=>a (b.2 i4)) λe2=>a (b.2 i4)
 ·have D:¬(i:Int)<(r.len:Int):=e;rw[qi i4]at d;have y:s.data.toList.all mN=eR:=q7.2 d;refine ac (λp=>⟨?_,n.cu []⟩) (λp=>⟨?_,n.cu []⟩)
  ·unfold mB;rw[y,g9 (show 1<=s.size by omega)];congr 1;simp;omega
  ·unfold mB;rw[y,hU (show¬1<=s.size by omega)];rfl
theorem XS(s:Sl)(l:aw)(most:Int)(h:f8)(p:Rd h s 1 ak l)(x:ii l<=2^40):aq xD 191 #[s,xt xz most] h λv h'=>v=xx (oF l most)/\h'=h:=by
 refine Nx s most ?_;have u:=p.len;refine av (λi:Nat=>(i:Int)) (λi h'=>i<=ii l/\h'=h/\∀j,j<i->jN l most j=eR) (λi=>ii l-i) 0 i0 ⟨i4,i0,i4⟩ ?_;rintro i k ⟨y,rfl,b⟩;refine ac (λe=>?_) (λe=>?_)
 ·have c:i<ii l:=by have w:(i:Int)<(s.len:Int):=e;omega
  refine p.bD i i0 c l[i] i0 ?_;have n:l.getD i 0=l[i]:=getD_lt c;have g:jN l most i=eS->Value.bool eS=xx (oF l most)/\k=k:=λo=>⟨by unfold oF;rw[Eb c o],i0⟩
  have a:jN l most i=eR->∃m:Nat,qc xz ((i:Int)+1)=(m:Int)/\(m<=ii l/\k=k/\∀j,j<m->jN l most j=eR)/\l.length-m<ii l-i:=λo=>
   ⟨i+1,js,⟨i4,i0,λj r=>by
    by_cases q:j=i
    ·rw[q];exact o
    ·exact b j i4⟩,i4⟩
  refine(pR l[i] 0 most k).mono ?_;rintro _ _ ⟨rfl,rfl⟩;refine⟨_,i0,bi (λf=>g (by unfold jN;rw[n,f];rfl)) λf=>ac (λe2=>?_) λe2=>a (by unfold jN;rw[n,f,g9 (show i=0 by omega)];rfl)⟩;rw[af ((i:Int)-1)];refine p.bD (i-1) i4 i4 (l[i-1]'(by omega)) i0 ?_;have d:l.getD (i-1) 0=l[i-1]'(by omega):=getD_lt;refine ac (λt=>g ?_) (λt=>a ?_)
  ·unfold jN;rw[n,d,f,hU (show¬i=0 by omega),hU i4];rfl
  ·unfold jN;rw[n,d,f,g9 (show l[i-1]'(by omega)<l[i]by omega)];simp
 ·have w:¬(i:Int)<(s.len:Int):=e;exact⟨by unfold oF;rw[se λj r=>b j i4],i0⟩
theorem Cx(p:Pm)(n:Int)(h:f8)(r:n<=2^40:=by omega):aq xD 82 #[kb p,xt xz n] h λv h'=>v=xt xz (countP p n)/\Sp h h' []:=by
 refine Jb p n ?_;refine(Sp.refl h).boxed λq g d=>?_;refine bc ⟨p,(d.box 0 i0).aP _ i0,(eT p g).mono ?_⟩;rintro _ j ⟨rfl,k⟩;have b:=d.up k.ag;refine⟨_,i0,bi (λe=>⟨?_,b.cu []⟩) λf=>ac (λe=>⟨?_,b.cu []⟩) λe=>?_⟩
 ·unfold countP;rw[e];rfl
 ·unfold countP;rw[hU (show¬0<n by omega),Bool.and_false];rfl
 ·have l:=(cm p).1 f;refine⟨p,(b.box 0 i0).aP _ i0,?_⟩;refine(Bb p (R:=λv h'=>v=xt xz (p.1*p.2.2)/\Sp h h' []) ?_).mono ?_
  ·skip
   refine b.boxed λo h3 c=>⟨p.1,(c.box 1 i0).cell0 i0,p.2.2,(c.box 1 i0).cell i0,?_,c.cu []⟩
   have m:p.1*p.2.2<=16*24:=yC i4 i4 i4 i4;have a:0<=p.1*p.2.2:=vQ i4 i4;rw[af _]
  ·rintro _ h3 ⟨rfl,i⟩;have a:0<p.1*p.2.2:=Int.mul_pos i4 i4;refine⟨_,i0,Int.ne_of_gt a,?_,i⟩;have g:(n-1)/(p.1*p.2.2)<=n-1:=Int.ediv_le_self _ i4;have j:0<=(n-1)/(p.1*p.2.2):=Int.ediv_nonneg i4 i4;rw[af (n-1),Int.tdiv_eq_ediv_of_nonneg i4,af ((n-1)/(p.1*p.2.2)),af _];unfold countP;rw[f,g9 (show 0<n by omega)];rfl
theorem Sj(s:Sl)(l:aw)(h:f8)(d:Rd h s 1 ak l)(k:ii l<=2^40):aq xD 147 #[s,.func (.func 258) #[] #[]] h λv h'=>v=xx (!l.all (fm · 0 15))/\h'=h:=by
 refine ka s (258,#[],#[]) ?_;have g:=d.len;refine(iK s (258,#[],#[]) (R:=λv h'=>(∃i:Int,v=xt xz i/\(decide (i>=0)=!l.all (fm · 0 15)))/\h'=h) ?_).mono ?_
 ·skip
  refine av (λi:Nat=>(i:Int)) (λi h'=>i<=ii l/\(l.take i).all (fm · 0 15)=eR/\h'=h) (λi=>ii l-i) 0 i0 ⟨i4,i9,i0⟩ ?_;rintro i c ⟨f,a,rfl⟩;refine ac (λe=>?_) (λe=>?_)
  ·have b:i<ii l:=by have j:(i:Int)<(s.len:Int):=e;omega
   refine d.bD i i0 b l[i] i0 (fo ld ?_);refine(HR l[i] (R:=λv h'=>v=xx (!fm l[i] 0 15)/\h'=c) ?_).mono ?_
   ·skip
    refine(pR l[i] 0 15 c).mono ?_;rintro _ _ ⟨rfl,rfl⟩;exact⟨_,i0,i0,i0⟩
   ·rintro _ _ ⟨rfl,rfl⟩;refine⟨_,i0,bi (λe2=>?_) λe2=>?_⟩
    ·refine⟨⟨i,i0,?_⟩,i0⟩;rw[g9 (show(i:Int)>=0 by omega)];have:l.all (fm · 0 15)=eS:=yZ.2 ⟨_,qg b,by rw[e2];simp⟩;rw[this];rfl
    ·refine⟨i+1,js,⟨i4,?_,i0⟩,i4⟩;rw[aH _ _ b,vj,a];simp[e2]
  ·have j:¬(i:Int)<(s.len:Int):=e;refine⟨⟨-1,i0,?_⟩,i0⟩;rw[qi i4]at a;rw[a];rfl
 ·rintro _ c ⟨⟨i,rfl,f⟩,rfl⟩;exact⟨i,i0,by rw[f],i0⟩
end Go.Qw
namespace Wl
structure dh (m:aC):Prop where
 dr:m.drives.length<=2^30
 ob:m.aF.length<=2^30
 nm:∀e∈m.aF,e.name.size<=2^30/\e.tries.length<=2^30
end Wl
namespace Go.Vc
open Go
theorem addr_add(a:eY)(i j:Nat):(a.add i).add j=a.add (i+j):=by unfold Addr.add;by_cases c:i=0<;>by_cases b:j=0<;>simp[c,b,w5]
theorem cw.xS{h:f8}{a:eY}{e:TypeId}{b:ba}{v:Value}(d:cw h a e b)(i j:Nat)(c:b[i+j]?=dB v):f7 h ((a.add i).add j)=dB v:=by rw[addr_add];exact d.cell c
theorem cw.Ge{h:f8}{a:eY}{e:TypeId}{b:ba}{u v w:Value}(c:cw h a e b)(i:Nat)(d:b[i]?=dB u)(f:b[i+1]?=dB v)(g:b[i+2]?=dB w):aj h (a.add i) 0 [u,v,w]:=
 ⟨c.xS i 0 d,c.xS i 1 f,c.xS i 2 g,trivial⟩
end Go.Vc
namespace Go.Qw
open Go Go.Vc Go.Proofs Wl
abbrev Lr:bU C.toAO 27 94 4 [xw ⟨#[]⟩,xt xz 0,xt xz 0,xu eH 0 0] 56:=⟨_,_,i0,i0,i0,i0,i0,i0⟩
theorem Vo(x:bX)(m:aC)(e:dV)(E:Wl.cz)(h:f8)(l:dH h x m)(B:dQ jk h e E)(J:kV m=eR)(Q:E.name.size<=2^30)(O:E.tries.length<=2^30):
  aq xD 192 #[fT x,xy #[xw e.1,xt xz e.2.1,xt xz e.2.2.1,e.2.2.2]] h λv h'=>v=xx (gX m E)/\Sp h h' []:=by
 refine Lf x e ?_;obtain⟨_,y,d,_⟩:=OR J;have K:=(cm m.p).1 d;obtain⟨⟨F,e2,s⟩,u⟩:=B;have g:x.2.2.1=m.p.1:=congrArg (·.1) l.p;have o:x.2.2.2.1=m.p.2.1:=congrArg (·.2.1) l.p;have f:x.2.2.2.2.1=m.p.2.2:=congrArg (·.2.2) l.p;have L:m.p.1*m.p.2.2<=16*24:=yC i4 i4 i4 i4;have A:0<=m.p.1*m.p.2.2:=vQ i4 i4;refine(Sp.refl h).boxed λP R z=>?_;refine z.boxed λN I r=>?_;have k:∀{h':f8} {As:List HP},Sp h h' As->gX m E=eS->Value.bool eS=xx (gX m E)/\Sp h h' []:=λ{h' As} H' c=>⟨by rw[c],.zip H'.ag⟩
 refine bc ⟨E.name,by rw[<-F];exact(r.box 1 i0).cell0 i0,(Mo E.name I i4).mono ?_⟩;rintro _ h3 ⟨rfl,D⟩;have a:=r.up D.ag;refine⟨_,i0,bi (λb=>k a (by unfold gX;rw[b];rfl)) λj=>?_⟩;refine⟨E.object,by rw[<-e2];exact(a.box 1 i0).cell i0,m.next,by rw[<-l.next];exact(a.box 0 i0).cell i0,?_⟩;dsimp only;rw[af (m.next-1)];refine(pR E.object 0 (m.next-1) h3).mono ?_;rintro _ _ ⟨rfl,rfl⟩;refine⟨_,i0,bi (λb=>k a (by unfold gX;rw[j,b];rfl)) λn=>?_⟩;have c:=a.box 0 i0;refine⟨E.length,by rw[<-s];exact(a.box 1 i0).cell i0,m.p.1,by rw[<-g];exact c.cell i0,m.p.2.2,by rw[<-f];exact c.xS 2 2 i0,?_⟩;dsimp only;rw[af (m.p.1*m.p.2.2),af (m.p.1*m.p.2.2*8)];refine(pR E.length 0 (m.p.1*m.p.2.2*8) _).mono ?_;rintro _ _ ⟨rfl,rfl⟩;refine⟨_,i0,bi (λb=>k a (by unfold gX;rw[j,n,b];rfl)) λi=>?_⟩;have w:0<=E.length/\E.length<=m.p.1*m.p.2.2*8:=by unfold fm at i;simpa using i
 refine⟨e.2.2.2,(a.box 1 i0).cell i0,?_⟩;refine(Sj e.2.2.2 E.tries _ (Seq.up u a.ag) i4).mono ?_;rintro _ _ ⟨rfl,rfl⟩;refine⟨_,i0,bi (λb=>?_) λb=>⟨trivial,k a ?_⟩⟩
 ·have q:E.tries.all (fm · 0 15)=eR:=j6
  refine⟨e.2.2.2,(a.box 1 i0).cell i0,m.p,?_,E.length,by rw[<-s];exact(a.box 1 i0).cell i0,?_⟩
  ·rw[<-g,<-o,<-f];exact c.Ge 2 i0 i0 i0
  ·refine(Cx m.p E.length _).mono ?_;rintro _ M ⟨rfl,G⟩;have t:=a.up G.ag;refine⟨_,i0,⟨(t.box 1 i0).cell i0,trivial⟩,?_,.zip t.ag⟩;unfold gX;have H:=u.len;rw[j,n,i,q,H];simp;rfl
 ·have q:E.tries.all (fm · 0 15)=eS:=j6
  unfold gX;rw[j,n,i,q];rfl
theorem Sk(a:eY)(e:dV)(l:Sl)(b:List Wl.cz)(h:f8)(o:cw h a 94 (bE e))(q:dQ tz h l b)(D:b.length<=2^30):
  aq xD 193 #[l,.func (.func 194) #[] #[xv (dB a)]] h λv h'=>v=xx (b.any λy=>decide (y.object=e.2.1))/\Sp h h' []:=by
 refine gD l (194,#[],#[xv (dB a)]) ?_;refine(ia l (194,#[],#[xv (dB a)]) (R:=λv h'=>(∃i:Int,v=xt xz i/\(decide (i>=0)=b.any λy=>decide (y.object=e.2.1)))/\Sp h h' []) ?_).mono ?_
 ·skip
  obtain⟨p,z,F,x⟩:=bH.jl q;have A:=bH.len q;refine av (λi:Nat=>(i:Int)) (λi h'=>i<=b.length/\(b.take i).any (λy=>decide (y.object=e.2.1))=eS/\Sp h h' []) (λi=>b.length-i) 0 i0 ⟨i4,i9,Sp.refl h⟩ ?_;rintro i n ⟨r,c,j⟩;refine ac (λk=>?_) (λk=>?_)
  ·have d:i<b.length:=by have t:(i:Int)<(l.len:Int):=k;omega
   obtain⟨⟨_,u,_⟩,_⟩:=x i i4 d;refine(Seq.up z j.ag).dZ (g:=bE) i i0 i4 (p[i]'(by omega)) i0 (fo ld ?_);refine(Lg (p[i]'(by omega)) a (R:=λv h'=>v=xx (b[i].object==e.2.1)/\Sp n h' []) ?_).mono ?_
   ·skip
    refine(Sp.refl n).boxed λE w f=>?_;have m:=o.ag (up j.ag f.ag) o.lt;exact⟨b[i].object,by rw[<-u];exact(f.box 0 i0).cell i0,e.2.1,m.cell i0,i0,.zip f.ag⟩
   ·rintro _ w ⟨rfl,B⟩;have f:=j.up B.ag;refine⟨_,i0,cy (λe2=>?_) λe2=>?_⟩
    ·refine⟨⟨i,i0,?_⟩,f⟩;rw[g9 (show(i:Int)>=0 by omega)];exact(wk.2 ⟨_,qg d,n3⟩).symm
    ·refine⟨i+1,js,⟨i4,?_,f⟩,i4⟩;rw[aH _ _ d,yU,c];simpa using e2
  ·have t:¬(i:Int)<(l.len:Int):=k;refine⟨⟨-1,i0,?_⟩,j⟩;rw[qi i4]at c;rw[c];rfl
 ·rintro _ n ⟨⟨i,rfl,r⟩,s⟩;exact⟨i,i0,q0,s⟩
theorem PS(x:bX)(m:aC)(h:f8)(c:dH h x m)(Q:dh m):aq xD 129 #[fT x] h λv h'=>v=xx (bL m)/\Sp h h' []:=by
 refine PF x ?_;refine(Sp.refl h).boxed λN h1 H=>?_;have w:=H.box 0 i0;have T:x.2.2.1=m.p.1:=congrArg (·.1) c.p;have P:x.2.2.2.1=m.p.2.1:=congrArg (·.2.1) c.p;have I:x.2.2.2.2.1=m.p.2.2:=congrArg (·.2.2) c.p;have y:∀{h':f8} {As:List HP},Sp h h' As->bL m=eS->Value.bool eS=xx (bL m)/\Sp h h' []:=λ{h' As} H' w=>⟨by rw[w],.zip H'.ag⟩
 refine bc ⟨m.seq,by rw[<-c.seq];exact w.cell0 i0,(pR m.seq 1 2147483647 h1).mono ?_⟩;rintro _ _ ⟨rfl,rfl⟩;refine⟨_,i0,bi (λb=>y H (by unfold bL kV;rw[b];rfl)) λE=>?_⟩;refine⟨m.next,by rw[<-c.next];exact w.cell i0,(pR m.next 0 16777216 _).mono ?_⟩;rintro _ _ ⟨rfl,rfl⟩;refine⟨_,i0,bi (λb=>y H (by unfold bL kV;rw[E,b];rfl)) λS=>?_⟩;refine⟨m.p,by rw[<-T,<-P,<-I];exact w.Ge 2 i0 i0 i0,(eT m.p _).mono ?_⟩;rintro _ h2 ⟨rfl,R2⟩;have q:=H.up R2.ag;refine⟨_,i0,bi (λb=>y q (by unfold bL kV;rw[E,S,b];rfl)) λZ=>?_⟩;refine⟨m.extra,by rw[<-c.extra];exact(q.box 0 i0).cell i0,(pR m.extra 0 16 _).mono ?_⟩;rintro _ _ ⟨rfl,rfl⟩;refine⟨_,i0,bi (λb=>y q (by unfold bL kV;rw[E,S,Z,b];rfl)) λb4=>?_⟩;have G:kV m=eR:=by unfold kV;rw[E,S,Z,b4];rfl
 have U:=c.up q.ag;have z:=q.box 0 i0;have ah:=Q.dr;have ao:=Q.ob;refine bc ⟨_,z.cell i0,(XS _ m.drives 63 _ U.drives i4).mono ?_⟩;rintro _ _ ⟨rfl,rfl⟩;refine⟨_,i0,bi (λb=>y q (by unfold bL;rw[G,b];rfl)) λb5=>?_⟩;have ab:=bH.len c.aF;refine⟨x.2.2.2.2.2.2.2,z.cell i0,ac (λe=>y q ?_) λam=>?_⟩
 ·unfold bL;rw[G,b5,hU i4];rfl
 have O:ii m.aF<=12:=i4
 refine⟨x.2.2.2.2.2.2.2,z.cell i0,?_⟩;obtain⟨l,B⟩:=bH.fix c.aF;have ad:=B.2.1;refine av (λi:Nat=>(i:Int)) (λi h'=>i<=ii m.aF/\(∀j,j<i->oG m j=eR)/\Sp h h' [al N 29 (aS x)]) (λi=>ii m.aF-i) 0 i0 ⟨i4,i4,q⟩ ?_;rintro i h3 ⟨hi,o,R⟩;refine ac (λe=>?_) (λe=>?_)
 ·have k:i<ii m.aF:=by have e':(i:Int)<(x.2.2.2.2.2.2.2.len:Int):=e;omega
  have D:=Q.nm _ (qg k);have d:oE m.aF i=m.aF[i]:=nY k;have A:∀{h':f8} {As:List HP},Sp h h' As->oG m i=eS->Value.bool eS=xx (bL m)/\Sp h h' []:=λ{h' As} H' w=>y H' (by unfold bL;rw[Eb k w];simp);have F3:=nD.up B R.ag;refine F3.1.dZ (g:=bE) i i0 i4 (l[i]'(by omega)) i0 ?_;refine R.alloc an i0 λs h4 H4=>?_;refine H4.storeAll an 1 i0 i0 (bE (l[i]'(by omega))) i0 i0 i0 i0 λV r=>?_;have r:Sp h V [al N 29 (aS x),al s 94 (bE (l[i]'(by omega)))]:=r;have X:=nD.up B r.ag;obtain⟨⟨y1,y2,y3⟩,y4⟩:=Fix.row X k;obtain⟨b6,f⟩:∃b,b=(decide (i=0)||fp (oE m.aF (i-1)).name (oE m.aF i).name):=⟨_,rfl⟩
  refine bT (λ_ h'=>gX m m.aF[i]=eR/\b6=eR/\Sp h h' [al N 29 (aS x),al s 94 (bE (l[i]'(by omega)))]) ?_ ?_
  ·refine⟨x,(r.box 0 i0).aP _ i0,l[i]'(by omega),(r.box 1 i0).aP _ i0,?_⟩;refine(Vo x m (l[i]'(by omega)) m.aF[i] V (c.up r.ag) (Fix.row X k) G D.1 D.2).mono ?_;rintro _ W ⟨rfl,R6⟩;have a:=r.up R6.ag;have F:=nD.up B a.ag;refine⟨_,i0,trivial,bi (λb=>A a (by unfold oG;rw[d,b];rfl)) λb=>ac (λe2=>?_) λe2=>⟨b,by rw[f,g9 (show i=0 by omega)];rfl,a⟩⟩;rw[af ((i:Int)-1)];obtain⟨M,ha,zz,hc,rfl⟩:=F.1.dZ (g:=bE) (i:=(i:Int)-1) (i-1) i4 i4 (l[i-1]'(by omega)) rfl (K:=λt=>t=l[i-1]'(by omega)) rfl;refine⟨x.2.2.2.2.2.2.2,(a.box 0 i0).cell i0,M,ha,m.aF[i-1].name,?_,m.aF[i].name,?_,?_⟩
   ·rw[<-(Fix.row F (show i-1<ii m.aF by omega)).1.1];exact hc.1
   ·rw[<-y1];exact(a.box 1 i0).cell0 i0
   ·have n:oE m.aF (i-1)=m.aF[i-1]:=nY;rw[d,n]at f;refine bi (λu=>A a ?_) (λu=>⟨b,?_,a⟩)
    ·unfold oG;rw[d,n,b,hU (show¬i=0 by omega)];unfold fp;rw[u];rfl
    ·rw[f];unfold fp;rw[u];simp
  ·rintro _ W ⟨b,L,a⟩;have F:=nD.up B a.ag;refine⟨x.2.2.2.2.2.2.2,(a.box 0 i0).cell i0,⟨i4,by have:=c.ocap;omega⟩,?_⟩;rw[ql];refine(Sk s (l[i]'(by omega)) ⟨x.2.2.2.2.2.2.2.ptr,i,x.2.2.2.2.2.2.2.cap⟩ (m.aF.take i) W (a.box 1 i0) (bH.take F.elt i i4) i7).mono ?_;rintro _ h7 ⟨rfl,R7⟩;have Y:=a.up R7.ag;rw[y2];refine⟨_,i0,bA (λu=>A Y ?_) λu=>?_⟩
   ·unfold oG;rw[d,u];simp
   ·refine⟨i+1,js,⟨i4,λj hj=>?_,Y.cu [0]⟩,i4⟩;by_cases J:j=i
    ·subst J;rw[L]at f;unfold oG;rw[<-f,d,b,u];rfl
    ·exact o j i4
 ·have e':¬(i:Int)<(x.2.2.2.2.2.2.2.len:Int):=e;refine⟨?_,.zip R.ag⟩;unfold bL;rw[G,b5,g9 O,se λj hj=>o j i4];rfl
variable {B:aA} {h0 h:f8} {As:List HP}
theorem rE(s:Sl)(l:aV)(n:Int)(k:Nat)(r:k<=4)(w:ii l<=2^20)(H:aa B h0 h (ae 5 s 1 aD l::As)):
  aq xD 195 #[s,xt xz n,xt xz k] h λv h'=>∃b:Sl,v=b/\aa B h0 h' (ae 5 b 1 aD (l++cg n k)::As):=by
 refine Jm s n k ?_;have f:=cG n k;refine av (λt:Sl×Nat=>(t.1,(k:Int)-1-t.2)) (λt h'=>t.2<=k/\aa B h0 h' (ae 5 t.1 1 aD (l++(cg n k).take t.2)::As)) (λt=>k-t.2) (s,0) (by rw[af _];simp) ⟨i9,lb⟩ ?_;rintro⟨o,j⟩ x ⟨q,a⟩;dsimp only at*;refine ac (λe=>?_) (λe=>?_)
 ·have d:j<k:=i4
  rw[af ((8:Int)*((k:Int)-1-j))];refine⟨i4,?_⟩;have m:((8:Int)*((k:Int)-1-j)).toNat=8*(k-1-j):=i4
  have i:min (8*(k-1-j)) (qk xz)=8*(k-1-j):=by have:qk xz=64:=rfl;omega
  rw[m,i,ez];have p:b8 (qZ n (2^(8*(k-1-j))))=(cg n k)[j]'(by omega):=by simp[cg]
  rw[p];refine a.push an 0 i0 gU i0 i5 (λ_=>rfl) iF ((cg n k)[j]'(by omega)) i0 i5 i7 λg u c=>?_;refine⟨(g,j+1),by dsimp only;rw[af _];congr 1;omega,⟨i6,?_⟩,i6⟩;dsimp only;rw[aH _ _ (show j<ii (cg n k) by omega),<-qp];exact c
 ·rw[qi i4]at a;exact⟨o,i0,a⟩
theorem Jv(b:Sl)(l:aw)(o:Sl)(c:aV)(H:aa B h0 h (ae 5 o 1 aD c::As))(r:St B h0 As λh=>Rd h b 1 ak l)(D:ii c<=2^30)(F:ii l<=2^30){K:Sl×Int->f8->Prop}
  (v:∀q h',aa B h0 h' (ae 5 q 1 aD (c++l.map b8)::As)->K (q,(ii l:Int)) h'):
  aI (σ:=Sl×Int) (λa y h8=>
 Br (decide (a.2<((b.len:Nat):Int)))
 (∃g:eY,(b.ptr=dB g/\0<=a.2/\a.2<((b.len:Nat):Int))/\
 ∃k:Int,f7 h8 (g.add (a.2.toNat*1))=dB (xt xz k)/\
 bV xD (Instr.buildSlice 71 1 #[(0,(xt xA (qc xA k)))]) (.one (.sc .slc)) h8 λf x=>
 bV xD (Builtin.append_ #[71,71] 71 #[(xu a.1.ptr a.1.len a.1.cap),(xu f.ptr f.len f.cap)]) (.one (.sc .slc)) x λd n=>
 y ((⟨d.ptr,d.len,d.cap⟩:Sl),qc xz (a.2+(1:Int))) n)
 (K a h8)) (o,(0:Int)) h:=by
 have w:b.len=ii l:=(r.at [_] H).len;refine av (λt:Sl×Nat=>(t.1,(t.2:Int))) (λt h'=>t.2<=ii l/\aa B h0 h' (ae 5 t.1 1 aD (c++(l.take t.2).map b8)::As)) (λt=>ii l-t.2) (o,0) i0 ⟨i9,lb⟩ ?_;rintro⟨u,i⟩ A ⟨G,m⟩;dsimp only at*;refine ac (λe=>?_) (λe=>?_)
 ·have j:i<ii l:=i4
  refine(r.at [_] m).bD i i0 j l[i] i0 ?_;rw[ez];refine m.push an 0 i0 gU i0 i5 (λ_=>rfl) iF (b8 l[i]) i0 i5 i7 λz E s=>?_;refine⟨(z,i+1),jj,⟨i6,?_⟩,i6⟩;dsimp only;rw[aH _ _ j,qS,<-qp];exact s
 ·have p:i=ii l:=i4
  subst p;rw[qV]at m;exact v u A m
theorem adH{m:aC}(a:bL m=eR){i:Nat}(b:i<ii m.aF):gX m m.aF[i]=eR:=by
 unfold bL at a;simp only[qC]at a;have:=q7.1 a.2.2.2 i (qJ.2 b);unfold oG at this;simp only[qC]at this;have c:=this.1
 rwa [nY b]at c
theorem XT{m:aC}(c:bL m=eR){i:Nat}(f:i<m.aF.length):m.aF[i].name.size<=12/\m.aF[i].tries.length<=3073:=by
 have b:=adH c f;unfold gX mB at b;simp only[qC,decide_eq_true_eq]at b;obtain⟨⟨_,_,h⟩,_,h3,_,d⟩:=b;refine⟨h,?_⟩;obtain⟨_,_,a,_⟩:=OR (Xg c);have e:=(cm m.p).1 a;unfold fm at h3;simp only[qC,decide_eq_true_eq]at h3;have j:m.p.1*m.p.2.2<=16*24:=yC i4 i4 i4 i4;unfold countP at d;split at d
 ·have:(m.aF[i].length-1)/(m.p.1*m.p.2.2)<=m.aF[i].length-1:=Int.ediv_le_self _ (by rename_i g;simp at g;omega);omega
 ·omega
theorem XU{m:aC}(b:bL m=eR){i:Nat}(a:i<ii m.aF):ii (jo m.aF[i])<=4000:=by have:=XT b a;unfold jo;simp[cG];have:m.aF[i].name.data.size=m.aF[i].name.size:=rfl;omega
theorem EP{m:aC}(a:bL m=eR):∀n,n<=ii m.aF->ii ((m.aF.take n).flatMap jo)<=n*4000
 |0,_=>i9
 |n+1,hn=>by
  rw[aH _ _ (show n<ii m.aF by omega),zg,qw];have b:=EP a n i4;have c:=XU a (show n<ii m.aF by omega);have h3:ii ([m.aF[n]].flatMap jo)=ii (jo m.aF[n]):=by rw[zf,z7,qM]
  omega
theorem HX{m:aC}(a:bL m=eR):ii m.aF<=12:=by unfold bL at a;simp only[qC,decide_eq_true_eq]at a;exact a.2.2.1
theorem HY(m:aC)(j:dh m):ii (gN m)<=100000:=by
 unfold gN;split
 ·rename_i c;have f:=c;unfold bL at f;simp only[qC,decide_eq_true_eq]at f;have h:ii m.drives<=64:=by
   have a:=f.2.1;unfold oF at a;rw[q7]at a;by_cases g:ii m.drives<=64
   ·exact g
   ·exfalso;have b:∀i,i<ii m.drives->(i:Int)<=m.drives.getD i 0:=λi=>by
     induction i with
     |zero=>
      intro d;have:=a 0 (qJ.2 d);unfold jN fm at this;simp at this;simpa using this.1
     |succ i ih=>
      intro d;have:=a (i+1) (qJ.2 d);have h3:=ih i4;unfold jN fm at this;simp at this;have e:=this.2;simp only[qe]at h3⊢;omega
    have h3:=b 64 i4;have e:=a 64 (qJ.2 i4);unfold jN fm at e;simp at e;simp only[qe]at h3;omega
  have k:ii (m.aF.flatMap jo)<=12*4000:=by have a:=EP c m.aF.length (qm _);rw[qV]at a;have:=za 4000 (HX c);omega
  simp only[qw,zh,yV,qx,cG];omega
 ·simp
theorem XV(x:bX)(m:aC)(h:f8)(d:dH h x m)(hz:dh m):aq xD 130 #[fT x] h λv h'=>∃r:Sl,v=r/\Sp h h' [ae 5 r 1 aD (gN m)]:=by
 refine Ns x ?_;refine(Sp.refl h).boxed λZ h1 H1=>?_;refine⟨x,(H1.box 0 i0).aP _ i0,(PS x m h1 (d.up H1.ag) hz).mono ?_⟩;rintro _ h2 ⟨rfl,R2⟩;have H2:=H1.up R2.ag;refine⟨_,i0,bi (λe=>?_) λz=>?_⟩
 ·unfold gN;rw[e];exact⟨⟨eH,0,0⟩,i0,((H2.nil 5 1 aD).cu [1])⟩
 have a2:x.2.2.1=m.p.1:=congrArg (·.1) d.p;have ad:x.2.2.2.1=m.p.2.1:=congrArg (·.2.1) d.p;have U:x.2.2.2.2.1=m.p.2.2:=congrArg (·.2.2) d.p;have L:=H2.box 0 i0;have b:=HY m hz;unfold gN at b;rw[z,f9 rfl]at b;have hM:∀{h':f8} {As:List HP},Sp h h' As->dH h' x m:=λ{h' As} N=>d.up N.ag;refine bc ⟨m.seq,by rw[<-d.seq];exact L.cell0 i0,m.next,by rw[<-d.next];exact L.cell i0,?_⟩;have H3:=(H2.nil 5 1 aD).bv;refine(rE ⟨eH,0,0⟩ [] m.seq 4 i5 i9 H3).mono ?_;rintro _ h4 ⟨s4,rfl,H4⟩;refine⟨s4,i0,⟨by rw[<-d.next];exact(H4.box 1 i0).cell i0,trivial⟩,?_⟩;refine(rE s4 _ m.next 4 i5 pb H4).mono ?_;rintro _ h5 ⟨s5,rfl,H5⟩;refine⟨s5,i0,trivial,?_⟩;have f:=H5.box 1 i0;refine⟨m.p.1,by rw[<-a2];exact f.cell i0,m.p.2.1,by rw[<-ad];exact f.xS 2 1 i0,m.p.2.2,by rw[<-U];exact f.xS 2 2 i0,m.extra,by rw[<-d.extra];exact f.cell i0,x.2.2.2.2.2.2.1,f.cell i0,?_⟩;have X:=d.drives.len;have ap:=bH.len d.aF;dsimp only;rw[ez,ez,ez,ez,ez,X];refine H5.lit an aD gU i0 [b8 m.p.1,b8 m.p.2.1,b8 m.p.2.2,b8 m.extra,b8 (m.drives.length:Nat)] i0 (show 5*1<=2^20 by decide) i0 λbb h6 H6=>?_;refine H6.append an 0 i0 gU ⟨_,_,i0,i0⟩ i0 i5 (λ_=>rfl) (H6.seq 2 i0 λ_=>rfl) iF pb λs7 h7 Q=>?_;have Q:=Q.cu [0,1];refine⟨x.2.2.2.2.2.2.1,(Q.box 1 i0).cell i0,?_⟩;have a3:(([]++cg m.seq 4)++cg m.next 4++[b8 m.p.1,b8 m.p.2.1,b8 m.p.2.2,b8 m.extra,b8 (m.drives.length:Nat)]).length=13:=pb
 have a6:=hz.dr;refine Jv x.2.2.2.2.2.2.1 m.drives s7 _ Q (St.mk' λh' N=>(hM N).drives) i4 i4 λs8 h8 W=>?_;dsimp only;refine⟨x.2.2.2.2.2.2.2,(W.box 1 i0).cell i0,?_⟩;dsimp only;rw[ez,ap];obtain⟨a,c⟩:∃a,a=([]++cg m.seq 4)++cg m.next 4++[b8 m.p.1,b8 m.p.2.1,b8 m.p.2.2,b8 m.extra,b8 (m.drives.length:Nat)]++m.drives.map b8:=⟨_,rfl⟩
 rw[<-c]at W;have T:a.length=13+m.drives.length:=by rw[c];simp[cG];omega
 simp only[qw,zh,yV,qx,cG]at b;refine W.push an 0 i0 gU i0 i5 (λ_=>rfl) iF (b8 (m.aF.length:Nat)) i0 i5 i4 λs9 h9 R=>?_;have R:Sp h h9 [ae 5 s9 1 aD (a++[b8 (m.aF.length:Nat)]),al Z 29 (aS x)]:=R;refine⟨x.2.2.2.2.2.2.2,(R.box 1 i0).cell i0,?_⟩;obtain⟨J,P⟩:=bH.fix d.aF;have a7:=P.2.1;refine av (λt:Sl×Nat=>(t.1,(t.2:Int))) (λt h'=>t.2<=m.aF.length/\Sp h h' [ae 5 t.1 1 aD (a++[b8 (m.aF.length:Nat)]++(m.aF.take t.2).flatMap jo),al Z 29 (aS x)]) (λt=>m.aF.length-t.2) (s9,0) i0 ⟨i9,by simpa using R⟩ ?_;rintro⟨o,i⟩ bl ⟨hi,l⟩;dsimp only at*;refine ac (λe=>?_) (λe=>?_)
 ·have q:i<m.aF.length:=i4
  have Y:=nD.up P l.ag;have ay:=XT z q;have n:((m.aF.take i).flatMap jo).length<=50000:=by have h1:=EP z i hi;have:=HX z;have:i*4000<=12*4000:=za _ i4;omega
  refine Y.1.dZ (g:=bE) i i0 i4 (J[i]'(by omega)) i0 ?_;refine l.alloc an i0 λah a9 ax=>?_;refine ax.storeAll an 2 i0 i0 (bE (J[i]'(by omega))) i0 i0 i0 i0 λab j=>?_;have V:=nD.up P j.ag;obtain⟨⟨w,y2,S⟩,y4⟩:=Fix.row V q;obtain⟨E,hE⟩:∃E,E=m.aF[i]:=⟨_,rfl⟩
  rw[<-hE]at w y2 S y4 ay;have s:=j.box 2 i0;refine bc ⟨E.name,nq,E.name,nq,?_⟩;rw[ez];refine j.ne an aD gU i0 [b8 (E.name.size:Nat)] i0 (show 1*1<=2^20 by decide) i0 ⟨nq,nq,trivial⟩ ?_;have G:(a++[b8 (m.aF.length:Nat)]++(m.aF.take i).flatMap jo).length<=160000:=by rw[qw,qw,T];simp;simp at n;omega
  obtain⟨k,I⟩:∃k,k=a++[b8 (m.aF.length:Nat)]++(m.aF.take i).flatMap jo:=⟨_,rfl⟩
  rw[<-I]at j G;refine j.push an 0 i0 gU i0 i5 (λ_=>rfl) iF (b8 (E.name.size:Nat)) i0 i5 i4 λa5 bk K=>?_;have F:=K.box 2 i0;refine⟨⟨by rw[<-w];exact F.cell0 i0,by rw[<-w];exact F.cell0 i0,trivial⟩,?_⟩;refine K.Xf an 0 i0 gU ⟨_,i0,i0⟩ i0 i5 E.name i7 λD ar u=>?_;have y:=u.box 2 i0;refine⟨⟨by rw[<-w];exact y.cell0 i0,trivial⟩,?_⟩;have u:Sp h ar [ae 5 D 1 aD (k++[b8 (E.name.size:Nat)]++jf E.name),al Z 29 (aS x),al ah 94 (bE (J[i]'(by omega)))]:=u;refine bc ⟨E.object,by rw[<-y2];exact y.cell i0,E.length,by rw[<-S];exact y.cell i0,?_⟩;have a4:=BP E.name;refine(rE D _ E.object 3 i5 i7 u).mono ?_;rintro _ a8 ⟨A,rfl,M⟩;have a0:=M.box 2 i0;refine⟨A,i0,⟨by rw[<-S];exact a0.cell i0,trivial⟩,?_⟩;refine(rE A _ E.length 2 i5 l9 M).mono ?_;rintro _ bq ⟨O,rfl,H⟩;have ao:=H.box 2 i0;refine⟨O,i0,trivial,(J[i]'(by omega)).2.2.2,ao.cell i0,?_⟩;refine Jv (J[i]'(by omega)).2.2.2 E.tries O _ H (St.mk' λh' N=>by rw[hE];exact(Fix.row (nD.up P N.ag) q).2) l9 i4 λam bd B=>?_;dsimp only;have ab:=HX z;refine⟨(am,i+1),jj,⟨i6,?_⟩,i6⟩;dsimp only;rw[aH _ _ q,zg,<-qp,<-I,zf,z7,qM,<-hE];have e3:k++[b8 (E.name.size:Nat)]++jf E.name++cg E.object 3++cg E.length 2++E.tries.map b8=k++jo E:=by unfold jo jf;simp[qp]
  rw[e3]at B;exact B.cu [0,1]
 ·rw[qi i4]at l;refine⟨o,i0,?_⟩;have e2:a++[b8 (m.aF.length:Nat)]++m.aF.flatMap jo=gN m:=by rw[c];unfold gN;rw[z,f9 rfl];simp[qp]
  rw[e2]at l;exact l.cu [0]
end Go.Qw
namespace Go.Vc
open Go Wl
def dM{α:Type}(k:Nat)(f:α->ba)(L:List (Sl×List α)):HP:=⟨λh q=>∀y∈L,Seq h q y.1 k f y.2,λa c y b=>(a y b).ag c,λa d y b=>(a y b).mono d⟩
variable {α:Type} {B:aA} {h0 h:f8} {As:List HP} {k:Nat} {f:α->ba} {L:List (Sl×List α)} {s:Sl} {l:List α}
theorem aa.TU(H:aa B h0 h As)(k:Nat)(f:α->ba):aa B h0 h (dM k f []::As):=
 (H.comp (.one (A:=dM k f []) (aZ.refl _ _) λy a=>by cases a)).bv
theorem aa.TV(H:aa B h0 h (dM k f L::rY s k f l::As)):aa B h0 h (dM k f ((s,l)::L)::As):=by
 have g:aa B h0 h ((rY s k f l).sep (dM k f L)::As):=H.lJ;refine g.gb 0 i0 λq ⟨i,j,_,b,c,d,e⟩ y a=>?_;rcases q8.1 a with rfl|a
 ·exact d.mono b
 ·exact(e y a).mono c
end Go.Vc
namespace Go.Qw
open Go Go.Vc Go.Proofs Wl
theorem afd(n:Int):cg n 4=[b8 (qZ n (2^24)),b8 (qZ n (2^16)),b8 (qZ n (2^8)),b8 n]:=by
 have e:qZ n (2^0)=n:=i9
 show[b8 (qZ n (2^24)),b8 (qZ n (2^16)),b8 (qZ n (2^8)),b8 (qZ n (2^0))]=_;rw[e]
theorem XW(seq a c:Int)(b:Sl)(l:aV)(h:f8)(n:Rd h b 1 aD l)(w:ii l<=2^20):aq xD 131 #[xt xz seq,xt xz a,xt xz c,b] h λv h'=>∃r:Sl,v=r/\Sp h h' [ae 5 r 1 aD (kg seq a c l)]:=by
 refine PG seq a c b ?_;refine⟨i5,i5,i5,?_⟩;have g:min (24:Int).toNat (qk xz)=24:=rfl;have j:min (16:Int).toNat (qk xz)=16:=rfl;have t:min (8:Int).toNat (qk xz)=8:=rfl;rw[g,j,t,ez,ez,ez,ez,ez,ez,ez];have d:=afd seq;generalize b8 (qZ seq (2^24))=c1 at d⊢;generalize b8 (qZ seq (2^16))=c2 at d⊢;generalize b8 (qZ seq (2^8))=c3 at d⊢;generalize b8 seq=c4 at d⊢;have e:kg seq a c l=dX 2 ([c1,c2,c3,c4]++([b8 a,b8 c,b8 (b.len:Nat)]++l)):=by unfold kg;rw[d,n.len]
 generalize b8 a=c5 at e⊢;generalize b8 c=c6 at e⊢;generalize b8 (b.len:Nat)=c7 at e⊢;refine(Sp.refl h).lit an aD gU i0 [c1,c2,c3,c4,c5,c6,c7] i0 (show 7*1<=2^20 by decide) j1 λu x o=>?_;refine o.append an 0 i0 gU ⟨_,_,i0,i0⟩ i0 i5 (λ_=>rfl) (Seq.up n o.ag) iF i7 λk p m=>?_;have q:Rd p k 1 aD ([c1,c2,c3,c4,c5,c6,c7]++l):=m.seq 0 i0 λ_=>rfl;have f:ii ([c1,c2,c3,c4,c5,c6,c7]++l)<=2^40:=i7
 rw[e];have i:[c1,c2,c3,c4,c5,c6,c7]++l=[c1,c2,c3,c4]++([c5,c6,c7]++l):=rfl;rw[<-i];generalize [c1,c2,c3,c4,c5,c6,c7]++l=ll at q f⊢;refine(EO 2 k ll p q f).mono ?_;rintro _ h3 ⟨r,rfl,s⟩;exact⟨r,i0,r,i0,(aa.comp (Sp.zip m.ag) s)⟩
theorem oY(x:bX)(m:aC)(h:f8)(E:dH h x m)(z:dh m):aq xD 68 #[fT x] h λv h'=>∃r:Sl,v=r/\Sp h h' [fG r (bn m)]:=by
 refine KV x ?_;refine(Sp.refl h).boxed λD P k=>?_;refine⟨x,(k.box 0 i0).aP _ i0,(XV x m P (E.up k.ag) z).mono ?_⟩;rintro _ L ⟨b,rfl,N⟩;have j:=k.comp N;have u:=HY m z;obtain⟨l,q⟩:∃l,l=gN m:=⟨_,rfl⟩
 rw[<-q]at j u;have H:=(j.own 1 i0).len;have p:=(j.own 1 i0).cap;refine⟨b,i0,i5,?_⟩;have g:qc xz (wz (qc xz ((qc xz (((b.len:Nat):Int)+(48:Int)))-(1:Int))) (48:Int))=(iB l:Int):=by rw[af ((b.len:Int)+48),af ((b.len:Int)+48-1),Int.tdiv_eq_ediv_of_nonneg i4];unfold iB;rw[af (((b.len:Int)+48-1)/48)];omega
 have M:iB l<=3000:=by unfold iB;omega
 rw[g];obtain⟨a,c⟩:∃a:cI,a=bn m:=⟨_,rfl⟩
 have A:ii a=iB l:=by rw[c,q];simp[bn]
 have d:Sp h L [fG ⟨eH,0,0⟩ (a.take 0),al D 29 (aS x),ae 5 b 1 aD l]:=j.Aj 71 5 1 aD;refine av (λt:Sl×Nat=>(t.1,(t.2:Int))) (λt h'=>t.2<=iB l/\Sp h h' [fG t.1 (a.take t.2),al D 29 (aS x),ae 5 b 1 aD l]) (λt=>iB l-t.2) (⟨eH,0,0⟩,0) i0 ⟨i9,d⟩ ?_;rintro⟨o,i⟩ h3 ⟨T,d⟩;dsimp only at*;refine ac (λe=>?_) (λe=>?_)
 ·have n:i<iB l:=i4
  have B:48*i<ii l:=by unfold iB at n;omega
  rw[af ((i:Int)*48),af ((i:Int)+1),af (((i:Int)+1)*48)];obtain⟨f,O⟩:∃f:Nat,f=min (48*i+48) l.length:=⟨_,rfl⟩
  have s:(if((i:Int)+1)*48<((b.len:Nat):Int)then((i:Int)+1)*48 else((b.len:Nat):Int))=(f:Int):=by split<;>omega
  rw[s];refine⟨m.seq,by rw[<-E.seq];exact(d.box 1 i0).cell0 i0,⟨i4,i4,i4⟩,?_⟩;have I:((i:Int)*48).toNat=48*i:=i4
  rw[I,ql];have y:=((d.seq 2 i0 λ_=>rfl).drop (48*i) p).take (f-48*i) l5;have e2:(l.drop (48*i)).take (f-48*i)=(l.drop (48*i)).take 48:=by
   by_cases R:48*i+48<=ii l
   ·rw[show f-48*i=48 by omega]
   ·rw[qi l5,qi l5]
  rw[e2,z8]at y;refine(XW m.seq i (iB l) ⟨_,f-48*i,b.cap-48*i⟩ _ h3 (by rw[z8];exact y) i7).mono ?_;rintro _ S ⟨r,rfl,K⟩;have w:=(d.cj K).aT 4 [1,0,2,3];refine⟨r,i0,trivial,?_⟩;refine w.ne an bp fF i0 [r] i0 (show 1*1<=2^20 by decide) i0 trivial ?_;refine w.FN an fF i7 λJ Q G=>⟨trivial,?_⟩
  refine⟨(J,i+1),i0,⟨i6,?_⟩,i6⟩;dsimp only;rw[aH _ _ (show i<ii a by omega)];have F:a[i]'(by omega)=kg m.seq i (iB l) ((l.drop (48*i)).take 48):=by subst c;subst q;simp[bn]
  rw[F];exact G
 ·rw[qi i4,c]at d;exact⟨o,i0,d.cu [0]⟩
theorem Sm(s:Sl)(a:List dV)(h:f8)(b:Rd h s 4 bE a)(g:ii a<=2^30):aq xD 105 #[s] h λv h'=>∃r:Sl,v=r/\Sp h h' [ae 94 r 4 bE a]:=by
 refine mS s ?_;refine bA (λe=>?_) (λe=>?_)
 ·have:=b.isNil e;subst this;exact⟨⟨eH,0,0⟩,i0,(Sp.refl h).nil 94 4 bE⟩
 ·refine(Sp.refl h).lit an bE Lr i0 ([]:List dV) i0 i5 i0 λi j c=>?_;refine c.append an 0 i0 Lr ⟨_,_,i0,i0⟩ i0 i5 (λ_=>rfl) (Seq.up b c.ag) Lq i7 λd k f=>?_;exact⟨d,i0,f⟩
def Cy(pool:List (Sl×aw))(p:dV×Wl.cz):Prop:=(p.1.1=p.2.name/\p.1.2.1=p.2.object/\p.1.2.2.1=p.2.length)/\(p.1.2.2.2,p.2.tries)∈pool
theorem aa.Cz{B:aA}{l h:f8}{As:List HP}{y:bX}{m:aC}{L:List (dV×Wl.cz)}{pool:List (Sl×aw)}(f:y.1=m.seq/\y.2.1=m.next/\(y.2.2.1,y.2.2.2.1,y.2.2.2.2.1)=m.p/\y.2.2.2.2.2.1=m.extra)(n:L.map zL=m.aF)(u:∀p∈L,Cy pool p)
  (H:aa B l h (dM 1 ak pool::ae 3 y.2.2.2.2.2.2.1 1 ak m.drives::ae 94 y.2.2.2.2.2.2.2 4 bE (L.map qK)::As)):aa B l h (bS y m::As):=by
 have i:=(H.own 2 i0)
 have g:=(H.own 1 i0)
 have v:=((H.freeze 1 i0 λ_=>rfl).freeze 2 i0 λ_=>rfl).lJ.lJ;refine v.gb 0 i0 λq ⟨G,I,_,b,c,t,D⟩=>?_;obtain⟨F,E,_,o,z,z3,z4⟩:=D;refine⟨f.1,f.2.1,f.2.2.1,f.2.2.2,z3.mono λx k=>c x (o x k),⟨L.map qK,t.mono b,by rw[<-n];simp,λj r e a d=>?_⟩,g.cap,i.cap⟩;rw[<-n]at d;rw[qR]at a d;cases hj:L[j]? with
 |none=>rw[hj]at a;cases a
 |some p=>
  rw[hj]at a d;have w:=zP.inj (show dB p.1=dB r from a);have e2:=zP.inj (show dB p.2=dB e from d);subst w;subst e2;obtain⟨A,s⟩:=u p (yd hj);exact⟨A,(z4 _ s).mono λx k=>c x (z x k)⟩
theorem np(x:bX)(m:aC)(h:f8)(w:dH h x m)(M:dh m):aq xD 46 #[fT x] h λv h'=>∃(y:bX) (L:List (dV×Wl.cz)) (pool:List (Sl×aw)),v=fT y/\(y.1=m.seq/\y.2.1=m.next/\(y.2.2.1,y.2.2.2.1,y.2.2.2.2.1)=m.p/\y.2.2.2.2.2.1=m.extra)/\L.map zL=m.aF/\(∀p∈L,Cy pool p)/\
  Sp h h' [dM 1 ak pool,ae 3 y.2.2.2.2.2.2.1 1 ak m.drives,ae 94 y.2.2.2.2.2.2.2 4 bE (L.map qK)]:=by
 refine Pw x ?_;refine(Sp.refl h).boxed λR k H1=>?_;refine H1.alloc an i0 λS u O=>?_;have A:=O.box 0 i0;have hM:∀{h':f8} {As:List HP},Sp h h' As->dH h' x m:=λ{h' As} H'=>w.up H'.ag;obtain⟨b,F⟩:=bH.fix w.aF;have Y:=F.2.1;have U:=M.dr;have ad:=M.ob;refine bc ⟨x.2.2.2.2.2.2.1,A.cell i0,x.2.2.2.2.2.2.2,A.cell i0,?_⟩;refine(jF _ m.drives u (hM O).drives i4).mono ?_;rintro _ h3 ⟨d,rfl,R3⟩;have Q:=O.comp R3;refine⟨d,i0,⟨(Q.box 0 i0).cell i0,trivial⟩,?_⟩;refine(Sm _ b h3 (nD.up F Q.ag).1 i4).mono ?_;rintro _ h4 ⟨o,rfl,R4⟩;have H4:=Q.comp R4;refine⟨o,i0,trivial,?_⟩;refine H4.store an 0 i0 i0 6 [d] i0 i0 i0 j7 λh5 H5=>⟨trivial,?_⟩
 refine H5.store an 0 i0 i0 7 [o] i0 i0 i0 j7 λh6 q=>⟨trivial,?_⟩
 obtain⟨y,n⟩:∃y:bX,y=(x.1,x.2.1,x.2.2.1,x.2.2.2.1,x.2.2.2.2.1,x.2.2.2.2.2.1,d,o):=⟨_,rfl⟩
 have q:Sp h h6 [al R 29 (aS y),al S 29 [xt xz 0,xt xz 0,xt xz 0,xt xz 0,xt xz 0,xt xz 0,xu eH 0 0,xu eH 0 0],ae 3 d 1 ak m.drives,ae 94 o 4 bE b]:=by rw[n];exact q
 have c:y.2.2.2.2.2.2.2=o:=by rw[n]
 have J:y.2.2.2.2.2.2.1=d:=by rw[n]
 refine⟨o,by rw[<-c];exact(q.box 0 i0).cell i0,?_⟩;have ab:=(q.own 3 i0).len;have q:=q.TU 1 ak;refine av (λt:List dV×List (Sl×aw)=>(t.1.length:Int)) (λt h'=>t.1.length<=m.aF.length/\(∀(j:Nat) r e,t.1[j]?=dB r->m.aF[j]?=dB e->(r.1=e.name/\r.2.1=e.object/\r.2.2.1=e.length)/\(r.2.2.2,e.tries)∈t.2)/\Sp h h' [dM 1 ak t.2,al R 29 (aS y),al S 29 [xt xz 0,xt xz 0,xt xz 0,xt xz 0,xt xz 0,xt xz 0,xu eH 0 0,xu eH 0 0],ae 3 d 1 ak m.drives,ae 94 o 4 bE (t.1++b.drop t.1.length)]) (λt=>m.aF.length-t.1.length) ([],[]) i0 ⟨i9,λj r e k=>by simp at k,q⟩ ?_;rintro⟨a,pool⟩ V ⟨hi,D,l⟩;dsimp only at*;refine ac (λe=>?_) (λe=>?_)
 ·have s:a.length<m.aF.length:=i4
  have F7:=nD.up F l.ag;obtain⟨⟨y1,y2,T⟩,y4⟩:=Fix.row F7 s;have f:(a++b.drop a.length)[a.length]'(by simp;omega)=b[a.length]'(by omega):=i9
  obtain⟨G,Z,zz,hc,rfl⟩:=(l.seq 4 rfl λ_=>rfl).dZ (g:=bE) (i:=(a.length:Int)) a.length rfl i7 (b[a.length]'(by omega)) (by rw[f]) (K:=λt=>t=b[a.length]'(by omega)) i0;refine⟨o,by rw[<-c];exact(l.box 1 i0).cell i0,o,by rw[<-c];exact(l.box 1 i0).cell i0,G,Z,_,hc.2.2.2.1,?_⟩;have W:=(M.nm _ (qg s)).2;refine(jF _ m.aF[a.length].tries V y4 i4).mono ?_;rintro _ h8 ⟨t,rfl,R8⟩;have z:=l.cj R8;refine⟨t,i0,⟨by rw[<-c];exact(z.box 2 i0).cell i0,by rw[<-c];exact(z.box 2 i0).cell i0,trivial⟩,?_⟩;refine z.aae an 5 i0 (λ_=>rfl) i0 a.length i0 i7 3 [t] i9 ((b[a.length]'(by omega)).1,(b[a.length]'(by omega)).2.1,(b[a.length]'(by omega)).2.2.1,t) i0 i0 i0 (by rw[f];simp[bE]) λh9 B=>⟨trivial,?_⟩
  have B:=(B.freeze 0 i0 λ_=>rfl).aT 6 [1,0,2,3,4,5];have B:=B.TV;refine⟨(a++[((b[a.length]'(by omega)).1,(b[a.length]'(by omega)).2.1,(b[a.length]'(by omega)).2.2.1,t)],(t,m.aF[a.length].tries)::pool),by simp only[qw,List.length_singleton];rw[af _];rfl,⟨i7,λj r e k u=>?_,?_⟩,i7⟩
  ·dsimp only at k⊢;by_cases H:j<a.length
   ·rw[qo H]at k;obtain⟨g1,g2⟩:=D j r e k u;exact⟨g1,List.mem_cons_of_mem _ g2⟩
   ·have I:j=a.length:=by have:=(qn.1 k).1;simp at this;omega
    subst I;rw[qj (qm _),ze]at k;simp at k;rw[qd s]at u;injection u with u
    subst k;subst u;exact⟨⟨y1,y2,T⟩,List.mem_cons_self⟩
  ·dsimp only;have e4:(a++b.drop a.length).set a.length ((b[a.length]'(by omega)).1,(b[a.length]'(by omega)).2.1,(b[a.length]'(by omega)).2.2.1,t)=a++[((b[a.length]'(by omega)).1,(b[a.length]'(by omega)).2.1,(b[a.length]'(by omega)).2.2.1,t)]++b.drop (a++[((b[a.length]'(by omega)).1,(b[a.length]'(by omega)).2.1,(b[a.length]'(by omega)).2.2.1,t)]).length:=by rw[qX _ _ (qm _),ze,qQ (show a.length<b.length by omega),zw];simp
   rw[<-e4];exact B
 ·have ah:a.length=m.aF.length:=i4
  rw[zk i4,qM]at l;refine⟨y,(l.box 1 i0).aP _ i0,?_⟩;refine l.storeAll an 2 i0 i0 (aS y) i0 i0 i0 i0 λh8 z=>?_;have P:(a.zip m.aF).map qK=a:=List.map_fst_zip i4;have N:(a.zip m.aF).map zL=m.aF:=List.map_snd_zip i4;refine⟨y,(z.box 2 i0).aP _ i0,y,a.zip m.aF,pool,i0,⟨by rw[n];exact w.seq,by rw[n];exact w.next,by rw[n];exact w.p,by rw[n];exact w.extra⟩,N,λp X=>?_,?_⟩
  ·obtain⟨j,H,rfl⟩:=qL X;have E:j<a.length/\j<m.aF.length:=by simp at H;omega
   have:=D j _ _ (qd E.1) (qd E.2);rw[ve];exact this
  ·rw[P,J,c];exact z.cu [0,3,4]
theorem Jw(x:bX)(m:aC)(h:f8)(e:dH h x m)(d:dh m):aq xD 46 #[fT x] h λv h'=>∃y:bX,v=fT y/\Sp h h' [bS y m]:=by refine(np x m h e d).mono ?_;rintro _ h' ⟨y,L,pool,rfl,a,b,c,H⟩;exact⟨y,i0,aa.Cz a b c H⟩
end Go.Qw
namespace Go.Vc
open Go Wl
abbrev bF:=Int×Int×Int×Int×Int×Int×Int×Sl
abbrev bO(x:bF):ba:=[xt xz x.1,xt xz x.2.1,xt xz x.2.2.1,xt xz x.2.2.2.1,xt xz x.2.2.2.2.1,xt xz x.2.2.2.2.2.1,xt xB x.2.2.2.2.2.2.1,x.2.2.2.2.2.2.2]
abbrev recv(x:bF):Value:=xy #[xt xz x.1,xt xz x.2.1,xt xz x.2.2.1,xt xz x.2.2.2.1,xt xz x.2.2.2.2.1,xt xz x.2.2.2.2.2.1,xt xB x.2.2.2.2.2.2.1,x.2.2.2.2.2.2.2]
theorem adI:∀x,∀c∈bO x,c.oneCell'=eR:=by intro x c a;simp[bO]at a;rcases a with rfl|rfl|rfl|rfl|rfl|rfl|rfl|rfl<;>rfl
def iL(x y:Int):Int:=if x<y then-1 else if x>y then 1 else 0
def lQ(a b:bF):Int:=if iL a.1 b.1≠0 then iL a.1 b.1 else if iL a.2.1 b.2.1≠0 then iL a.2.1 b.2.1 else iL a.2.2.1 b.2.2.1
def cC(a b:bF):Bool:=decide (lQ a b<=0)
theorem jp(x y:Int):(x<y/\iL x y=-1)∨(x>y/\iL x y=1)∨(x=y/\iL x y=0):=by
 unfold iL;by_cases a:x<y
 ·exact .inl ⟨a,f9 a⟩
 ·by_cases b:x>y
  ·exact .inr (.inl ⟨b,by rw[g0 a,f9 b]⟩)
  ·exact .inr (.inr ⟨i4,by rw[g0 a,g0 b]⟩)
theorem Bi(a b:bF):lQ a b<=0↔a.1<b.1∨(a.1=b.1/\(a.2.1<b.2.1∨(a.2.1=b.2.1/\a.2.2.1<=b.2.2.1))):=by
 unfold lQ;rcases jp a.1 b.1 with⟨h1,e1⟩|⟨h1,e1⟩|⟨h1,e1⟩
 ·rw[e1,f9 i5];omega
 ·rw[e1,f9 i5];omega
 ·rw[e1,g0 i5];rcases jp a.2.1 b.2.1 with⟨h2,e2⟩|⟨h2,e2⟩|⟨h2,e2⟩
  ·rw[e2,f9 i5];omega
  ·rw[e2,f9 i5];omega
  ·rw[e2,g0 i5];rcases jp a.2.2.1 b.2.2.1 with⟨h3,e3⟩|⟨h3,e3⟩|⟨h3,e3⟩<;>rw[e3]<;>omega
theorem pS(a b:bF):lQ a b<0↔¬cC b a=eR:=by
 unfold cC;rw[decide_eq_true_eq,Bi];unfold lQ;rcases jp a.1 b.1 with⟨h1,e1⟩|⟨h1,e1⟩|⟨h1,e1⟩
 ·rw[e1,f9 i5];omega
 ·rw[e1,f9 i5];omega
 ·rw[e1,g0 i5];rcases jp a.2.1 b.2.1 with⟨h2,e2⟩|⟨h2,e2⟩|⟨h2,e2⟩
  ·rw[e2,f9 i5];omega
  ·rw[e2,f9 i5];omega
  ·rw[e2,g0 i5];rcases jp a.2.2.1 b.2.2.1 with⟨h3,e3⟩|⟨h3,e3⟩|⟨h3,e3⟩<;>rw[e3]<;>omega
theorem XX(a b:bF):lQ a b=0↔(a.1=b.1/\a.2.1=b.2.1/\a.2.2.1=b.2.2.1):=by
 unfold lQ;rcases jp a.1 b.1 with⟨h1,e1⟩|⟨h1,e1⟩|⟨h1,e1⟩
 ·rw[e1,f9 i5];omega
 ·rw[e1,f9 i5];omega
 ·rw[e1,g0 i5];rcases jp a.2.1 b.2.1 with⟨h2,e2⟩|⟨h2,e2⟩|⟨h2,e2⟩
  ·rw[e2,f9 i5];omega
  ·rw[e2,f9 i5];omega
  ·rw[e2,g0 i5];rcases jp a.2.2.1 b.2.2.1 with⟨h3,e3⟩|⟨h3,e3⟩|⟨h3,e3⟩<;>rw[e3]<;>omega
theorem ee:Ord cC:=⟨λa b c d e=>by
 unfold cC at*;rw[decide_eq_true_eq,Bi]at*;omega,λa b=>by
 unfold cC;rw[Bool.or_eq_true,decide_eq_true_eq,decide_eq_true_eq,Bi,Bi];omega⟩
theorem PT{α:Type}(A B C:List α)(x y:α){i j:Nat}(c:i=ii A)(b:j=ii A+1+ii B):
  (A++x::(B++y::C))[i]?=dB x/\(A++x::(B++y::C))[j]?=dB y/\((A++x::(B++y::C)).set i y).set j x=A++y::(B++x::C)/\((A++x::(B++y::C)).set j x).set i y=A++y::(B++x::C):=by
 subst c;subst b;have a:ii A+1+ii B-ii A=ii B+1:=i4
 refine⟨by rw[qj (qm _),ze];rfl,?_,?_,?_⟩
 ·rw[qj i4,a,qy,qj (qm _),ze];rfl
 ·rw[qX _ _ (qm _),ze,zw,qX _ _ i4,a,zA,qX _ _ (qm _),ze,zw]
 ·rw[qX _ _ (show A.length<=ii A+1+ii B by omega),a,zA,qX _ _ (qm _),ze,zw,qX _ _ (qm _),ze,zw]
end Go.Vc
namespace Go.Qw
open Go Go.Vc Go.Proofs Wl
abbrev afe:bU C.toAO 161 164 8 [xt xz 0,xt xz 0,xt xz 0,xt xz 0,xt xz 0,xt xz 0,xt xB 0,xu eH 0 0] 80:=⟨_,_,i0,i0,i0,i0,i0,i0⟩
theorem sj(x y:Int)(h:f8):aq xD 207 #[xt xz x,xt xz y] h λv h'=>v=xt xz (iL x y)/\h'=h:=by
 refine pD x y ?_;have a:∀z:Int,aq xD 263 #[xt xz z] h λv h'=>v=xx eS/\h'=h:=λz=>by
  refine sB z ?_;exact⟨i9,i0⟩
 refine(a x).mono ?_;rintro _ _ ⟨rfl,rfl⟩;refine⟨_,i0,(a y).mono ?_⟩;rintro _ _ ⟨rfl,rfl⟩;refine⟨_,i0,bA (λe=>j0) λ_=>bA (λe=>j0) λ_=>?_⟩;refine ac (λe=>⟨by rw[iL,f9 e],i0⟩) λe=>ac (λe2=>⟨by rw[iL,g0 e,f9 e2],i0⟩) λe2=>⟨by rw[iL,g0 e,g0 e2],i0⟩
theorem oZ(a b:bF)(h:f8):aq xD 169 #[recv a,recv b] h λv h'=>v=xt xz (lQ a b)/\Sp h h' []:=by
 refine Ld a b ?_;refine(Sp.refl h).boxed λx M D=>D.boxed λu k f=>?_;have f:Sp h k [al x 164 (bO a),al u 164 (bO b)]:=f;have t:=f.box 0 i0;have p:=f.box 1 i0;have y:f7 k (x.add 1)=dB (xt xz a.2.1):=t.cell i0;have z:f7 k (u.add 1)=dB (xt xz b.2.1):=p.cell i0;have c3:f7 k (x.add 2)=dB (xt xz a.2.2.1):=t.cell i0;have w:f7 k (u.add 2)=dB (xt xz b.2.2.1):=p.cell i0;refine⟨a.1,t.cell0 i0,b.1,p.cell0 i0,a.2.1,y,b.2.1,z,a.2.2.1,c3,b.2.2.1,w,(sj _ _ k).mono ?_⟩;rintro _ _ ⟨rfl,rfl⟩;refine⟨_,i0,⟨w,c3,z,y,trivial⟩,(sj _ _ _).mono ?_⟩;rintro _ _ ⟨rfl,rfl⟩;refine⟨_,i0,⟨w,c3,trivial⟩,(sj _ _ _).mono ?_⟩;rintro _ J ⟨rfl,rfl⟩;refine⟨_,i0,trivial,?_⟩;refine f.ne an ak ⟨_,_,i0,i0,i0,i0,i0,i0⟩ i0 [iL a.1 b.1,iL a.2.1 b.2.1,iL a.2.2.1 b.2.2.1] i0 (show 3*1<=2^20 by decide) i0 trivial ?_;refine f.lit an ak ⟨_,_,i0,i0,i0,i0,i0,i0⟩ i0 [iL a.1 b.1,iL a.2.1 b.2.1,iL a.2.2.1 b.2.2.1] i0 (show 3*1<=2^20 by decide) i0 λd B q=>?_;refine(Bc d (R:=λv h'=>v=xt xz (lQ a b)/\h'=B) ?_).mono ?_
 ·skip
  have A:=q.seq 2 i0 λ_=>rfl;have G:=(q.own 2 i0).len;obtain⟨L,g⟩:∃L,L=[iL a.1 b.1,iL a.2.1 b.2.1,iL a.2.2.1 b.2.2.1]:=⟨_,rfl⟩
  rw[<-g]at A G;have H:ii L=3:=by rw[g];rfl
  refine av (λi:Nat=>(i:Int)) (λi h'=>i<=3/\(∀j,j<i->L[j]?=dB 0)/\h'=B) (λi=>3-i) 0 i0 ⟨i4,i4,i0⟩ ?_;rintro i E ⟨K,n,rfl⟩;have c:0<i->iL a.1 b.1=0:=λh0=>by have:=n 0 h0;rw[g]at this;simpa using this
  have m:1<i->iL a.2.1 b.2.1=0:=λh0=>by have:=n 1 h0;rw[g]at this;simpa using this
  have o:2<i->iL a.2.2.1 b.2.2.1=0:=λh0=>by have:=n 2 h0;rw[g]at this;simpa using this
  refine ac (λe=>?_) (λe=>?_)
  ·have l:i<ii L:=by have F:(i:Int)<(d.len:Int):=e;omega
   refine A.bD i i0 l L[i] i0 ?_;refine ci (λe2=>⟨?_,i0⟩) (λe2=>?_)
   ·congr 1;unfold lQ;have:i=0∨i=1∨i=2:=i4
    subst g;rcases this with rfl|rfl|rfl
    ·exact(f9 (show iL a.1 b.1≠0 from e2)).symm
    ·rw[g0 (by rw[c i4];simp)];exact(f9 (show iL a.2.1 b.2.1≠0 from e2)).symm
    ·rw[g0 (by rw[c i4];simp),g0 (by rw[m i4];simp)];rfl
   ·refine⟨i+1,js,⟨i4,λj I=>?_,i0⟩,i4⟩;by_cases s:j=i
    ·subst s;rw[qd l,e2]
    ·exact n j i4
  ·have r:i=3:=by have F:¬(i:Int)<(d.len:Int):=e;omega
   subst r;refine⟨?_,i0⟩;unfold lQ;rw[c i4,m i4,o i4];rfl
 ·rintro _ E ⟨rfl,rfl⟩;exact⟨_,i0,trivial,i0,.zip q.ag⟩
abbrev cP(s:Sl)(d:List bF):HP:=ae 164 s 8 bO d
variable {B:aA} {h0 h h':f8} {As:List HP} {s:Sl} {d:List bF}
theorem pT(X U M V Y:List bF)(n:Nat)(a b:Int)(S:ii U=n)(R:ii V=n)(E:a=(ii X:Int))(F:b=(ii X+n+ii M:Nat))(L:ii X+n+ii M+n+ii Y<=2^40)(H:aa B h0 h (cP s (X++(U++(M++(V++Y))))::As)):
  aq xD 352 #[s,xt xz a,xt xz b,xt xz n,.func (.func 169) #[] #[]] h λv h'=>v=.tuple #[]/\aa B h0 h' (cP s (X++(V++(M++(U++Y))))::As):=by
 refine my s a b n (169,#[],#[]) ?_;subst E;subst F;refine av (λk:Nat=>(k:Int)) (λk h'=>k<=n/\aa B h0 h' (cP s (X++(V.take k++U.drop k++(M++(U.take k++V.drop k++Y))))::As)) (λk=>n-k) 0 i0 ⟨i4,lb⟩ ?_;rintro k T ⟨P,d⟩;refine ac (λe=>?_) (λe=>?_)
 ·have O:k<n:=i4
  have p:k<ii U:=i4
  have o:k<ii V:=i4
  have f:X++(V.take k++U.drop k++(M++(U.take k++V.drop k++Y)))=(X++V.take k)++U[k]::((U.drop (k+1)++(M++U.take k))++V[k]::(V.drop (k+1)++Y)):=by rw[qQ p,qQ o];simp only[qp,zB,wx]
  have c:X++(V.take (k+1)++U.drop (k+1)++(M++(U.take (k+1)++V.drop (k+1)++Y)))=(X++V.take k)++V[k]::((U.drop (k+1)++(M++U.take k))++U[k]::(V.drop (k+1)++Y)):=by rw[aH V k o,aH U k p];simp only[qp,zB,wx]
  rw[f]at d;obtain⟨y,z,x,K⟩:=PT (X++V.take k) (U.drop (k+1)++(M++U.take k)) (V.drop (k+1)++Y) U[k] V[k] (i:=ii X+k) (j:=ii X+n+ii M+k) i7 i7;obtain⟨D,N⟩:∃D,D=(X++V.take k)++U[k]::((U.drop (k+1)++(M++U.take k))++V[k]::(V.drop (k+1)++Y)):=⟨_,rfl⟩
  rw[<-N]at d y z x K;have u:=(qn.1 y)
  have w:=(qn.1 z)
  obtain⟨q,r⟩:=u;obtain⟨m,t⟩:=w;have G:qc xz ((ii X:Int)+k)=((ii X+k:Nat):Int):=j3
  have I:qc xz (((ii X+n+ii M:Nat):Int)+k)=((ii X+n+ii M+k:Nat):Int):=j3
  rw[G,I];refine(d.seq 0 i0 λ_=>rfl).dZ (g:=bO) _ i0 m V[k] (by rw[t]) ?_;refine(d.seq 0 i0 λ_=>rfl).dZ (g:=bO) _ i0 q U[k] q0 ?_;refine d.set an 0 i0 (λ_=>rfl) i0 (ii X+k) i0 q V[k] i0 i0 i0 λQ A=>⟨trivial,?_⟩
  refine A.set an 0 i0 (λ_=>rfl) i0 (ii X+n+ii M+k) i0 (by simpa using m) U[k] i0 i0 i0 λh3 J=>⟨trivial,?_⟩
  refine⟨k+1,js,⟨i4,?_⟩,i4⟩;rw[c,<-x];exact J
 ·have:k=n:=i4
  subst this;rw[qi (l:=V) i4,zk (l:=U) i4,qi (l:=U) i4,zk (l:=V) i4]at d;refine⟨i0,?_⟩;simpa using d
theorem Sn(X U V Y:List bF)(a m b:Int)(L:0<ii U)(J:0<ii V)(z:a=(ii X:Int))(w:m=(ii X+ii U:Nat))(E:b=(ii X+ii U+ii V:Nat))(K:ii X+ii U+ii V+ii Y<=2^40)(H:aa B h0 h (cP s (X++(U++(V++Y)))::As)):
  aq xD 337 #[s,xt xz a,xt xz m,xt xz b,.func (.func 169) #[] #[]] h λv h'=>v=.tuple #[]/\aa B h0 h' (cP s (X++(V++(U++Y)))::As):=by
 refine nl s a m b (169,#[],#[]) ?_;subst z;subst w;subst E;have G:qc xz (((ii X+ii U:Nat):Int)-ii X)=(ii U:Int):=j3
 have e2:qc xz (((ii X+ii U+ii V:Nat):Int)-(ii X+ii U:Nat))=(ii V:Int):=j3
 rw[G,e2];refine av (λt:List bF×List bF×List bF×List bF=>((ii t.2.1:Int),(ii t.2.2.1:Int))) (λt h'=>0<ii t.2.1/\0<ii t.2.2.1/\X.length+ii t.1+ii t.2.1=ii X+ii U/\V++U=t.1++((t.2.2.1++t.2.1)++t.2.2.2)/\aa B h0 h' (cP s (X++(t.1++(t.2.1++(t.2.2.1++(t.2.2.2++Y)))))::As)) (λt=>ii t.2.1+ii t.2.2.1) ([],U,V,[]) i0 ⟨L,J,i9,i9,lb⟩ ?_;rintro⟨P,A,c,Q⟩ u ⟨O,N,w,o,p⟩;dsimp only at*;have k:=congrArg vL o;simp only[qw]at k;refine ci (λe=>ac (λD=>?_) λD=>?_) (λe=>?_)
 ·--the left one is longer
  have r:ii c<ii A:=i4
  have I:A=A.take c.length++A.drop c.length:=(qF _ _).symm;have l:ii (A.take c.length)=ii c:=i7
  have g:qc xz (((ii X+ii U:Nat):Int)-ii A)=(ii (X++P):Int):=by rw[af _];simp;omega
  rw[g];have d:aa B h0 u (cP s ((X++P)++(A.take c.length++(A.drop c.length++(c++(Q++Y)))))::As):=by
   have:(X++P)++(A.take c.length++(A.drop c.length++(c++(Q++Y))))=X++(P++(A++(c++(Q++Y)))):=by
    conv=>rhs;rw[I]
    simp only[qp,zB,wx]
   rw[this];exact p
  refine(pT (X++P) (A.take c.length) (A.drop c.length) c (Q++Y) c.length _ _ l i0 i0 i7 i7 d).mono ?_;rintro _ x ⟨rfl,f⟩;refine⟨(),i0,(P++c,A.drop c.length,A.take c.length,Q),?_,⟨lz,i6,lz,?_,?_⟩,lz⟩
  ·dsimp only;rw[l,af _];simp;omega
  ·dsimp only;rw[o,qF];simp
  ·dsimp only;have:X++((P++c)++(A.drop c.length++(A.take c.length++(Q++Y))))=(X++P)++(c++(A.drop c.length++(A.take c.length++(Q++Y)))):=i9
   rw[this];exact f
 ·have r:ii A<ii c:=i4
  obtain⟨j,M⟩:∃j,j=ii c-ii A:=⟨_,rfl⟩
  have y:c=c.take j++c.drop j:=(qF _ _).symm;have n:ii (c.drop j)=ii A:=i7
  have i:ii (c.take j)=j:=i7
  have g:qc xz (((ii X+ii U:Nat):Int)-ii A)=(ii (X++P):Int):=by rw[af _];simp;omega
  have F:qc xz ((qc xz (((ii X+ii U:Nat):Int)+ii c))-ii A)=((ii (X++P)+ii A+ii (c.take j):Nat):Int):=by rw[af (((ii X+ii U:Nat):Int)+ii c),af _,i];simp;omega
  rw[g,F];have d:aa B h0 u (cP s ((X++P)++(A++(c.take j++(c.drop j++(Q++Y)))))::As):=by
   have:(X++P)++(A++(c.take j++(c.drop j++(Q++Y))))=X++(P++(A++(c++(Q++Y)))):=by
    conv=>rhs;rw[y]
    simp only[qp,zB,wx]
   rw[this];exact p
  refine(pT (X++P) A (c.take j) (c.drop j) (Q++Y) A.length _ _ i0 n i0 i0 i7 d).mono ?_;rintro _ x ⟨rfl,f⟩;refine⟨(),i0,(P,c.drop j,c.take j,A++Q),?_,⟨i6,i6,i6,?_,?_⟩,i6⟩
  ·dsimp only;rw[i,n,af _];congr 1;omega
  ·dsimp only;rw[o,qF];simp
  ·dsimp only;have:X++(P++(c.drop j++(c.take j++((A++Q)++Y))))=(X++P)++(c.drop j++(c.take j++(A++(Q++Y)))):=i9
   rw[this];exact f
 ·have q:ii A=ii c:=i4
  have g:qc xz (((ii X+ii U:Nat):Int)-ii A)=(ii (X++P):Int):=by rw[af _];simp;omega
  rw[g];have d:aa B h0 u (cP s ((X++P)++(A++([]++(c++(Q++Y)))))::As):=by
   have:(X++P)++(A++([]++(c++(Q++Y))))=X++(P++(A++(c++(Q++Y)))):=i9
   rw[this];exact p
  refine(pT (X++P) A [] c (Q++Y) A.length _ _ i0 q.symm i0 i7 i7 d).mono ?_;rintro _ x ⟨rfl,f⟩;refine⟨(),i0,i0,?_⟩;have:X++(V++(U++Y))=(X++P)++(c++([]++(A++(Q++Y)))):=by
   have:V++(U++Y)=(V++U)++Y:=i9
   rw[this,o];simp
  rw[this];exact f
end Go.Qw
namespace Wl
open Go
theorem Vp(l:aV)(x:UInt8):dF (l++[x])=dF l*256+x.toNat:=by unfold dF;rw[List.foldl_append];rfl
theorem PU:∀l:aV,ii l<=4->0<=dF l/\dF l<4294967296/\(ii l<=3->dF l<16777216)
 |[],_=>by simp[dF]
 |[a],_=>by have:=a.toNat_lt;simp only[dF,zE,wv];omega
 |[a,b],_=>by have:=a.toNat_lt;have:=b.toNat_lt;simp only[dF,zE,wv];omega
 |[a,b,c],_=>by have:=a.toNat_lt;have:=b.toNat_lt;have:=c.toNat_lt;simp only[dF,zE,wv];omega
 |[a,b,c,d],_=>by have:=a.toNat_lt;have:=b.toNat_lt;have:=c.toNat_lt;have:=d.toNat_lt;simp only[dF,zE,wv,zh,yV];omega
 |_::_::_::_::_::_,h=>m9
theorem aff(n x:Nat)(e:n<2^32)(f:x<256):qc xz (((qE (qk xz) (qc xz ((n:Int)*2^min (8:Int).toNat (qk xz)))|||qE (qk xz) (qc xz (x:Int))).toNat:Nat):Int)=(n:Int)*256+x:=by
 have d:min (8:Int).toNat (qk xz)=8:=rfl;rw[d];have a:qc xz ((n:Int)*2^8)=((n*256:Nat):Int):=by rw[Go.Vc.af _];omega
 have e2:qc xz (x:Int)=((x:Nat):Int):=Go.Vc.af _;rw[a,e2];have c:(qE (qk xz) ((n*256:Nat):Int)|||qE (qk xz) ((x:Nat):Int)).toNat=n*256+x:=by show((qE 64 ((n*256:Nat):Int)|||qE 64 ((x:Nat):Int):BitVec 64)).toNat=n*256+x;rw[BitVec.toNat_or,yb,yb,wQ,wQ,wi i4,wi i4];have:=Nat.shiftLeft_add_eq_or_of_lt (b:=x) (i:=8) i4 n;rw[Nat.shiftLeft_eq,show(2:Nat)^8=256 from rfl]at this;omega
 rw[c,Go.Vc.af _];omega
end Wl
namespace Go.Vc
open Go Wl
def ft:iZ bF cW:=⟨λh q a b=>(a.1=b.object/\a.2.1=b.block/\a.2.2.1=b.id/\(a.2.2.2.1,a.2.2.2.2.1,a.2.2.2.2.2.1)=b.p/\a.2.2.2.2.2.2.1=b.seed/\0<=b.seed/\b.seed<4294967296)/\Seq h q a.2.2.2.2.2.2.2 1 aD b.data,λa c=>⟨a.1,a.2.ag c⟩,λa d=>⟨a.1,a.2.mono d⟩⟩
end Go.Vc
namespace Go.Qw
open Go Go.Vc Go.Proofs Wl
theorem uu{p q:aA}(a b:Sl)(d c:aV)(h:f8)(e:Seq h p a 1 aD d)(f:Seq h q b 1 aD c):
  aq xD 64 #[a,b] h λv h'=>v=xx (decide (d=c))/\h'=h:=by
 refine IZ a b ?_;refine TG an ⟨_,i0,i0⟩ ⟨_,i0,i0⟩ ⟨_,i0,i0⟩ e (TG an ⟨_,i0,i0⟩ ⟨_,i0,i0⟩ ⟨_,i0,i0⟩ f ⟨?_,i0⟩);rw[ByteArray.toList_mk,ByteArray.toList_mk];have:(d==c)=decide (d=c):=by rw[Bool.eq_iff_iff];simp
 rw[this]
theorem CB(b:Sl)(c:aV)(h:f8)(g:Rd h b 1 aD c)(y:ii c<=2^30)(d:b.len<=b.cap):
  aq xD 42 #[b] h λv h'=>(fu c=eH->v=.tuple #[xt xz 0,xu eH 0 0,xx eS]/\Sp h h' [])/\
   ∀k x,fu c=dB (k,x)->∃r:Sl,v=.tuple #[xt xz k,r,xx eR]/\Sp h h' [ae 5 r 1 aD x]:=by
 refine Nm b ?_;have A:=g.len;refine ci (λe=>?_) (λe=>?_)
 ·have:fu c=eH:=by unfold fu;rw[g0 λa=>e i4]
  rw[this];exact⟨λ_=>⟨i0,Sp.refl h⟩,λk x h=>j8⟩
 have o:ii c=64:=i4
 have h3:3<ii c:=i4
 refine g.NY 3 i0 h3 ((c.getD 3 0).toNat:Int) (by rw[getD_lt h3];rfl) λz n=>⟨⟨i5,i5,i4⟩,?_⟩
 have f:=(g.drop 4 d).take 55 i7;have q:ii ((c.drop 4).take 55)=55:=i7
 refine(fc ⟨_,55,b.cap-4⟩ ((c.drop 4).take 55) h f i4).mono ?_;rintro _ u ⟨r,rfl,j⟩;refine⟨r,i0,kp j.ag ⟨n,trivial⟩,?_⟩;have w:=(c.getD 3 0).toNat_lt;rw[af ((c.getD 3 0).toNat:Int)];refine(EO ((c.getD 3 0).toNat:Int) r ((c.drop 4).take 55) u (j.seq 0 i0 λ_=>rfl)).mono ?_;rintro _ t ⟨p,rfl,s⟩;have i:=j.comp s;refine⟨p,i0,(uu b p c _ t (g.up i.ag) (i.seq 1 i0 λ_=>rfl)).mono ?_⟩;rintro _ h3 ⟨rfl,rfl⟩;refine⟨_,i0,bi (λe2=>?_) λe2=>?_⟩
 ·have l:c≠dX ((c.getD 3 0).toNat:Int) ((c.drop 4).take 55):=of_decide_eq_false e2;have:fu c=eH:=by unfold fu;rw[g0 λa=>l a.2.symm]
  rw[this];exact⟨λ_=>⟨i0,.zip i.ag⟩,λk x h=>j8⟩
 ·have m:c=dX ((c.getD 3 0).toNat:Int) ((c.drop 4).take 55):=hZ e2;have:fu c=dB (((c.getD 3 0).toNat:Int),(c.drop 4).take 55):=by unfold fu;rw[f9 ⟨o,m.symm⟩]
  rw[this];refine⟨λh=>j8,λk x a=>?_⟩;injection a with a
  injection a with hh1 hh2
  subst hh1;subst hh2;exact⟨r,i0,i.cu [0]⟩
theorem Mp(b:Sl)(l:aV)(h:f8)(d:Rd h b 1 aD l)(k:ii l<=4):aq xD 237 #[b] h λv h'=>v=xt xz (dF l)/\h'=h:=by
 refine Jp b ?_;have f:=d.len;refine av (λi:Nat=>(dF (l.take i),(i:Int))) (λi h'=>i<=ii l/\h'=h) (λi=>ii l-i) 0 i0 ⟨i4,i0⟩ ?_;rintro i o ⟨m,rfl⟩;dsimp only;refine ac (λe=>?_) (λe=>?_)
 ·have a:i<ii l:=i4
  refine d.bD i i0 a (l[i].toNat:Int) i0 ⟨i5,?_⟩;have c:=(PU (l.take i) i7)
  have g:=c.2.2 i7;have p:=l[i].toNat_lt;obtain⟨n,j⟩:∃n:Nat,dF (l.take i)=(n:Int):=⟨(dF (l.take i)).toNat,i4⟩
  refine⟨i+1,?_,⟨i4,i0⟩,i4⟩;rw[aH _ _ a,Vp,j,aff n _ i4 i4,af ((i:Int)+1)];rfl
 ·rw[qi i4];exact⟨i0,i0⟩
theorem GK(x:bF)(r:cW)(h:f8)(I:dQ ft h x r):aq xD 196 #[recv x] h λv h'=>v=xx (jg r)/\Sp h h' []:=by
 refine Lh x ?_;obtain⟨⟨B,e2,z,q,J,_⟩,G⟩:=I;have o:x.2.2.2.1=r.p.1:=congrArg (·.1) q;have n:x.2.2.2.2.1=r.p.2.1:=congrArg (·.2.1) q;have f:x.2.2.2.2.2.1=r.p.2.2:=congrArg (·.2.2) q;have e:=Seq.len G;refine(Sp.refl h).boxed λa j c=>?_;have c:Sp h j [al a 164 (bO x)]:=c;have k:=c.box 0 i0;have w:f7 j a=dB (xt xz r.object):=by rw[<-B];exact k.cell0 i0
 have t:f7 j (a.add 1)=dB (xt xz r.block):=by rw[<-e2];exact k.cell i0
 have u:f7 j (a.add 2)=dB (xt xz r.id):=by rw[<-z];exact k.cell i0
 have y:∀{h':f8},Sp h h' [al a 164 (bO x)]->(jg r=eR->False)->Value.bool eS=xx (jg r)/\Sp h h' []:=λ{h'} H' hn=>⟨by cases hq:jg r with|false=>rfl|true=>exact absurd hq hn,.zip H'.ag⟩
 refine bT (λb h'=>b=decide ((0<=r.object/\r.object<=16777215)/\(0<=r.block/\r.block<=7)/\(0<=r.id/\r.id<=65535))/\h'=j) ?_ ?_
 ·refine⟨_,w,ac (λF=>⟨_,w,ac (λd=>⟨_,t,ac (λH=>⟨_,t,ac (λE=>⟨_,u,ac (λD=>⟨_,u,?_,i0⟩) λD=>⟨?_,i0⟩⟩) λE=>⟨?_,i0⟩⟩) λH=>⟨?_,i0⟩⟩) λd=>⟨?_,i0⟩⟩) λF=>⟨?_,i0⟩⟩
  ·rw[decide_eq_decide];omega
  all_goals (symm;rw[decide_eq_false_iff_not];omega)
 ·rintro _ _ ⟨rfl,rfl⟩;refine ac (λg=>?_) λg=>y c λs=>g (by have:=(jO r).1 s;omega);refine⟨r.p,by rw[<-o,<-n,<-f];exact k.Ge 3 i0 i0 i0,(eT r.p _).mono ?_⟩;rintro _ h3 ⟨rfl,A⟩;have m:Sp h h3 [al a 164 (bO x)]:=c.up A.ag;have i:=m.box 0 i0;refine⟨_,i0,bA (λd=>?_) λd=>y m λs=>by have:=((jO r).1 s).2.2.2.1;rw[d]at this;cases this⟩;refine⟨x.2.2.2.2.2.2.2,i.cell i0,r.p.2.2,by rw[<-f];exact i.xS 3 2 i0,?_,.zip m.ag⟩;congr 1;by_cases l:(r.data.length:Int)=r.p.2.2
  ·have:jg r=eR:=(jO r).2 ⟨i4,i4,i4,d,l⟩;rw[this,e];simpa using l
  ·have:jg r=eS:=by
    cases hq:jg r with
    |false=>rfl
    |true=>exact absurd ((jO r).1 hq).2.2.2.2 l
   rw[this,e];simpa using l
variable {B:aA} {h0 h h':f8} {As:List HP}
theorem nr(s:Sl)(l:aV)(n:Int)(k:Nat)(j:k<=4)(p:ii l<=2^30)(H:aa B h0 h (ae 5 s 1 aD l::As)):
  aq xD 197 #[s,xt xz n,xt xz k] h λv h'=>∃r:Sl,v=r/\aa B h0 h' (ae 5 r 1 aD (l++cg n k)::As):=by
 refine Gu s n k ?_;rw[af ((k:Int)-1)];refine av (λt:Sl×Nat=>(t.1,(k:Int)-1-t.2)) (λt h'=>t.2<=k/\aa B h0 h' (ae 5 t.1 1 aD (l++(cg n k).take t.2)::As)) (λt=>k-t.2) (s,0) i9 ⟨i9,lb⟩ ?_;rintro⟨r,t⟩ q ⟨o,a⟩;dsimp only at*;refine ac (λe=>?_) (λe=>?_)
 ·have b:t<k:=i4
  have f:qc xz ((8:Int)*((k:Int)-1-t))=((8*(k-1-t):Nat):Int):=by rw[af _];omega
  rw[f,ql];have e2:min (8*(k-1-t)) (qk xz)=8*(k-1-t):=by have:qk xz=64:=rfl;omega
  rw[e2,ez];refine⟨i4,?_⟩;refine a.push an 0 i0 gU i0 i5 (λ_=>rfl) iF (b8 (qZ n (2^(8*(k-1-t))))) i0 i5 l9 λi m c=>?_;refine⟨(i,t+1),?_,⟨i6,?_⟩,i6⟩
  ·dsimp only;have d:qc xz ((k:Int)-1-t-1)=(k:Int)-1-((t+1:Nat):Int):=by rw[af _];omega
   rw[d]
  ·dsimp only;have g:(cg n k).take t++[b8 (qZ n (2^(8*(k-1-t))))]=(cg n k).take (t+1):=by rw[aH _ _ (by rw[cG];exact b)];congr 2;simp[cg]
   rw[<-g,<-qp];exact c
 ·have:t=k:=i4
  subst this;rw[qi (by rw[cG];omega)]at a;exact⟨r,i0,a⟩
theorem rF(x:bF)(r:cW)(h:f8)(K:dQ ft h x r):aq xD 132 #[recv x] h λv h'=>∃s:Sl,v=s/\Sp h h' [ae 5 s 1 aD (dn r)]:=by
 refine KZ x ?_;obtain⟨⟨O,e2,L,o,Q,e7,e8⟩,V⟩:=id K;have m:x.2.2.2.1=r.p.1:=congrArg (·.1) o;have n:x.2.2.2.2.1=r.p.2.1:=congrArg (·.2.1) o;have l:x.2.2.2.2.2.1=r.p.2.2:=congrArg (·.2.2) o;refine(Sp.refl h).boxed λf J b=>?_;have b:Sp h J [al f 164 (bO x)]:=b;refine⟨x,(b.box 0 i0).aP _ i0,(GK x r J (ft.mono (ft.loc K b.ag) λ_ M=>qY M b.ag.1)).mono ?_⟩;rintro _ R ⟨rfl,X⟩;have i:Sp h R [al f 164 (bO x)]:=b.up X.ag;refine⟨_,i0,bi (λg=>?_) λg=>?_⟩
 ·unfold dn;rw[g];exact⟨⟨eH,0,0⟩,i0,(i.nil 5 1 aD).cu [1]⟩
 have Y:=ol g;have u:=i.box 0 i0;refine⟨r.object,by rw[<-O];exact u.cell0 i0,(nr ⟨eH,0,0⟩ [] r.object 3 i5 i9 (i.nil 5 1 aD).bv).mono ?_⟩;rintro _ h3 ⟨D,rfl,A⟩;have w:=A.box 1 i0;refine⟨D,i0,r.block,by rw[<-e2];exact w.cell i0,(nr D _ r.block 1 i5 pb A).mono ?_⟩;rintro _ h4 ⟨E,rfl,I⟩;have k:=I.box 1 i0;refine⟨E,i0,r.id,by rw[<-L];exact k.cell i0,(nr E _ r.id 2 i5 pb I).mono ?_⟩;rintro _ Z ⟨N,rfl,z⟩;have a:=z.box 1 i0;refine⟨N,i0,r.p.1,by rw[<-m];exact a.cell i0,r.p.2.1,by rw[<-n];exact a.xS 3 1 i0,r.p.2.2,by rw[<-l];exact a.xS 3 2 i0,?_⟩;dsimp only;rw[ez,ez,ez];refine z.lit an aD gU i0 [b8 r.p.1,b8 r.p.2.1,b8 r.p.2.2] i0 (show 3*1<=2^20 by decide) i0 λT h6 F=>?_;refine F.append an 0 i0 gU ⟨_,_,i0,i0⟩ i0 i5 (λ_=>rfl) (F.seq 2 i0 λ_=>rfl) iF pb λB P d=>?_;have d:Sp h P [ae 5 B 1 aD ([]++cg r.object 3++cg r.block 1++cg r.id 2++[b8 r.p.1,b8 r.p.2.1,b8 r.p.2.2]),al f 164 (bO x)]:=d.cu [0,1];have t:=d.box 1 i0;refine⟨r.seed,by rw[<-Q];exact t.cell i0,?_⟩;dsimp only;rw[af r.seed];refine(nr B _ r.seed 4 i5 pb d).mono ?_;rintro _ h8 ⟨U,rfl,j⟩;have q:=j.box 1 i0;refine⟨U,i0,x.2.2.2.2.2.2.2,q.cell i0,?_⟩;refine j.append an 0 i0 gU ⟨_,_,i0,i0⟩ i0 i5 (λ_=>rfl) (Seq.up V j.ag) iF l9 λG H e=>?_;have S:[]++cg r.object 3++cg r.block 1++cg r.id 2++[b8 r.p.1,b8 r.p.2.1,b8 r.p.2.2]++cg r.seed 4++r.data=jc r:=by unfold jc;simp[qp]
 have e:Sp h H [ae 5 G 1 aD (jc r),al f 164 (bO x)]:=by rw[<-S];exact e
 refine(EO 1 G (jc r) H (e.seq 0 i0 λ_=>rfl)).mono ?_;rintro _ W ⟨c,rfl,y⟩;refine⟨c,i0,c,i0,?_⟩;unfold dn;rw[g,f9 rfl];exact(e.comp y).cu [2]
theorem PW(b:Sl)(c:aV)(h:f8)(hb:Rd h b 1 aD c)(hc:c.length<=2^30)(T:b.len<=b.cap):
  aq xD 166 #[b] h λv h'=>∃x:bF,v=.tuple #[recv x,xx (dT c).isSome]/\(dT c=eH->Sp h h' [])/\∀r,dT c=dB r->Sp h h' [EA ft x r]:=by
 refine Jj b ?_;refine(Sp.refl h).alloc an i0 λd h1 Y=>?_;have Y:Sp h h1 [al d 164 (bO (0,0,0,0,0,0,0,⟨eH,0,0⟩))]:=Y;have D:∀{h':f8} {Bs:List HP},Sp h h' (al d 164 (bO (0,0,0,0,0,0,0,⟨eH,0,0⟩))::Bs)->dT c=eH->
   az xD (qf 164 (xv (dB d)) (recv (0,0,0,0,0,0,0,⟨eH,0,0⟩))) h' λ_ F=>∃Z:bF,aj F d 0 (bO Z)/\∃x:bF,Value.tuple #[recv Z,xx eS]=.tuple #[recv x,xx (dT c).isSome]/\(dT c=eH->Sp h F [])/\∀r,dT c=dB r->Sp h F [EA ft x r]:=λ{h' Bs} H' H=>by
  refine H'.storeAll an 0 i0 i0 (bO (0,0,0,0,0,0,0,⟨eH,0,0⟩)) i0 i0 i0 i0 λF H4=>?_;exact⟨(0,0,0,0,0,0,0,⟨eH,0,0⟩),(H4.box 0 i0).aP _ i0,(0,0,0,0,0,0,0,⟨eH,0,0⟩),by rw[H];rfl,λ_=>.zip H4.ag,λr O=>by rw[H]at O;cases O⟩
 refine(CB b c h1 (hb.up Y.ag) hc T).mono ?_;rintro _ h2 ⟨Q0,Q1⟩;cases htc:fu c with
 |none=>
  obtain⟨rfl,R2⟩:=Q0 htc;have H:dT c=eH:=by unfold dT;rw[htc]
  exact⟨(0,⟨eH,0,0⟩,eS),i0,bc (bi (λ_=>D (Y.up R2.ag) H) λe=>j0)⟩
 |some kx=>
  obtain⟨k,x⟩:=kx;obtain⟨r,rfl,R2⟩:=Q1 k x htc;have s:Sp h h2 [al d 164 (bO (0,0,0,0,0,0,0,⟨eH,0,0⟩)),ae 5 r 1 aD x]:=Y.comp R2;have a2:x.length=55:=by
   unfold fu at htc;split at htc
   ·rename_i m;injection htc with htc
    injection htc with _ htc
    rw[<-htc];simp;omega
   ·cases htc
  have a4:=(s.own 1 i0).len;have U:=(s.own 1 i0).cap;refine⟨(k,r,eR),i0,bc (bi (λe=>j0) λ_=>ci (λe=>D s ?_) λI=>?_)⟩
  ·unfold dT;rw[htc];exact g0 λm=>e m.1
  dsimp only;have I:k=1:=I;obtain⟨R,t⟩:∃R,R=sH x:=⟨_,rfl⟩
  have J:dT c=if bM R.p=eR/\dn R=c then dB R else eH:=by
   unfold dT;rw[htc];dsimp only;rw[<-t];by_cases m:bM R.p=eR/\dn R=c
   ·rw[f9 m];exact f9 ⟨I,m⟩
   ·rw[g0 m];exact g0 λh=>m h.2
  have tA:∀{h':f8},Rd h' r 1 aD x->aq xD 237 #[xu r.ptr 3 r.cap] h' λv M=>v=xt xz R.object/\M=h':=λ{h'} O=>by
   rw[t];exact Mp ⟨r.ptr,3,r.cap⟩ (x.take 3) h' (O.take 3 i4) i7
  have N:∀{h':f8} (j n:Nat),j+n<=55->n<=4->Rd h' r 1 aD x->aq xD 237 #[.slice (if r.cap=j then r.ptr else r.ptr.map (·.add (j*1))) n (r.cap-j)] h' λv M=>v=xt xz (dF ((x.drop j).take n))/\M=h':=λ{h'} j n hjn H O=>
   Mp ⟨if r.cap=j then r.ptr else r.ptr.map (·.add (j*1)),n,r.cap-j⟩ ((x.drop j).take n) h' ((O.drop j U).take n l5) i7
  have rd:∀{h':f8} {A:HP} {Bs:List HP},Sp h h' (A::ae 5 r 1 aD x::Bs)->Rd h' r 1 aD x:=λ{h' A Bs} H'=>H'.seq 1 i0 λ_=>rfl;have DQ:∀{h':f8} {A A2:HP} {Bs:List HP},Sp h h' (A::A2::ae 5 r 1 aD x::Bs)->Rd h' r 1 aD x:=λ{h' A A2 Bs} H'=>H'.seq 2 i0 λ_=>rfl;refine bT (λ(a:eY) h'=>Sp h h' [al a 164 (bO (R.object,R.block,R.id,0,0,0,0,⟨eH,0,0⟩)),al d 164 (bO (0,0,0,0,0,0,0,⟨eH,0,0⟩)),ae 5 r 1 aD x]) ?_ ?_
  ·have eb:dF ((x.drop 3).take 1)=R.block:=p5
   have ei:dF ((x.drop 4).take 2)=R.id:=p5
   have fin:∀{h':f8} {a:eY},Sp h h' [al d 164 (bO (0,0,0,0,0,0,0,⟨eH,0,0⟩)),ae 5 r 1 aD x,al a 164 (bO (0,0,0,0,0,0,0,⟨eH,0,0⟩))]->
     az xD (qf 164 (xv (dB a)) (recv (R.object,R.block,R.id,0,0,0,0,⟨eH,0,0⟩))) h' λ_ F=>au.ok [] F/\Sp h F [al a 164 (bO (R.object,R.block,R.id,0,0,0,0,⟨eH,0,0⟩)),al d 164 (bO (0,0,0,0,0,0,0,⟨eH,0,0⟩)),ae 5 r 1 aD x]:=λ{h' a} H'=>
    H'.storeAll an 2 i0 i0 (bO (R.object,R.block,R.id,0,0,0,0,⟨eH,0,0⟩)) i0 i0 i0 i0 λF H4=>⟨trivial,H4.cu [2,0,1]⟩
   have A_:∀{h':f8} {Bs:List HP} {K:Int->f8->Prop},Sp h h' (al d 164 (bO (0,0,0,0,0,0,0,⟨eH,0,0⟩))::ae 5 r 1 aD x::Bs)->K R.object h'->ru xD 237 #[xu r.ptr 3 r.cap] (.one (.sc (.int .i64))) h' K:=λ{h' Bs K} H' hK=>by
    refine(tA (rd H')).mono ?_;rintro _ _ ⟨rfl,rfl⟩;exact⟨_,i0,hK⟩
   have B_:∀{h':f8} {Bs:List HP} {K:Int->f8->Prop},Sp h h' (al d 164 (bO (0,0,0,0,0,0,0,⟨eH,0,0⟩))::ae 5 r 1 aD x::Bs)->K R.block h'->ru xD 237 #[.slice (if r.cap=3 then r.ptr else r.ptr.map (·.add (3*1))) 1 (r.cap-3)] (.one (.sc (.int .i64))) h' K:=λ{h' Bs K} H' hK=>by
    refine(N 3 1 i5 i5 (rd H')).mono ?_;rintro _ _ ⟨rfl,rfl⟩;exact⟨_,i0,by rw[eb];exact hK⟩
   have C_:∀{h':f8} {Bs:List HP} {K:Int->f8->Prop},Sp h h' (al d 164 (bO (0,0,0,0,0,0,0,⟨eH,0,0⟩))::ae 5 r 1 aD x::Bs)->K R.id h'->ru xD 237 #[.slice (if r.cap=4 then r.ptr else r.ptr.map (·.add (4*1))) 2 (r.cap-4)] (.one (.sc (.int .i64))) h' K:=λ{h' Bs K} H' hK=>by
    refine(N 4 2 i5 i5 (rd H')).mono ?_;rintro _ _ ⟨rfl,rfl⟩;exact⟨_,i0,by rw[ei];exact hK⟩
   refine⟨⟨i5,i4⟩,⟨i5,i5,i4⟩,⟨i5,i5,i4⟩,A_ s ⟨trivial,B_ s ⟨trivial,C_ s ⟨trivial,?_⟩,?_⟩,?_⟩,?_⟩
   ·refine s.alloc an i0 λa9 h9 i=>⟨trivial,?_⟩
    exact fin i
   ·refine s.alloc an i0 λa9 h9 i=>⟨trivial,?_⟩
    exact C_ i ⟨trivial,fin i⟩
   ·refine s.alloc an i0 λa9 h9 i=>⟨trivial,?_⟩
    exact B_ i ⟨trivial,C_ i ⟨trivial,fin i⟩⟩
   ·refine s.alloc an i0 λa9 h9 i=>⟨trivial,?_⟩
    exact A_ i ⟨trivial,B_ i ⟨trivial,C_ i ⟨trivial,fin i⟩⟩⟩
  ·rintro a9 h5 H5;have L:0<=R.seed/\R.seed<4294967296:=by have:=PU ((x.drop 9).take 4) i7;rw[t];exact⟨this.1,this.2.1⟩
   have e6:dF ((x.drop 6).take 1)=R.p.1:=p5
   have e7:dF ((x.drop 7).take 1)=R.p.2.1:=p5
   have e8:dF ((x.drop 8).take 1)=R.p.2.2:=p5
   have e9:dF ((x.drop 9).take 4)=R.seed:=p5
   refine bc ⟨⟨i5,i5,i4⟩,⟨i5,i5,i4⟩,⟨i5,i5,i4⟩,(N 6 1 i5 i5 (DQ H5)).mono ?_⟩;rintro _ _ ⟨rfl,rfl⟩;refine⟨_,i0,trivial,(N 7 1 i5 i5 (DQ H5)).mono ?_⟩;rintro _ _ ⟨rfl,rfl⟩;refine⟨_,i0,trivial,(N 8 1 i5 i5 (DQ H5)).mono ?_⟩;rintro _ a8 ⟨rfl,rfl⟩;refine⟨_,i0,trivial,?_⟩;dsimp only;rw[e6,e7,e8];refine H5.store an 0 i0 i0 3 [xt xz R.p.1,xt xz R.p.2.1,xt xz R.p.2.2] i0 i0 i0 i9 λay y=>⟨trivial,?_⟩
   have y:Sp h ay [al a9 164 (bO (R.object,R.block,R.id,R.p.1,R.p.2.1,R.p.2.2,0,⟨eH,0,0⟩)),al d 164 (bO (0,0,0,0,0,0,0,⟨eH,0,0⟩)),ae 5 r 1 aD x]:=y;refine⟨⟨i5,i5,i4⟩,(N 9 4 i5 i5 (DQ y)).mono ?_⟩;rintro _ bb ⟨rfl,rfl⟩;refine⟨_,i0,?_⟩;dsimp only;have ew:qc xB (dF ((x.drop 9).take 4))=R.seed:=by rw[e9];unfold qc;simp[qk,va];omega
   rw[ew];refine y.store an 0 i0 i0 6 [xt xB R.seed] i0 i0 i0 i9 λP z=>?_;have z:Sp h P [al a9 164 (bO (R.object,R.block,R.id,R.p.1,R.p.2.1,R.p.2.2,R.seed,⟨eH,0,0⟩)),al d 164 (bO (0,0,0,0,0,0,0,⟨eH,0,0⟩)),ae 5 r 1 aD x]:=z;refine⟨R.p,(z.box 0 i0).Ge 3 i0 i0 i0,(eT R.p P).mono ?_⟩;rintro _ V ⟨rfl,ao⟩;have B:Sp h V [al a9 164 (bO (R.object,R.block,R.id,R.p.1,R.p.2.1,R.p.2.2,R.seed,⟨eH,0,0⟩)),al d 164 (bO (0,0,0,0,0,0,0,⟨eH,0,0⟩)),ae 5 r 1 aD x]:=z.up ao.ag;refine⟨_,i0,bi (λg=>D (B.aT 2 [1,0]) (by rw[J,g0 λm=>by rw[g]at m;cases m.1])) λg=>?_⟩;have a3:=(cm R.p).1 g;refine⟨R.p.2.2,(B.box 0 i0).xS 3 2 i0,?_⟩;dsimp only;rw[af ((13:Int)+R.p.2.2)];refine⟨⟨i5,i4,i4⟩,?_⟩;have am:((13:Int)+R.p.2.2).toNat-(13:Int).toNat=R.p.2.2.toNat:=i4
   rw[am];have G:(x.drop 13).take R.p.2.2.toNat=R.data:=p5
   have E:=((DQ B).drop 13 U).take R.p.2.2.toNat l5;rw[G]at E;have a5:R.data.length=R.p.2.2.toNat:=by rw[<-G];simp;omega
   refine(fc ⟨if r.cap=13 then r.ptr else r.ptr.map (·.add (13*1)),R.p.2.2.toNat,r.cap-13⟩ R.data V E i4).mono ?_;rintro _ a7 ⟨u,rfl,ax⟩;have ar:=B.comp ax;refine⟨u,i0,?_⟩;refine ar.store an 0 i0 i0 7 [u] i0 i0 i0 i9 λW l=>?_;have l:Sp h W [al a9 164 (bO (R.object,R.block,R.id,R.p.1,R.p.2.1,R.p.2.2,R.seed,u)),al d 164 (bO (0,0,0,0,0,0,0,⟨eH,0,0⟩)),ae 5 r 1 aD x,ae 5 u 1 aD R.data]:=l;obtain⟨X,hX⟩:∃X:bF,X=(R.object,R.block,R.id,R.p.1,R.p.2.1,R.p.2.2,R.seed,u):=⟨_,rfl⟩
   rw[<-hX]at l;have Q:∀{h':f8} {q:aA},Seq h' q u 1 aD R.data->ft.p h' q X R:=λ{h' q} hs=>by rw[hX];exact⟨⟨i0,i0,i0,i0,i0,L⟩,hs⟩
   refine⟨X,(l.box 0 i0).aP _ i0,(rF X R W (Q (l.seq 3 i0 λ_=>rfl))).mono ?_⟩;rintro _ ah ⟨s5,rfl,ad⟩;have o:=l.comp ad;refine⟨s5,i0,(uu b s5 c (dn R) ah (hb.up o.ag) (o.seq 4 i0 λ_=>rfl)).mono ?_⟩;rintro _ a6 ⟨rfl,rfl⟩;refine⟨_,i0,bi (λS=>D (o.aT 2 [1,0]) (by rw[J,g0 λm=>(of_decide_eq_false S) m.2.symm])) λS=>?_⟩;have S:c=dn R:=hZ S;refine⟨X,(o.box 0 i0).aP _ i0,?_⟩;refine o.storeAll an 1 i0 i0 (bO X) i0 i0 i0 i0 λa0 ab=>?_;have f:dT c=dB R:=by rw[J,f9 ⟨g,S.symm⟩]
   refine⟨X,(ab.box 1 i0).aP _ i0,X,by rw[f];rfl,λH=>(by rw[f]at H;cases H),λr' w=>?_⟩;rw[f]at w;injection w with w
   subst w;have ap:Sp h a0 [ae 5 u 1 aD R.data]:=ab.cu [3];exact ap.gb 0 i0 λq hq=>Q (hq.1.seq (λ_=>rfl) hq.2)
end Go.Qw
namespace Go.Vc
open Go Wl Go.Qw
variable {B:aA} {h0 h h':f8} {As L:List HP} {X Y Z:HP}
theorem aa.agb(H:aa B h0 h (X::Y::(L++As))):aa B h0 h (L++(X::Y::As)):=
 H.pick (λi=>if i<ii L then i+2 else if i=ii L then 0 else if i=ii L+1 then 1 else i) (λa b c=>by(try dsimp only at c);split at c<;>split at c<;>(try split at c)<;>(try split at c)<;>(try split at c)<;>(try split at c)<;>omega) λi A d=>by
  try dsimp only
  by_cases g:i<ii L
  ·rw[qo g]at d;rw[f9 g,qy,qy,qo g];exact d
  ·rw[qj i4]at d;rw[g0 g];by_cases f:i=ii L
   ·subst f;rw[f9 rfl];rw[ze]at d;exact d
   ·rw[g0 f];by_cases e:i=ii L+1
    ·subst e;rw[f9 rfl];rw[show L.length+1-ii L=1 by omega]at d;exact d
    ·rw[g0 e];obtain⟨j,rfl⟩:∃j,i=ii L+(j+2):=⟨i-ii L-2,i4⟩
     rw[zx,qy,qy]at d;rw[show L.length+(j+2)=(ii L+j)+1+1 by omega,qy,qy,qj i4,zx];exact d
theorem aa.TW(n:Nat)(c:L[n]?=dB X)(H:aa B h0 h (Y::Z::(L++As))):aa B h0 h (X::Z::Y::(L.set n emp++As)):=by
 have a:=(qn.1 c).1;have b:=H.cons (n+2) (A:=X) (by rw[qy,qy,qo a];exact c);have e:(Y::Z::(L++As)).set (n+2) emp=Y::Z::(L.set n emp++As):=by rw[zA,zA,List.set_append_left _ _ a]
 rw[e]at b;exact b.aT 3 [0,2,1]
theorem aa.Gg(n:Nat)(g:n<ii L)(H:aa B h0 h (X::Z::Y::(L.set n emp++As))):aa B h0 h (Y::Z::(L.set n X++As)):=
 H.pick (λi=>if i=0 then 2 else if i=1 then 1 else if i=n+2 then 0 else i+1) (λa b c=>by(try dsimp only at c);split at c<;>split at c<;>(try split at c)<;>(try split at c)<;>(try split at c)<;>(try split at c)<;>omega) λi A d=>by
  try dsimp only
  match i,d with
  |0,d=>exact d
  |1,d=>exact d
  |i+2,d=>
   rw[g0 i4,g0 i4];rw[qy,qy]at d;by_cases e:i=n
   ·subst e;rw[qo m4,zj g]at d;rw[f9 rfl];exact d
   ·rw[g0 i4,qy,qy,qy];by_cases f:i<ii L
    ·rw[qo pa,zC i4]at d;rw[qo pa,zC i4];exact d
    ·rw[qj i7,zl]at d;rw[qj i7,zl];exact d
structure Kit where
 tS:Nat
 tP:Nat
 tD:Nat
 f:eY->bj->Sl->Sl->ba
def afg(k:Kit)(pw:eY)(a:bm)(d:Option bj):HP:=match a,d with
 |some a,dB d=>iw k.tD (k.f pw) a d
 |_,_=>emp
abbrev cQ(a:ba)(pw:eY)(offs:Int)(b:List bm):ba:=a++(xv (dB pw)::xt xz offs::b.map .pointer)
structure gm (mc:ba) (da:List bm) (ds:aE):Prop where
 l8:ii mc=8
 la:ii da=64
 ls:ii ds=64
 same:∀i:Nat,(da.getD i eH).isSome=(ds.getD i eH).isSome
abbrev gf(k:Kit)(pw:eY)(a:List bm)(ds:aE):List HP:=List.zipWith (afg k pw) a ds
def bh(k:Kit)(a pw:eY)(c:ba)(offs:Int)(b:List bm)(w:Pow)(ds:aE):HP:=
 (HP.all (al a k.tS (cQ c pw offs b)::dv k.tP pw w::gf k pw b ds)).and (gm c b ds)
variable {k:Kit} {a pw:eY} {mc:ba} {offs:Int} {da:List bm} {w w':Pow} {ds:aE} {d d':bj} {n:Nat}
theorem CC(ok:gm mc da ds):ii (gf k pw da ds)=64:=by simp[gf,ok.la,ok.ls]
theorem aa.oc(H:aa B h0 h (bh k a pw mc offs da w ds::As)):gm mc da ds/\aa B h0 h (al a k.tS (cQ mc pw offs da)::dv k.tP pw w::(gf k pw da ds++As)):=by obtain⟨H,ok⟩:=H.Hn;exact⟨ok,H.og⟩
theorem aa.ou(ok:gm mc da ds)(H:aa B h0 h (al a k.tS (cQ mc pw offs da)::dv k.tP pw w::(gf k pw da ds++As))):aa B h0 h (bh k a pw mc offs da w ds::As):=
 (aa.closeAll (al a k.tS (cQ mc pw offs da)::dv k.tP pw w::gf k pw da ds) H).toHn ok
theorem gm.addr(ok:gm mc da ds)(c:ds[n]?=dB (dB d)):∃b,da[n]?=dB (dB b):=by
 have f:n<64:=by have:=(qn.1 c).1;rw[ok.ls]at this;exact this
 have a:=ok.same n;rw[qe,qe,c]at a;have g:n<ii da:=by rw[ok.la];exact f
 rw[qd g]at a⊢;simp at a;obtain⟨b,e⟩:=vD.1 a;exact⟨b,by rw[e]⟩
theorem gm.XY(ok:gm mc da ds)(b:n<64)(c:ds[n]?=dB eH):da[n]?=dB eH:=by
 have a:=ok.same n;rw[qe,qe,c]at a;have d:n<ii da:=by rw[ok.la];exact b
 rw[qd d]at a⊢;simp at a;rw[a]
theorem gm.set(ok:gm mc da ds){b:eY}(c:da[n]?=dB (dB b)):gm mc da (ds.set n (dB d')):=by
 refine⟨ok.l8,ok.la,by rw[zl];exact ok.ls,λi=>?_⟩;by_cases a:n=i
 ·subst a;have d:n<ii ds:=by have:=(qn.1 c).1;rw[ok.la]at this;rw[ok.ls];exact this
  rw[qe,c,qe,zj d];rfl
 ·rw[qe (l:=ds.set n _),zC a,<-qe];exact ok.same i
theorem aaK{b:eY}(c:da[n]?=dB (dB b))(d:n<ii ds):(gf k pw da ds).set n (iw k.tD (k.f pw) b d')=gf k pw da (ds.set n (dB d')):=by
 apply zI;intro j;have e:n<ii da:=(qn.1 c).1;simp only[gf,zb,wg,y9];by_cases a:n=j
 ·subst a;rw[f9 i0,f9 i4,f9 i0,f9 d,c];rfl
 ·simp[a]
def Od(k:Kit)(a pw:eY)(c:ba)(offs:Int)(b:List bm)(ds:aE)(n:Nat):HP:=
 (HP.all (al a k.tS (cQ c pw offs b)::(gf k pw b ds).set n emp)).and (gm c b ds)
theorem aa.jA(H:aa B h0 h (bh k a pw mc offs da w ds::As))(e:ds[n]?=dB (dB d)):∃b,da[n]?=dB (dB b)/\aa B h0 h (iw k.tD (k.f pw) b d::dv k.tP pw w::Od k a pw mc offs da ds n::As):=by
 obtain⟨ok,j⟩:=H.oc;obtain⟨b,c⟩:=ok.addr e;refine⟨b,c,?_⟩;have i:(gf k pw da ds)[n]?=dB (iw k.tD (k.f pw) b d):=by simp only[gf,wg,c,e];rfl
 have g:=j.TW n i;have l:aa B h0 h (iw k.tD (k.f pw) b d::dv k.tP pw w::((al a k.tS (cQ mc pw offs da)::(gf k pw da ds).set n emp)++As)):=g;exact(((aa.closeAll _ l.agb).toHn ok).aT 3 [1,2,0]:aa B h0 h (iw k.tD (k.f pw) b d::dv k.tP pw w::Od k a pw mc offs da ds n::As))
theorem aa.pU{b:eY}(j:da[n]?=dB (dB b))(H:aa B h0 h (iw k.tD (k.f pw) b d'::dv k.tP pw w'::Od k a pw mc offs da ds n::As)):aa B h0 h (bh k a pw mc offs da w' (ds.set n (dB d'))::As):=by
 have l:aa B h0 h (Od k a pw mc offs da ds n::dv k.tP pw w'::iw k.tD (k.f pw) b d'::As):=H.aT 3 [2,1,0];obtain⟨l,ok⟩:=l.Hn;have o:=l.og;have q:n<ii ds:=by have:=(qn.1 j).1;rw[ok.la]at this;rw[ok.ls];exact this
 have t:=CC (k:=k) (pw:=pw) ok;have g:n<ii (gf k pw da ds):=by rw[t,<-ok.ls];exact q
 obtain⟨L,p⟩:∃L,L=gf k pw da ds:=⟨_,rfl⟩
 rw[<-p]at o g;have s:aa B h0 h (iw k.tD (k.f pw) b d'::dv k.tP pw w'::al a k.tS (cQ mc pw offs da)::(L.set n emp++As)):=by
  refine o.pick (λi=>if i=0 then 1+ii L+1 else if i=1 then 1+ii L else if i=2 then 0 else if i<3+ii L then i-2 else i) (λx y c=>by(try dsimp only at c);split at c<;>split at c<;>(try split at c)<;>(try split at c)<;>(try split at c)<;>(try split at c)<;>(try split at c)<;>(try split at c)<;>omega) λi A e=>?_
  try dsimp only
  have d:ii (al a k.tS (cQ mc pw offs da)::L.set n emp)=1+ii L:=i7
  match i,e with
  |0,e=>rw[f9 i0,qj i4,d,show 1+ii L+1-(1+ii L)=1 by omega];exact e
  |1,e=>rw[g0 i4,f9 i0,qj i4,d,ze];exact e
  |2,e=>rw[g0 i4,g0 i4,f9 rfl];exact e
  |i+3,e=>
   rw[g0 i4,g0 i4,g0 i4];rw[qy,qy,qy]at e;by_cases m:i<ii L
   ·rw[f9 i4,show i+3-2=i+1 by omega,qo (by rw[d];omega),qy];rw[qo (by simpa using m)]at e;exact e
   ·rw[g0 i4,qj (by rw[d];omega),d,show i+3-(1+ii L)=(i-ii L)+2 by omega,qy,qy];rw[qj i7,zl]at e;exact e
 have r:=aa.Gg n g s;rw[p,aaK j q]at r;exact r.ou (ok.set j)
def jq:iZ (Int×Sl) (Int×aV):=⟨λh q a b=>a.1=b.1/\Seq h q a.2 1 aD b.2,λa c=>⟨a.1,a.2.ag c⟩,λa d=>⟨a.1,a.2.mono d⟩⟩
def piv(x:Int×Sl):ba:=[xt xz x.1,x.2]
theorem Ls:∀x,∀c∈piv x,c.oneCell'=eR:=by intro x c a;simp[piv]at a;rcases a with rfl|rfl<;>rfl
def ib(a:List bm)(slot:Int):bm:=if 0<=slot/\slot<64 then(a[slot.toNat]?).join else eH
theorem mU{g:ba}{c:List bm}{ds:aE}(ok:gm g c ds)(slot:Int):
  (aX ds slot=eH/\ib c slot=eH)∨∃(n:Nat) (d:bj) (b:eY),slot=n/\n<64/\ds[n]?=dB (dB d)/\aX ds slot=dB d/\c[n]?=dB (dB b)/\ib c slot=dB b:=by
 unfold aX ib;by_cases h:0<=slot/\slot<64
 ·rw[f9 h,f9 h];have f:slot.toNat<ii ds:=by rw[ok.ls];omega
  cases hd:ds[slot.toNat]with
  |none=>
   have a:ds[slot.toNat]?=dB eH:=by rw[qd f,hd]
   exact .inl ⟨by rw[a];rfl,by rw[ok.XY i4 a];rfl⟩
  |some d=>
   have a:ds[slot.toNat]?=dB (dB d):=by rw[qd f,hd]
   obtain⟨b,e⟩:=ok.addr a;exact .inr ⟨slot.toNat,d,b,i4,i4,a,by rw[a];rfl,e,o1⟩
 ·rw[g0 h,g0 h];exact .inl ⟨i0,i0⟩
theorem xT{a:ba}{pw:eY}{offs:Int}{b:List bm}(h8:ii a=8)(n:Nat):(cQ a pw offs b)[10+n]?=(b[n]?).map .pointer:=by unfold cQ;rw[qj i4,h8,show 10+n-8=n+1+1 by omega,qy,qy,qR]
theorem PX{a:ba}{pw:eY}{offs:Int}{b:List bm}(h8:ii a=8):(cQ a pw offs b)[8]?=dB (xv (dB pw)):=by unfold cQ;rw[qj i4,h8];rfl
theorem Vq{a:ba}{pw:eY}{offs:Int}{b:List bm}(h8:ii a=8):(cQ a pw offs b)[9]?=dB (xt xz offs):=by unfold cQ;rw[qj i4,h8];rfl
end Go.Vc
namespace Go.Qw
open Go Go.Vc Go.Proofs Wl
abbrev bw:Go.Vc.Kit:=⟨91,121,119,λpw=>fz pw⟩
theorem PY{e:TypeId}(s:Sl)(l:aw)(h:f8)(c:Own h e s 1 ak l)(a:ii l<2^40):aq xD 177 #[s] h λv h'=>v=xu s.ptr (Lib.compact l).length s.cap/\Own h' e ⟨s.ptr,ii (Lib.compact l),s.cap⟩ 1 ak (Lib.compact l)/\aZ (λb=>¬s.on b) h h':=
 IK Tryz.slices_Compact_int Tryz.slices_Compact_int_empty c a
variable {B:aA} {h0 h h':f8} {As:List HP} {a pw:eY} {mc:ba} {offs:Int} {da:List bm} {w:Pow} {ds:aE}
theorem mj(slot:Int)(ok:gm mc da ds)(d:cw h a 91 (cQ mc pw offs da)):aq xD 23 #[xv (dB a),xt xz slot] h λv h'=>v=.pointer (ib da slot)/\h'=h:=by
 refine AW (dB a) slot ?_;have b:¬(0<=slot/\slot<64)->Value.pointer eH=.pointer (ib da slot)/\h=h:=λe=>by unfold ib;rw[g0 e];exact⟨i0,i0⟩
 refine bc (bA (λe=>j0) λ_=>ac (λe=>b i4) λf=>ac (λe=>b i4) λe2=>?_);have c:slot.toNat<ii da:=by rw[ok.la];omega
 refine⟨a,i0,⟨i4,i4⟩,da[slot.toNat],?_,?_,i0⟩
 ·rw[z8];refine d.xS 10 slot.toNat ?_;rw[xT ok.l8,qd c];rfl
 ·unfold ib;rw[f9 i4,qd c];rfl
theorem aa.dl(H:aa B h0 h (bh bw a pw mc offs da w ds::As)):gm mc da ds/\cw h a 91 (cQ mc pw offs da):=by obtain⟨ok,b⟩:=Go.Vc.aa.oc H;exact⟨ok,b.box 0 i0⟩
theorem Jx(s:Sl)(l:aw)(x:Rd h s 1 ak l)(K:ii l<=2^30)(H:aa B h0 h (bh bw a pw mc offs da w ds::As)):
  aq xD 47 #[.func (.func 23) #[xv (dB a)] #[],s] h λv h'=>∃r:Sl,v=r/\Sp h h' [ae 3 r 1 ak (aQ ds l)]:=by
 refine Px (23,#[xv (dB a)],#[]) s ?_;have z:=x.len;obtain⟨ok,u⟩:=aa.dl H;refine av (λt:Sl×Nat=>(t.1,(t.2:Int))) (λt h'=>t.2<=ii l/\Sp h h' [ae 3 t.1 1 ak (aQ ds (l.take t.2))]) (λt=>ii l-t.2) (⟨eH,0,0⟩,0) i0 ⟨i9,by simpa[aQ]using(Sp.refl h).nil 3 1 ak⟩ ?_;rintro⟨o,i⟩ M ⟨L,j⟩;dsimp only at*;refine ac (λe=>?_) (λe=>?_)
 ·have p:i<ii l:=i4
  have c:aQ ds (l.take (i+1))=aQ ds (l.take i)++(if isLive ds l[i]then[l[i]]else[]):=by unfold aQ;rw[aH _ _ p,zq,zr,vi]
  have E:ii (aQ ds (l.take i))<=ii l:=by have:=qT (isLive ds) (l.take i);unfold aQ;simp at this⊢;omega
  have next:∀{h':f8} {k:Sl},Sp h h' [ae 3 k 1 ak (aQ ds (l.take (i+1)))]->∃m:Sl×Nat,((⟨k.ptr,k.len,k.cap⟩:Sl),qc xz ((i:Int)+1))=(m.1,(m.2:Int))/\(m.2<=ii l/\Sp h h' [ae 3 m.1 1 ak (aQ ds (l.take m.2))])/\l.length-m.2<ii l-i:=λ{h' k} H'=>
   ⟨(k,i+1),jj,⟨i6,H'⟩,i6⟩
  refine(Seq.up x j.ag).bD i i0 p l[i] i0 (fo ld ?_);refine(mj l[i] ok (u.ag j.ag u.lt)).mono ?_;rintro _ I ⟨rfl,rfl⟩;refine⟨_,i0,?_⟩;rcases mU ok l[i]with⟨c1,c2⟩|⟨n,d,b,c0,c1,c2,c3,c4,c5⟩
  ·rw[c2];have g:isLive ds l[i]=eS:=by unfold isLive;rw[c1]
   rw[g]at c;refine bi (λe=>j0) λ_=>next (by rw[c];simpa using j)
  ·rw[c5];have g:isLive ds l[i]=!d.lost:=by unfold isLive;rw[c3]
   refine bi (λ_=>?_) λe=>j0
   obtain⟨G,f,y⟩:=Go.Vc.aa.jA (aa.up H j.ag) c2;rw[c4]at f;injection f with f
   injection f with f
   subst f;obtain⟨A,D,q,_,_⟩:=iU.box y;refine(EN A D q).mono ?_;rintro _ h3 ⟨rfl,rfl⟩;refine⟨_,i0,bi (λe=>?_) λe=>?_⟩
   ·rw[g,e]at c;refine j.push an 0 i0 fS i0 i5 (λ_=>rfl) eJ l[i] i0 i5 i4 λk J F=>next ?_
    rw[c];exact F
   ·rw[g,e]at c;exact next (by rw[c];simpa using j)
 ·rw[qi i4]at j;exact⟨o,i0,j⟩
theorem Jy(s:Sl)(l:aw)(W:St B h0 As λh=>Rd h s 1 ak l)(hl:ii l<=2^30)(E:∀x∈l,0<=x/\x<64)(H:aa B h0 h (bh bw a pw mc offs da w ds::As)):
  aq xD 114 #[.func (.func 23) #[xv (dB a)] #[],s] h λv h'=>v=xt xz (fb (cL l) w ds).1/\aa B h0 h' (bh bw a pw mc offs da (fb (cL l) w ds).2.1 (fb (cL l) w ds).2.2::As):=by
 refine PA (23,#[xv (dB a)],#[]) s ?_;refine(jF s l h (W.at [_] H) i4).mono ?_;rintro _ X ⟨r,rfl,R⟩;have I:=H.cj R;refine⟨r,i0,(EL r l X (I.own 0 i0) i4).mono ?_⟩;rintro _ T ⟨rfl,L,Q⟩;have N:=I.nc 0 i0 Q L;refine⟨(),i0,(PY r (ja l) T L (by rw[DY];omega)).mono ?_⟩;rintro _ h3 ⟨rfl,U,M⟩;have p:=N.step (D:=ae 3 ⟨r.ptr,ii (Lib.compact (ja l)),r.cap⟩ 1 ak (Lib.compact (ja l))) 0 i0 λq G F=>⟨M.mono λb _ m z=>m (G.2 b z),U,λb m=>⟨qY (F b (G.2 b m)) M.1,.inl (G.2 b m)⟩⟩
 rw[UQ l E]at p⊢;obtain⟨u,J⟩:∃u,u=cL l:=⟨_,rfl⟩
 rw[<-J]at p⊢;have p:aa B h0 h3 (ae 3 ⟨r.ptr,ii u,r.cap⟩ 1 ak u::bh bw a pw mc offs da w ds::As):=p;have V:ii u<=64:=by have:=qT (λi=>decide (i∈l)) ((qz 64).map λi:Nat=>(i:Int));rw[J];unfold cL;simpa using this
 refine⟨⟨r.ptr,ii u,r.cap⟩,i0,?_⟩;refine av (λt:Nat×Pow×aE=>(t.1:Int)) (λt h'=>t.1<=ii u/\fb u w ds=fb (u.drop t.1) t.2.1 t.2.2/\aa B h0 h' (ae 3 ⟨r.ptr,ii u,r.cap⟩ 1 ak u::bh bw a pw mc offs da t.2.1 t.2.2::As)) (λt=>ii u-t.1) (0,w,ds) i0 ⟨i9,i0,p⟩ ?_;rintro⟨i,j,f⟩ h4 ⟨hi,c,o⟩;dsimp only at*;refine ac (λe=>?_) (λe=>?_)
 ·have y:i<ii u:=i4
  obtain⟨ok,m⟩:=aa.dl o.rest;rw[qQ y,sF]at c;refine(o.seq 0 i0 λ_=>rfl).bD i i0 y u[i] i0 (fo ld ?_);refine(mj u[i] ok m).mono ?_;rintro _ P ⟨rfl,rfl⟩;refine⟨_,i0,?_⟩;rcases mU ok u[i]with⟨c1,c2⟩|⟨n,d,b,c0,c1,c2,c3,c4,c5⟩
  ·rw[c2];refine(PQ P).mono ?_;rintro _ Y ⟨rfl,rfl⟩;have A:gH j f u[i]=(5,j,f):=by unfold gH;rw[c1]
   rw[A]at c;refine⟨5,i0,ci (λ_=>?_) λe=>absurd e i5⟩;have:fb u w ds=(5,j,f):=c;rw[this];exact⟨i0,o.rest⟩
  ·rw[c5];obtain⟨Z,g,O⟩:=Go.Vc.aa.jA (o.aT 2 [1,0]) c2;rw[c4]at g;injection g with g
   injection g with g
   subst g;refine(XP O).mono ?_;rintro _ Y ⟨rfl,S⟩;have K:=Go.Vc.aa.pU (k:=bw) (n:=n) c4 S;have A:gH j f u[i]=((d.sync j).1,(d.sync j).2.1,f.set n (dB (d.sync j).2.2)):=by unfold gH;rw[c3];simp only[bK,c0,ql]
   rw[A]at c;refine⟨_,i0,ci (λe2=>?_) λe2=>?_⟩
   ·have:fb u w ds=((d.sync j).1,(d.sync j).2.1,f.set n (dB (d.sync j).2.2)):=by rw[c];exact g0 e2
    rw[this];exact⟨i0,K.oD⟩
   ·refine⟨(i+1,(d.sync j).2.1,f.set n (dB (d.sync j).2.2)),jj,⟨i6,?_,K.aT 2 [1,0]⟩,i6⟩;rw[c];exact f9 e2
 ·rw[zk i4]at c;rw[c];exact⟨i0,o.rest⟩
end Go.Qw
namespace Go.Vc
open Go Wl
theorem HP.Bj{h:f8}:∀{L:List HP} {q:aA} {i:Nat} {A:HP},(HP.all L).p h q->L[i]?=dB A->A.p h q
 |A::L,q,0,A',⟨q1,q2,_,b,_,d,_⟩,hi=>by simp at hi;subst hi;exact A.mono d b
 |A::L,q,i+1,A',⟨q1,q2,_,_,c,_,e⟩,hi=>A'.mono (HP.Bj e (by simpa using hi)) c
 |[],_,i,_,_,hi=>by simp at hi
variable {α β:Type} {B:aA} {h0 h:f8} {As:List HP} {e e2 k:Nat} {s:Sl} {f:α->ba} {ll:List (List α)}
theorem aa.aaL(H:aa B h0 h (dg e s e2 k f ll::As))(m:∀x,ii (f x)=k):∃rs,aa B h0 h (cO (cF k f) 1 bp s rs ll::As):=by
 obtain⟨rs,H⟩:=H.rx;obtain⟨H,b⟩:=H.Hn;refine⟨rs,H.gb 0 i0 λq d=>⟨?_,b,λi r l g a=>?_⟩⟩
 ·have:=HP.Bj (i:=0) d i0;exact this.1.seq (λ_=>rfl) this.2
 ·have c:i<ii ll:=(qn.1 a).1;have n:=fV (e:=e2) (k:=k) (f:=f) b i c;have:=HP.Bj (i:=i+1) d l6;have j:rs[i]'(by omega)=r:=by rw[qd i4]at g;simpa using g
  have e2:ll[i]=l:=by rw[qd c]at a;simpa using a
  rw[j,e2]at this;exact this.1.seq m this.2
end Go.Vc
namespace Wl
def bJ(m:aC)(bQ:aw):List (Int×aV):=bQ.flatMap λn=>(bn m).map λc=>(n,c)
theorem kO{m:aC}{bQ:aw}{x:Int×aV}(h:x∈bJ m bQ):x.1∈bQ/\x.2.length=64:=by unfold bJ at h;obtain⟨n,a,d⟩:=zS.1 h;obtain⟨c,b,rfl⟩:=qu.1 d;exact⟨a,sG b⟩
end Wl
namespace Go.Qw
open Go Go.Vc Go.Proofs Wl
theorem kz(m:aC)(a:dh m):ii (bn m)<=3000:=by have:=HY m a;unfold bn iB;simp;omega
abbrev PZ:bU C.toAO 131 141 2 [xt xz 0,xu eH 0 0] 32:=⟨_,_,i0,i0,i0,i0,i0,i0⟩
variable {B:aA} {h0 h h':f8} {As:List HP} {a pw:eY} {mc:ba} {offs:Int} {da:List bm} {w:Pow} {ds:aE}
theorem EQ(s:Sl)(r:List (Int×Sl))(P:List (Int×aV))(I:St B h0 As λh=>nD jq 2 piv h s r P)(hl:ii P<=2^30)(E:∀x∈P,(0<=x.1/\x.1<64)/\x.2.length<=2^20)(H:aa B h0 h (bh bw a pw mc offs da w ds::As)):
  aq xD 76 #[.func (.func 23) #[xv (dB a)] #[],s] h λv h'=>v=xt xz (layAll P w ds).1/\aa B h0 h' (bh bw a pw mc offs da (layAll P w ds).2.1 (layAll P w ds).2.2::As):=by
 refine RZ (23,#[xv (dB a)],#[]) s ?_;have T:=(I.at [_] H).1.len;have ab:=(I.at [_] H).2.1;have H0:=(H.nil 3 1 ak).bv;refine av (λt:Sl×Nat×Pow×aE=>(t.1,(t.2.1:Int))) (λt h'=>t.2.1<=ii P/\lc P w ds=lc (P.drop t.2.1) t.2.2.1 t.2.2.2/\aa B h0 h' (ae 3 t.1 1 ak ((P.take t.2.1).map qK)::bh bw a pw mc offs da t.2.2.1 t.2.2.2::As)) (λt=>ii P-t.2.1) (⟨eH,0,0⟩,0,w,ds) i0 ⟨i9,i0,by simpa using H0⟩ ?_;rintro⟨o,i,u,m⟩ h1 ⟨hi,f,G⟩;dsimp only at*;refine ac (λe=>?_) (λe=>?_)
 ·have q:i<ii P:=i4
  rw[qQ q,tU]at f;have X:=I.at [_,_] G;have L:=E _ (qg q);refine X.1.dZ (g:=piv) i i0 i4 (r[i]'(by omega)) i0 ?_;refine G.alloc an i0 λa4 Y z=>?_;have z:=z.bv;refine z.storeAll an 0 i0 i0 (piv (r[i]'(by omega))) i0 i0 i0 i0 λh3 j=>?_;obtain⟨O,N⟩:=Fix.row (I.at [_,_,_] j) q;have j:aa B h0 h3 (al a4 141 (piv (r[i]'(by omega)))::ae 3 o 1 ak ((P.take i).map qK)::bh bw a pw mc offs da u m::As):=j;have j:=j.aT 3 [2,0,1];obtain⟨ok,R⟩:=aa.dl j;obtain⟨c,p⟩:∃c,c=fO u m P[i].1 P[i].2:=⟨_,rfl⟩
  rw[<-p]at f;refine bT (λ_ h'=>c.1=0/\aa B h0 h' (bh bw a pw mc offs da c.2.1 c.2.2::al a4 141 (piv (r[i]'(by omega)))::ae 3 o 1 ak ((P.take i).map qK)::As)) ?_ ?_
  ·refine bT (λe h'=>e=c.1/\aa B h0 h' (bh bw a pw mc offs da c.2.1 c.2.2::al a4 141 (piv (r[i]'(by omega)))::ae 3 o 1 ak ((P.take i).map qK)::As)) ?_ ?_
   ·refine⟨P[i].1,by rw[<-O];exact(j.box 1 i0).cell0 i0,(r[i]'(by omega)).2,(j.box 1 i0).cell i0,fo ld ?_⟩;refine(mj P[i].1 ok R).mono ?_;rintro _ K ⟨rfl,rfl⟩;refine⟨_,i0,⟨(j.box 1 i0).cell i0,trivial⟩,?_⟩;rcases mU ok P[i].1 with⟨c1,c2⟩|⟨n,d,b,c0,c1,c2,c3,c4,c5⟩
    ·rw[c2];refine(Lp (r[i]'(by omega)).2 P[i].2 K N).mono ?_;rintro _ S ⟨rfl,rfl⟩;have D:c=(if P[i].2.length≠64 then 1 else 5,u,m):=by rw[p];unfold fO;rw[c1]
     refine⟨_,i0,trivial,by rw[D],?_⟩;rw[D];exact j
    ·rw[c5];obtain⟨b',l,J⟩:=Go.Vc.aa.jA j c2;rw[c4]at l;injection l with l
     injection l with l
     subst l;refine(GJ (r[i]'(by omega)).2 P[i].2 J N L.2).mono ?_;rintro _ h6 ⟨rfl,W⟩;have U:=Go.Vc.aa.pU (k:=bw) (n:=n) c4 W;have D:c=((d.append u P[i].2).1,(d.append u P[i].2).2.1,m.set n (dB (d.append u P[i].2).2.2)):=by rw[p];unfold fO;rw[c3];simp only[bK,c0,ql]
     refine⟨_,i0,trivial,by rw[D],?_⟩;rw[D];exact U
   ·rintro e4 K ⟨rfl,A⟩;refine ci (λe2=>?_) λe2=>⟨e2,A⟩
    rw[g0 e2]at f;have:layAll P w ds=c:=by unfold layAll;rw[f];exact g0 e2
    rw[this];exact⟨i0,A.oD.oD⟩
  ·rintro _ K ⟨e2,A⟩;rw[f9 e2]at f;refine⟨P[i].1,by rw[<-O];exact(A.box 1 i0).cell0 i0,?_⟩;refine A.push an 2 i0 fS i0 i5 (λ_=>rfl) eJ P[i].1 i0 i5 i7 λV S J=>?_;refine⟨(V,i+1,c.2.1,c.2.2),jj,⟨i6,f,?_⟩,i6⟩;dsimp only;rw[aH _ _ q,qS];exact J.aT 3 [2,0]
 ·have M:i=ii P:=i4
  subst M;rw[List.drop_length]at f;rw[qV]at G;have z:=(G.freeze 0 i0 λ_=>rfl).aT 2 [1,0];have F:layAll P w ds=fb (cL (P.map qK)) u m:=by unfold layAll;rw[f];rfl
  refine(Jy o (P.map qK) (St.dS 0 i0 λh' Z=>Z) i7 (λx hx=>?_) z).mono ?_
  ·obtain⟨y,Q,rfl⟩:=qu.1 hx;exact(E y Q).1
  ·rintro _ Y ⟨rfl,j⟩;refine⟨_,i0,by rw[F],?_⟩;rw[F];exact j.oD
theorem GL(x:bX)(m:aC)(s:Sl)(bQ:aw)(h:f8)(hx:dH h x m)(H:dh m)(R:Rd h s 1 ak bQ)(X:ii bQ<=2^10):
  aq xD 77 #[fT x,s] h λv h'=>∃(r:Sl) (ys:List (Int×Sl)),v=r/\Sp h h' [cO jq 2 piv r ys (bJ m bQ)]:=by
 refine Nq x s ?_;refine(Sp.refl h).boxed λa1 Q P=>?_;refine⟨x,(P.box 0 i0).aP _ i0,(oY x m Q (hx.up P.ag) H).mono ?_⟩;rintro _ S ⟨r,rfl,R2⟩;have E:=P.cj R2;refine⟨r,i0,?_⟩;obtain⟨rs,E⟩:=E.aaL λ_=>rfl;have O:=kz m H;obtain⟨a,B⟩:∃a,a=bn m:=⟨_,rfl⟩
 rw[<-B]at E O;have U:=E.fA 0 i0;have Y:=U.1.len;have ad:=U.2.1;have ab:=R.len;obtain⟨T,G⟩:∃T:Int->List ((Int×Sl)×(Int×aV)),T=λn=>(rs.zip a).map λz=>((n,z.1),(n,z.2)):=⟨_,rfl⟩
 have d:∀n,ii (T n)=ii a:=λn=>by rw[G];simp;omega
 have K:∀n,(T n).map zL=a.map λc=>(n,c):=λn=>by
  have H:=List.map_snd_zip (l₁:=rs) (l₂:=a) i4
  conv=>rhs;rw[<-H]
  rw[G];simp[w9,Function.comp_def]
 have I:∀n j (J:j<ii a),(T n)[j]'(by rw[d];exact J)=((n,rs[j]'(by omega)),(n,a[j])):=λn j J=>by subst G;simp
 have f:Sp h S [ae 141 ⟨eH,0,0⟩ 2 piv (((bQ.take 0).flatMap T).map qK),cO (cF 1 aD) 1 bp r rs a]:=(E.nil 141 2 piv).cu [2,0];have A:∀i,i<=ii bQ->ii ((bQ.take i).flatMap T)<=i*3000:=λi=>by
  induction i with
  |zero=>simp
  |succ i ih=>
   intro V;rw[aH _ _ (show i<ii bQ by omega),zg,qw];have Q:=ih i4;have S:ii ([bQ[i]].flatMap T)=ii a:=by rw[zf,z7,qM,d]
   omega
 refine av (λt:Sl×Nat=>(t.1,(t.2:Int))) (λt h'=>t.2<=ii bQ/\Sp h h' [ae 141 t.1 2 piv (((bQ.take t.2).flatMap T).map qK),cO (cF 1 aD) 1 bp r rs a]) (λt=>ii bQ-t.2) (⟨eH,0,0⟩,0) i0 ⟨i9,f⟩ ?_;rintro⟨o,i⟩ h3 ⟨V,f⟩;dsimp only at*;refine ac (λe=>?_) (λe=>?_)
 ·have D:i<ii bQ:=i4
  have ht:=A i V;have hb:i*3000<=2^10*3000:=za _ i4;refine(Seq.up R f.ag).bD i i0 D bQ[i] i0 ?_;refine av (λt:Sl×Nat=>(t.1,(t.2:Int))) (λt h'=>t.2<=ii a/\Sp h h' [ae 141 t.1 2 piv (((bQ.take i).flatMap T).map qK++((T bQ[i]).take t.2).map qK),cO (cF 1 aD) 1 bp r rs a]) (λt=>ii a-t.2) (o,0) i0 ⟨i9,pa⟩ ?_;rintro⟨u,j⟩ h4 ⟨J,p⟩;dsimp only at*;refine ac (λe2=>?_) (λe2=>?_)
  ·have y:j<ii a:=i4
   refine(p.fA 1 i0).1.lK j i0 i4 ?_;refine p.push an 0 i0 PZ i0 i5 (λ_=>rfl) Ls (bQ[i],rs[j]'(by omega)) i0 i5 (by simp only[qw,qx,qU,d];omega) λu' h5 H5=>?_;refine⟨(u',j+1),jj,⟨i6,?_⟩,i6⟩;dsimp only;rw[aH (T bQ[i]) j (by rw[d];exact y),qS,I _ _ y,<-qp];exact H5
  ·have N:j=ii a:=i4
   subst N;rw[qi (l:=T bQ[i]) (by rw[d];exact qm _)]at p;refine⟨(u,i+1),jj,⟨i6,?_⟩,i6⟩;dsimp only;rw[aH _ _ D,zg,qS,zf,z7,qM];exact p
 ·have L:i=ii bQ:=i4
  subst L;rw[qV]at f;refine⟨o,(bQ.flatMap T).map qK,i0,?_⟩;have p:=(f.freeze 0 i0 λ_=>rfl).lJ;refine p.gb 0 i0 λq ⟨q1,q2,_,b,c,z1,Z⟩=>?_;have w:(bQ.flatMap T).map zL=bJ m bQ:=by unfold bJ;rw[List.map_flatMap,<-B];congr 1;funext n;exact K n
  rw[<-w];refine⟨Z.mono c,i9,λj r' l' g F=>?_⟩;rw[qR]at g F;cases g3:(bQ.flatMap T)[j]? with
  |none=>rw[g3]at g;cases g
  |some t=>
   rw[g3]at g F;simp at g F;subst g;subst F;obtain⟨n,_,W⟩:=zS.1 (yd g3);rw[G]at W;obtain⟨z,M,rfl⟩:=qu.1 W;obtain⟨k,hk,rfl⟩:=List.mem_iff_getElem.1 M;rw[ve];exact⟨i0,(z1.2.2 k _ _ (qd _) (qd _)).mono b⟩
variable {s:Sl} {d:List bF}
theorem Vr{d c:List bF}{y:bF}(b:Sd cC (d++c))(f:∀z∈d,cC z y=eR)(g:∀z∈c,¬cC z y=eR):Sd cC (d++y::c):=
 Sd.app ee b.left (zG.2 ⟨λz a=>ee.Ec (g z a),b.right⟩) λx e z a=>by
  rcases q8.1 a with rfl|a
  ·exact f x e
  ·exact b.FS x e z a
theorem Bl(X M Y:List bF)(a b:Int)(ha:a=(ii X:Int))(hb:b=(ii X+ii M:Nat))(ah:ii X+ii M+ii Y<=2^40)(H:aa B h0 h (cP s (X++(M++Y))::As)):
  aq xD 298 #[s,xt xz a,xt xz b,.func (.func 169) #[] #[]] h λv h'=>v=.tuple #[]/\∃Z,Sd cC Z/\cH cC M Z/\aa B h0 h' (cP s (X++(Z++Y))::As):=by
 refine lu s a b (169,#[],#[]) ?_;subst ha;subst hb;rw[af ((ii X:Int)+1)];refine av (λt:Nat×List bF=>((ii X+1+t.1:Nat):Int)) (λt h'=>(t.1+1<=ii M∨t.1=0)/\Sd cC t.2/\cH cC (M.take (t.1+1)) t.2/\t.2.length=ii (M.take (t.1+1))/\aa B h0 h' (cP s (X++(t.2++(M.drop (t.1+1)++Y)))::As)) (λt=>ii M-t.1) (0,M.take 1) i0 ?_ ?_
 ·refine⟨.inr i0,?_,cH.refl _,i0,?_⟩
  ·cases M with
   |nil=>exact List.Pairwise.nil
   |cons x M=>exact zG.2 ⟨λ_ h=>m9,i9⟩
  ·rw[<-qp (M.take (0+1)),qF];exact H
 rintro⟨t,P⟩ h1 ⟨ht,p,E,ab,T⟩;dsimp only at*;refine ac (λe=>?_) (λe=>?_)
 ·have K:t+1<ii M:=i4
  obtain⟨y,hy⟩:∃y,y=M[t+1]:=⟨_,rfl⟩
  have I:ii P=t+1:=by rw[ab];simp;omega
  have eD:M.drop (t+1)=y::M.drop (t+1+1):=by rw[qQ K,hy]
  rw[eD]at T;refine av (λu:List bF×List bF=>((ii X+ii u.1:Nat):Int)) (λu h'=>u.1++u.2=P/\(∀z∈u.2,¬cC z y=eR)/\aa B h0 h' (cP s (X++(u.1++(y::(u.2++(M.drop (t+1+1)++Y)))))::As)) (λu=>ii u.1) (P,[]) (by dsimp only;rw[I];congr 1;omega) ⟨i9,i9,by simpa using T⟩ ?_;rintro⟨c,d⟩ h2 ⟨L,f,J⟩;dsimp only at*;have ad:ii c+ii d=t+1:=by rw[<-I,<-L,qw]
  have l:∀{h':f8},(∀z∈c,cC z y=eR)->aa B h0 h' (cP s (X++(c++(y::(d++(M.drop (t+1+1)++Y)))))::As)->
    ∃k:Nat×List bF,qc xz (((ii X+1+t:Nat):Int)+1)=((ii X+1+k.1:Nat):Int)/\((k.1+1<=ii M∨k.1=0)/\Sd cC k.2/\cH cC (M.take (k.1+1)) k.2/\k.2.length=ii (M.take (k.1+1))/\aa B h0 h' (cP s (X++(k.2++(M.drop (k.1+1)++Y)))::As))/\M.length-k.1<ii M-t:=λ{h'} hle H'=>by
   refine⟨(t+1,c++y::d),by dsimp only;rw[af _];omega,⟨.inl i6,?_,?_,?_,?_⟩,i6⟩
   ·exact Vr qs hle f
   ·dsimp only;rw[aH M (t+1) K,<-hy];have h1:cH cC (M.take (t+1)++[y]) (P++[y]):=E.app (cH.refl _);refine h1.trans ?_;rw[<-L,qp];have h2:cH cC (d++[y]) ([y]++d):=cH.Xj ee λx hx z R=>by rw[qB.1 R];exact f x hx
    exact(cH.refl _).app h2
   ·dsimp only;simp;omega
   ·dsimp only;have:X++((c++y::d)++(M.drop (t+1+1)++Y))=X++(c++(y::(d++(M.drop (t+1+1)++Y)))):=i9
    rw[this];exact H'
  obtain⟨D,N⟩:∃D,D=X++(c++(y::(d++(M.drop (t+1+1)++Y)))):=⟨_,rfl⟩
  refine bT (λ_ h'=>∃(Q:List bF) (z:bF),c=Q++[z]/\¬cC z y=eR/\aa B h0 h' (cP s D::As)) ?_ ?_
  ·rw[<-N]at J l;refine ac (λe2=>?_) (λe2=>⟨trivial,l (λz R=>?_) J⟩)
   ·have G:c≠[]:=λh=>by rw[h]at e2;simp at e2
    obtain⟨Q,z,n⟩:∃(Q:List bF) (z:bF),c=Q++[z]:=⟨c.dropLast,c.getLast G,(List.dropLast_concat_getLast G).symm⟩
    have V:ii c=ii Q+1:=by rw[n];simp
    have g1:D[ii X+ii c]?=dB y:=by rw[N,qj i4,show X.length+ii c-ii X=ii c by omega,qj i4,ze];rfl
    have g2:D[ii X+ii c-1]?=dB z:=by rw[N,qj i4,show X.length+ii c-1-ii X=ii Q by omega,n,qp,qj (qm _),ze];rfl
    obtain⟨O,r⟩:=qn.1 g1;obtain⟨S,q⟩:=qn.1 g2;refine(J.seq 0 i0 λ_=>rfl).dZ (g:=bO) _ i0 O y q0 ?_;have U:qc xz (((ii X+ii c:Nat):Int)-1)=((ii X+ii c-1:Nat):Int):=j3
    rw[U];refine(J.seq 0 i0 λ_=>rfl).dZ (g:=bO) _ i0 S z (by rw[q]) (fo ld ?_);refine(oZ y z h2).mono ?_;rintro _ h3 ⟨rfl,R3⟩;have F:=J.up R3.ag;refine⟨_,i0,trivial,ac (λW=>⟨Q,z,n,(pS y z).1 W,F⟩) λW=>l (λw m=>?_) F⟩;have o:cC z y=eR:=by
     by_cases hc:cC z y=eR
     ·exact hc
     ·exact absurd ((pS y z).2 hc) W
    rw[n]at m;rcases qA.1 m with m|m
    ·refine ee.trans _ _ _ ?_ o;have:Sd cC (Q++[z]):=by rw[<-n];exact Sd.left (v:=d) qs
     exact this.FS w m z i9
    ·rw[qB.1 m];exact o
   ·have:c=[]:=by
     cases c with
     |nil=>rfl
     |cons x P=>exfalso;simp only[zh]at e2;omega
    rw[this]at R;cases R
  ·rintro _ h3 ⟨Q,z,n,o,F⟩;have V:ii c=ii Q+1:=by rw[n];simp
   have A:D=(X++Q)++z::([]++y::(d++(M.drop (t+1+1)++Y))):=by rw[N,n];simp
   obtain⟨q1,q2,q3,q4⟩:=PT (X++Q) [] (d++(M.drop (t+1+1)++Y)) z y (i:=ii X+ii c-1) (j:=ii X+ii c) i7 i7;rw[<-A]at q1 q2 q3 q4;obtain⟨S,q⟩:=qn.1 q1;obtain⟨O,r⟩:=qn.1 q2;have U:qc xz (((ii X+ii c:Nat):Int)-1)=((ii X+ii c-1:Nat):Int):=j3
   rw[U];refine(F.seq 0 i0 λ_=>rfl).dZ (g:=bO) _ i0 S z (by rw[q]) ?_;refine(F.seq 0 i0 λ_=>rfl).dZ (g:=bO) _ i0 O y q0 ?_;refine F.set an 0 i0 (λ_=>rfl) i0 (ii X+ii c) i0 O z i0 i0 i0 λh4 H4=>⟨trivial,?_⟩
   refine H4.set an 0 i0 (λ_=>rfl) i0 (ii X+ii c-1) i0 (by simpa using S) y i0 i0 i0 λh5 H5=>⟨trivial,?_⟩
   refine⟨(Q,z::d),by dsimp only;congr 1;omega,⟨by dsimp only;rw[<-L,n];simp,?_,?_⟩,i6⟩
   ·dsimp only;intro w m;rcases q8.1 m with rfl|m
    ·exact o
    ·exact f w m
   ·dsimp only;have:X++(Q++(y::(z::d++(M.drop (t+1+1)++Y))))=(X++Q)++y::([]++z::(d++(M.drop (t+1+1)++Y))):=i9
    rw[this,<-q4];exact H5
 ·refine⟨i0,P,p,?_,?_⟩
  ·rw[qi i4]at E;exact E
  ·rw[zk i4]at T;simpa using T
theorem Gh(x y:Nat)(h:x+y<=2^62:=by omega):qc xz (qZ (qc xC (qc xz ((x:Int)+(y:Int)))) (2^min (1:Int).toNat (qk xC)))=(((x+y)/2:Nat):Int):=by
 rw[af ((x:Int)+y)];have e:qc xC ((x:Int)+(y:Int))=(x:Int)+y:=by unfold qc;simp[qk,va];omega
 rw[e,show min (1:Int).toNat (qk xC)=1 from i0,Int.fdiv_eq_ediv_of_nonneg _ i5,af _];omega
theorem AA{x y:bF}(h:¬lQ x y<0):cC y x=eR:=by
 by_cases a:cC y x=eR
 ·exact a
 ·exact absurd ((pS x y).2 a) h
theorem ki{K:bF->Prop}(H:aa B h0 h (cP s d::As)){i:Int}(n:Nat)(c:i=n){x:bF}(f:d[n]?=dB x)(b:K x):
  ∃a:eY,(s.ptr=dB a/\0<=i/\i<((s.len:Nat):Int))/\∃x:bF,aj h (a.add (i.toNat*8)) 0 (bO x)/\K x:=by
 obtain⟨e,j⟩:=qn.1 f;exact(H.seq 0 i0 λ_=>rfl).dZ (g:=bO) n c e x (by rw[j]) b
theorem Lt(x:bF)(X R Y:List bF)(ab:ii X+1+ii R+ii Y<=2^40)(L:Sd cC R)(H:aa B h0 h (cP s (X++(x::(R++Y)))::As)){K:DL}
  (f:∀h',(∃M,Sd cC M/\cH cC (x::R) M/\aa B h0 h' (cP s (X++(M++Y))::As))->K (.tuple #[]) h') (a m b:Int) (ha:a=(ii X:Int)) (hm:m=(ii X+1:Nat)) (hb:b=(ii X+1+ii R:Nat)):
  aI (σ:=Int×Int) (λc K1 g=>
   Br (decide (c.1<c.2))
   ((0<=(1:Int))/\
   ∃a2:eY,(s.ptr=dB a2/\0<=(qc xz (qZ (qc xC (qc xz (c.1+c.2))) (2^min (1:Int).toNat (qk xC))))/\(qc xz (qZ (qc xC (qc xz (c.1+c.2))) (2^min (1:Int).toNat (qk xC))))<((s.len:Nat):Int))/\
   ∃x3:bF,aj g (a2.add ((qc xz (qZ (qc xC (qc xz (c.1+c.2))) (2^min (1:Int).toNat (qk xC)))).toNat*8)) 0 (bO x3)/\
   ∃a4:eY,(s.ptr=dB a4/\0<=a/\a<((s.len:Nat):Int))/\
   ∃x5:bF,aj g (a4.add (a.toNat*8)) 0 (bO x5)/\
   iH C 169 ((#[]:Array Value).toList++[recv x3,recv x5]++(#[]:Array Value).toList) (.one (.sc (.int .i64))) g λr6 n=>
   (au.ok [] n)/\
   Br (decide (r6<(0:Int)))
   (K1 (qc xz ((qc xz (qZ (qc xC (qc xz (c.1+c.2))) (2^min (1:Int).toNat (qk xC))))+(1:Int)),c.2) n)
   (K1 (c.1,qc xz (qZ (qc xC (qc xz (c.1+c.2))) (2^min (1:Int).toNat (qk xC)))) n))
   (aI (σ:=Int) (λd K2 h3=>
   Br (decide (d<(qc xz (c.1-(1:Int)))))
   (∃a8:eY,(s.ptr=dB a8/\0<=(qc xz (d+(1:Int)))/\(qc xz (d+(1:Int)))<((s.len:Nat):Int))/\
   ∃x9:bF,aj h3 (a8.add ((qc xz (d+(1:Int))).toNat*8)) 0 (bO x9)/\
   ∃E:eY,(s.ptr=dB E/\0<=d/\d<((s.len:Nat):Int))/\
   ∃r:bF,aj h3 (E.add (d.toNat*8)) 0 (bO r)/\
   ∃A:eY,(s.ptr=dB A/\0<=d/\d<((s.len:Nat):Int))/\
   az xD (qf 164 (xv (dB (A.add (d.toNat*8)))) (recv x9)) h3 λ_ U=>
   (au.ok [] U)/\
   ∃I:eY,(s.ptr=dB I/\0<=(qc xz (d+(1:Int)))/\(qc xz (d+(1:Int)))<((s.len:Nat):Int))/\
   az xD (qf 164 (xv (dB (I.add ((qc xz (d+(1:Int))).toNat*8)))) (recv r)) U λ_ S=>
   (au.ok [] S)/\
   K2 (qc xz (d+(1:Int))) S)
   (K (.tuple #[]) h3)) a g)) (m,b) h:=by
 subst ha;subst hm;subst hb;refine av (λt:Nat×Nat=>(((ii X+1+t.1:Nat):Int),((ii X+1+t.2:Nat):Int))) (λt h'=>t.1<=t.2/\t.2<=ii R/\(∀k (f:k<ii R),k<t.1->¬cC x R[k]=eR)/\(∀k (f:k<ii R),t.2<=k->cC x R[k]=eR)/\aa B h0 h' (cP s (X++(x::(R++Y)))::As)) (λt=>t.2-t.1) (0,ii R) i0 ⟨i9,i9,λ_ _ h=>m9,λ_ g n=>absurd g l6,H⟩ ?_;rintro⟨i,j⟩ g ⟨ad,hj,p,J,N⟩;dsimp only at*;refine ac (λe=>?_) (λe=>?_)
 ·have o:i<j:=i4
  rw[Gh _ _];have eh:((ii X+1+i)+(ii X+1+j))/2=ii X+1+(i+j)/2:=i4
  rw[eh];have f:(i+j)/2<ii R:=i4
  refine⟨i5,ki N _ i0 (x:=R[(i+j)/2]) ?_ (ki N X.length i0 (x:=x) ?_ (fo ld ?_))⟩
  ·rw[qj i4,show X.length+1+(i+j)/2-ii X=(i+j)/2+1 by omega,qy,qo f,qd f]
  ·rw[qj (qm _),ze];rfl
  refine(oZ R[(i+j)/2] x g).mono ?_;rintro _ n ⟨rfl,R2⟩;have H2:=N.up R2.ag;refine⟨_,i0,trivial,ac (λe2=>?_) λe2=>?_⟩
  ·have T:=(pS _ _).1 e2;refine⟨((i+j)/2+1,j),jj,⟨i6,hj,λk y V=>?_,J,H2⟩,i6⟩;intro hc;exact T (ee.trans _ _ _ hc (L.at_ ee (i:=k) (j:=(i+j)/2) (by dsimp only at V;omega) f))
  ·refine⟨(i,(i+j)/2),i0,⟨i6,i6,p,λk y P=>?_,H2⟩,i6⟩;exact ee.trans _ _ _ (AA e2) (L.at_ ee (by dsimp only at P;omega) y)
 ·have o:i=j:=i4
  subst o;have hM:Sd cC (R.take i++x::R.drop i):=by
   refine Sd.app ee (Sd.left (v:=R.drop i) (by rw[qF];exact L)) (zG.2 ⟨λz F=>?_,Sd.right (u:=R.take i) (by rw[qF];exact L)⟩) λz F w G=>?_
   ·obtain⟨k,f,rfl⟩:=qL F;rw[wm];exact J _ _ i4
   ·obtain⟨k,f,rfl⟩:=qL F;rw[yk];have W:k<i:=p6
    have g:=ee.Ec (p k p6 W);rcases q8.1 G with rfl|G
    ·exact g
    ·obtain⟨l,hl,rfl⟩:=qL G;rw[wm];exact L.at_ ee i4 (by simp at hl;omega)
  have hE:cH cC (x::R) (R.take i++x::R.drop i):=by
   have g:cH cC ([x]++R.take i) (R.take i++[x]):=cH.Xj ee λz F w G=>by
    rw[qB.1 F];obtain⟨k,f,rfl⟩:=qL G;rw[yk];exact p k p6 p6
   have n:=g.app (cH.refl (le:=cC) (R.drop i));have e1:([x]++R.take i)++R.drop i=x::R:=by rw[qp,qF];rfl
   have e2:(R.take i++[x])++R.drop i=R.take i++x::R.drop i:=i9
   rw[e1,e2]at n;exact n
  have el:qc xz (((ii X+1+i:Nat):Int)-1)=((ii X+i:Nat):Int):=j3
  rw[el];refine av (λt:Nat=>((ii X+t:Nat):Int)) (λt h'=>t<=i/\aa B h0 h' (cP s (X++(R.take t++(x::(R.drop t++Y))))::As)) (λt=>i-t) 0 i0 ⟨i4,by simpa using N⟩ ?_;rintro t h3 ⟨ht,O⟩;refine ac (λe2=>?_) (λe2=>?_)
  ·have ah:t<i:=i4
   have D:t<ii R:=i4
   have q:X++(R.take t++(x::(R.drop t++Y)))=(X++R.take t)++x::([]++R[t]::(R.drop (t+1)++Y)):=by rw[qQ D];simp only[qp,zB,wx]
   obtain⟨Q,Z,q3,q4⟩:=PT (X++R.take t) [] (R.drop (t+1)++Y) x R[t] (i:=ii X+t) (j:=ii X+t+1) i7 i7;rw[<-q]at Q Z q3 q4;have ek:qc xz (((ii X+t:Nat):Int)+1)=((ii X+t+1:Nat):Int):=j3
   rw[ek];refine ki O _ i0 Z (ki O _ i0 Q ?_);refine O.set an 0 i0 (λ_=>rfl) i0 (ii X+t) i0 (qn.1 Q).1 R[t] i0 i0 i0 λU H4=>⟨trivial,?_⟩
   refine H4.set an 0 i0 (λ_=>rfl) i0 (ii X+t+1) i0 (by rw[zl];exact(qn.1 Z).1) x i0 i0 i0 λS H5=>⟨trivial,?_⟩
   refine⟨t+1,i0,⟨i4,?_⟩,i4⟩;have e3:X++(R.take (t+1)++(x::(R.drop (t+1)++Y)))=(X++R.take t)++R[t]::([]++x::(R.drop (t+1)++Y)):=by rw[aH R t D];simp only[qp,zB,wx]
   rw[e3,<-q3];exact H5
  ·have:t=i:=i4
   subst this;refine f h3 ⟨R.take t++x::R.drop t,hM,hE,?_⟩;have:X++((R.take t++x::R.drop t)++Y)=X++(R.take t++(x::(R.drop t++Y))):=i9
   rw[this];exact O
theorem Jz(y:bF)(X L Y:List bF)(ap:ii X+ii L+1+ii Y<=2^40)(T:Sd cC L)(H:aa B h0 h (cP s (X++(L++(y::Y)))::As)){K:DL}
  (d:∀h',(∃M,Sd cC M/\cH cC (L++[y]) M/\aa B h0 h' (cP s (X++(M++Y))::As))->K (.tuple #[]) h') (a m:Int) (ha:a=(ii X:Int)) (hm:m=(ii X+ii L:Nat)):
  aI (σ:=Int×Int) (λb K3 V=>
   Br (decide (b.1<b.2))
   ((0<=(1:Int))/\
   ∃G:eY,(s.ptr=dB G/\0<=m/\m<((s.len:Nat):Int))/\
   ∃D:bF,aj V (G.add (m.toNat*8)) 0 (bO D)/\
   ∃p:eY,(s.ptr=dB p/\0<=(qc xz (qZ (qc xC (qc xz (b.1+b.2))) (2^min (1:Int).toNat (qk xC))))/\(qc xz (qZ (qc xC (qc xz (b.1+b.2))) (2^min (1:Int).toNat (qk xC))))<((s.len:Nat):Int))/\
   ∃R:bF,aj V (p.add ((qc xz (qZ (qc xC (qc xz (b.1+b.2))) (2^min (1:Int).toNat (qk xC)))).toNat*8)) 0 (bO R)/\
   iH C 169 ((#[]:Array Value).toList++[recv D,recv R]++(#[]:Array Value).toList) (.one (.sc (.int .i64))) V λao h7=>
   (au.ok [] h7)/\
   Br (!(decide (ao<(0:Int))))
   (K3 (qc xz ((qc xz (qZ (qc xC (qc xz (b.1+b.2))) (2^min (1:Int).toNat (qk xC))))+(1:Int)),b.2) h7)
   (K3 (b.1,qc xz (qZ (qc xC (qc xz (b.1+b.2))) (2^min (1:Int).toNat (qk xC)))) h7))
   (aI (σ:=Int) (λc K4 h8=>
   Br (decide (c>b.1))
   (∃J:eY,(s.ptr=dB J/\0<=(qc xz (c-(1:Int)))/\(qc xz (c-(1:Int)))<((s.len:Nat):Int))/\
   ∃I:bF,aj h8 (J.add ((qc xz (c-(1:Int))).toNat*8)) 0 (bO I)/\
   ∃F:eY,(s.ptr=dB F/\0<=c/\c<((s.len:Nat):Int))/\
   ∃A:bF,aj h8 (F.add (c.toNat*8)) 0 (bO A)/\
   ∃a25:eY,(s.ptr=dB a25/\0<=c/\c<((s.len:Nat):Int))/\
   az xD (qf 164 (xv (dB (a25.add (c.toNat*8)))) (recv I)) h8 λ_ h9=>
   (au.ok [] h9)/\
   ∃E:eY,(s.ptr=dB E/\0<=(qc xz (c-(1:Int)))/\(qc xz (c-(1:Int)))<((s.len:Nat):Int))/\
   az xD (qf 164 (xv (dB (E.add ((qc xz (c-(1:Int))).toNat*8)))) (recv A)) h9 λ_ S=>
   (au.ok [] S)/\
   K4 (qc xz (c-(1:Int))) S)
   (K (.tuple #[]) h8)) m V)) (a,m) h:=by
 subst ha;subst hm;refine av (λt:Nat×Nat=>(((ii X+t.1:Nat):Int),((ii X+t.2:Nat):Int))) (λt h'=>t.1<=t.2/\t.2<=ii L/\(∀k (d:k<ii L),k<t.1->cC L[k] y=eR)/\(∀k (d:k<ii L),t.2<=k->¬cC L[k] y=eR)/\aa B h0 h' (cP s (X++(L++(y::Y)))::As)) (λt=>t.2-t.1) (0,ii L) i0 ⟨i9,i9,λ_ _ h=>m9,λ_ o U=>absurd o (by simpa using U),H⟩ ?_;rintro⟨i,j⟩ o ⟨ar,hj,r,n,W⟩;dsimp only at*;refine ac (λe=>?_) (λe=>?_)
 ·have f:i<j:=i4
  rw[Gh _ _];have eh:((ii X+i)+(ii X+j))/2=ii X+(i+j)/2:=i4
  rw[eh];have d:(i+j)/2<ii L:=i4
  refine⟨i5,ki W (ii X+ii L) i0 (x:=y) ?_ (ki W _ i0 (x:=L[(i+j)/2]) ?_ (fo ld ?_))⟩
  ·rw[qj i4,show X.length+ii L-ii X=ii L by omega,qj (qm _),ze];rfl
  ·rw[qj i4,show X.length+(i+j)/2-ii X=(i+j)/2 by omega,qo d,qd d]
  refine(oZ y L[(i+j)/2] o).mono ?_;rintro _ U ⟨rfl,R2⟩;have H2:=W.up R2.ag;refine⟨_,i0,trivial,?_⟩;by_cases e2:lQ y L[(i+j)/2]<0
  ·have ad:=(pS _ _).1 e2;refine bi (λN=>absurd N n3) λ_=>?_;refine⟨(i,(i+j)/2),i0,⟨i6,i6,r,λk q ab=>?_,H2⟩,i6⟩;intro hc;exact ad (ee.trans _ _ _ (T.at_ ee (i:=(i+j)/2) (j:=k) (by dsimp only at ab;omega) q) hc)
  ·refine bi (λ_=>?_) λN=>absurd N n3;refine⟨((i+j)/2+1,j),jj,⟨i6,hj,λk q ah=>?_,n,H2⟩,i6⟩;exact ee.trans _ _ _ (T.at_ ee (by dsimp only at ah;omega) d) (AA e2)
 ·have f:i=j:=i4
  subst f;have hM:Sd cC (L.take i++y::L.drop i):=by
   refine Sd.app ee (Sd.left (v:=L.drop i) (by rw[qF];exact T)) (zG.2 ⟨λz O=>?_,Sd.right (u:=L.take i) (by rw[qF];exact T)⟩) λz O w P=>?_
   ·obtain⟨k,d,rfl⟩:=qL O;rw[wm];exact ee.Ec (n _ m8 i4)
   ·obtain⟨k,d,rfl⟩:=qL O;rw[yk];have am:k<i:=m8
    have o:=r k m8 am;rcases q8.1 P with rfl|P
    ·exact o
    ·obtain⟨l,hl,rfl⟩:=qL P;rw[wm];exact T.at_ ee i4 (by simp at hl;omega)
  have hE:cH cC (L++[y]) (L.take i++y::L.drop i):=by
   have o:cH cC (L.drop i++[y]) ([y]++L.drop i):=cH.Xj ee λz O w P=>by
    rw[qB.1 P];obtain⟨k,d,rfl⟩:=qL O;rw[wm];exact n _ m8 i4
   have U:=(cH.refl (le:=cC) (L.take i)).app o;have e1:L.take i++(L.drop i++[y])=L++[y]:=by rw[<-qp,qF]
   rw[e1]at U;exact U
  refine av (λt:Nat=>((ii X+t:Nat):Int)) (λt h'=>i<=t/\t<=ii L/\aa B h0 h' (cP s (X++(L.take t++(y::(L.drop t++Y))))::As)) (λt=>t-i) L.length i0 ⟨i4,i4,by simpa using W⟩ ?_;rintro t h3 ⟨ht,ax,Z⟩;refine ac (λe2=>?_) (λe2=>?_)
  ·obtain⟨u,rfl⟩:∃u,t=u+1:=⟨t-1,i4⟩
   have Q:u<ii L:=i4
   have g:X++(L.take (u+1)++(y::(L.drop (u+1)++Y)))=(X++L.take u)++L[u]::([]++y::(L.drop (u+1)++Y)):=by rw[aH L u Q];simp only[qp,zB,wx]
   obtain⟨q1,q2,q3,q4⟩:=PT (X++L.take u) [] (L.drop (u+1)++Y) L[u] y (i:=ii X+u) (j:=ii X+(u+1)) i7 i7;rw[<-g]at q1 q2 q3 q4;have ek:qc xz (((ii X+(u+1):Nat):Int)-1)=((ii X+u:Nat):Int):=j3
   rw[ek];refine ki Z _ i0 q1 (ki Z _ i0 q2 ?_);refine Z.set an 0 i0 (λ_=>rfl) i0 (ii X+(u+1)) i0 (qn.1 q2).1 L[u] i0 i0 i0 λh4 H4=>⟨trivial,?_⟩
   refine H4.set an 0 i0 (λ_=>rfl) i0 (ii X+u) i0 (by rw[zl];exact(qn.1 q1).1) y i0 i0 i0 λh5 H5=>⟨trivial,?_⟩
   refine⟨u,i0,⟨i4,i4,?_⟩,i4⟩;have N:X++(L.take u++(y::(L.drop u++Y)))=(X++L.take u)++y::([]++L[u]::(L.drop (u+1)++Y)):=by rw[qQ Q];simp only[qp,zB,wx]
   rw[N,<-q4];exact H5
  ·have:t=i:=i4
   subst this;refine d h3 ⟨L.take t++y::L.drop t,hM,hE,?_⟩;have:X++((L.take t++y::L.drop t)++Y)=X++(L.take t++(y::(L.drop t++Y))):=i9
   rw[this];exact Z
end Go.Qw
namespace Wl
open Go Go.Vc
theorem XZ{L R:List bF}(h:Sd cC L)(l:Sd cC R)(p q:Nat)(r:p<=ii L)(s:q<=ii R)
  (m:∀i j (d:i<ii L) (a:j<ii R),i+1=p->j=q->cC L[i] R[j]=eR)
  (n:∀i j (d:i<ii L) (a:j<ii R),i=p->j+1=q->¬cC L[i] R[j]=eR):
  (∀x∈L.take p,∀y∈R.drop q,cC x y=eR)/\(∀x∈L.drop p,∀y∈R.take q,¬cC x y=eR):=by
 constructor
 ·intro x g y e;obtain⟨i,d,rfl⟩:=qL g;obtain⟨j,a,rfl⟩:=qL e;rw[yk,wm];have c:i<p:=m8
  have b:q+j<ii R:=by simp at a;omega
  have f:=h.at_ ee (i:=i) (j:=p-1) i4 i4;have o:=m (p-1) q i4 i4 i4 i0;have h3:=l.at_ ee (i:=q) (j:=q+j) i4 b;exact ee.trans _ _ _ f (ee.trans _ _ _ o h3)
 ·intro x g y e k;obtain⟨i,d,rfl⟩:=qL g;obtain⟨j,a,rfl⟩:=qL e;rw[yk,wm]at k;have b:j<q:=by simp at a;omega
  have c:p+i<ii L:=m8
  have f:=h.at_ ee (i:=p) (j:=p+i) i4 c;have h3:=l.at_ ee (i:=j) (j:=q-1) i4 i4;exact n p (q-1) i4 i4 i0 i4 (ee.trans _ _ _ f (ee.trans _ _ _ k h3))
end Wl
namespace Go.Qw
open Go Go.Vc Go.Proofs Wl
theorem Dn:∀(N:Nat) {B:aA} {h0 h:f8} {As:List HP} {s:Sl} (X L R Y:List bF) (a m b:Int),0<ii L->0<ii R->ii L+ii R<=N->a=(ii X:Int)->m=(ii X+ii L:Nat)->b=(ii X+ii L+ii R:Nat)->ii X+ii L+ii R+ii Y<=2^40->Sd cC L->Sd cC R->
  aa B h0 h (cP s (X++(L++(R++Y)))::As)->
  aq xD 299 #[s,xt xz a,xt xz m,xt xz b,.func (.func 169) #[] #[]] h λv h'=>v=.tuple #[]/\∃M,Sd cC M/\cH cC (L++R) M/\aa B h0 h' (cP s (X++(M++Y))::As):=by
 intro N
 induction N with
 |zero=>intro B h0 h As s X L R Y a m b hL hR hN;omega
 |succ N ih=>
  intro B h0 h As s X L R Y a m b hL hR hN ha hm hb U sL W H;refine mI s a m b (169,#[],#[]) ?_;have e1:qc xz (m-a)=(ii L:Int):=j3
  have e2:qc xz (b-m)=(ii R:Int):=j3
  rw[e1,e2];refine cy (λc=>?_) λc=>cy (λc2=>?_) λc2=>?_
  ·obtain⟨x,hx⟩:∃x,L=[x]:=by
    match L,hL,c with
    |[x],_,_=>exact⟨x,i0⟩
    |x::y::L,_,c=>simp at c;omega
   subst hx;exact Lt (K:=λv h'=>v=.tuple #[]/\∃M,Sd cC M/\cH cC ([x]++R) M/\aa B h0 h' (cP s (X++(M++Y))::As)) x X R Y (by simp at U⊢;omega) W H (λh' ⟨M,T,P,Z⟩=>⟨i0,M,T,P,Z⟩) a m b ha (by rw[hm];simp) (by rw[hb];simp)
  ·obtain⟨y,hy⟩:∃y,R=[y]:=by
    match R,hR,c2 with
    |[x],_,_=>exact⟨x,i0⟩
    |x::y::L,_,c=>simp at c;omega
   subst hy;exact Jz (K:=λv h'=>v=.tuple #[]/\∃M,Sd cC M/\cH cC (L++[y]) M/\aa B h0 h' (cP s (X++(M++Y))::As)) y X L Y (by simp at U⊢;omega) sL H (λh' ⟨M,T,P,Z⟩=>⟨i0,M,T,P,Z⟩) a m ha hm
  ·refine⟨i5,?_⟩;subst ha;subst hm;subst hb;have c':ii L≠1:=λE=>c i4;have br:ii R≠1:=λE=>c2 i4;rw[Gh X.length (ii X+ii L+ii R)];obtain⟨Dc,ab⟩:∃Dc,Dc=(ii X+(ii X+ii L+ii R))/2:=⟨_,rfl⟩
   rw[<-ab];have en:qc xz ((Dc:Int)+((ii X+ii L:Nat):Int))=((Dc+(ii X+ii L):Nat):Int):=j3
   rw[en];obtain⟨n,hn⟩:∃n,n=Dc+(ii X+ii L):=⟨_,rfl⟩
   rw[<-hn];have ep:qc xz ((n:Int)-1)=((n-1:Nat):Int):=j3
   rw[ep];obtain⟨D,hD⟩:∃D,D=X++(L++(R++Y)):=⟨_,rfl⟩
   have gL:∀i (f:i<ii L),D[ii X+i]?=dB L[i]:=λi f=>by
    rw[hD,qj i4,zx,qo f,qd f]
   have gR:∀i (f:i<ii R),D[ii X+ii L+i]?=dB R[i]:=λi f=>by
    rw[hD,qj i4,show X.length+ii L+i-ii X=ii L+i by omega,qj i4,zx,qo f,qd f]
   rw[<-hD]at H;refine bT (λ(g:Int×Int) h'=>h'=h/\∃o f:Nat,g=((o:Int),(f:Int))/\o<=f/\X.length<=o/\f<=ii X+ii L/\f<=Dc/\n<=o+(ii X+ii L+ii R)/\(o=ii X∨n=o+(ii X+ii L+ii R))/\(f=ii X+ii L∨f=Dc)) ?_ ?_
   ·refine ac (λe=>⟨i0,n-(ii X+ii L+ii R),Dc,?_,i4,i4,i4,i4,i4,i4,i4⟩) λe=>⟨i0,ii X,ii X+ii L,i0,i4,i4,i4,i4,i4,i4,i4⟩
    have:qc xz ((n:Int)-((ii X+ii L+ii R:Nat):Int))=((n-(ii X+ii L+ii R):Nat):Int):=j3
    rw[this]
   ·rintro⟨bq,bl⟩ _ ⟨rfl,o,f,bb,b1,b2,b3,b4,b5,b6,b7⟩;injection bb with est1 est2
    subst est1;subst est2;dsimp only;refine av (λt:Nat×Nat=>((t.1:Int),(t.2:Int))) (λt h'=>o<=t.1/\t.1<=t.2/\t.2<=f/\
     (∀i j (l:i<ii L) (V:j<ii R),ii X+i+1=t.1->ii X+i+(ii X+ii L+j)=n-1->o<t.1->cC L[i] R[j]=eR)/\
     (∀i j (l:i<ii L) (V:j<ii R),ii X+i=t.2->ii X+i+(ii X+ii L+j)=n-1->t.2<f->¬cC L[i] R[j]=eR)/\
     aa B h0 h' (cP s D::As)) (λt=>t.2-t.1) (o,f) i0 ⟨i9,by simpa using b1,i9,λ_ _ _ _ _ _ F=>absurd F i9,λ_ _ _ _ _ _ F=>absurd F i9,H⟩ ?_
    rintro⟨g,r⟩ h1 ⟨t1,t2,t3,F1,F2,H1⟩;dsimp only at*;refine ac (λe=>?_) (λe=>?_)
    ·have F:g<r:=i4
     rw[Gh _ _];obtain⟨G,a5⟩:∃G,G=(g+r)/2:=⟨_,rfl⟩
     rw[<-a5];have a9:qc xz (((n-1:Nat):Int)-(G:Int))=((n-1-G:Nat):Int):=j3
     rw[a9];obtain⟨i,l⟩:∃i,G=ii X+i:=⟨G-ii X,i4⟩
     obtain⟨j,a1⟩:∃j,n-1-G=ii X+ii L+j:=⟨n-1-G-(ii X+ii L),i4⟩
     have a7:i<ii L:=i4
     have a8:j<ii R:=i4
     rw[a1,l];refine⟨i5,ki H1 _ i0 (gR j a8) (ki H1 _ i0 (gL i a7) (fo ld ?_))⟩;refine(oZ R[j] L[i] h1).mono ?_;rintro _ h2 ⟨rfl,R2⟩;have I:=H1.up R2.ag;refine⟨_,i0,trivial,?_⟩;by_cases e2:lQ R[j] L[i]<0
     ·have a3:=(pS _ _).1 e2;refine bi (λe3=>absurd e3 n3) λ_=>?_;refine⟨(g,ii X+i),i0,⟨t1,i6,i6,F1,λi2 j2 a2 ax z A _=>?_,I⟩,i6⟩;dsimp only at z;have:i2=i:=i4
      subst this;have:j2=j:=i4
      subst this;exact a3
     ·refine bi (λ_=>?_) λe3=>absurd e3 n3;refine⟨(ii X+i+1,r),jj,⟨i6,i6,t3,λi2 j2 a2 ax z A _=>?_,F2,I⟩,i6⟩;dsimp only at z;have:i2=i:=i4
      subst this;have:j2=j:=i4
      subst this;exact AA e2
    ·have ao:g=r:=i4
     subst ao;have ar:qc xz ((n:Int)-(g:Int))=((n-g:Nat):Int):=j3
     rw[ar];obtain⟨p,hp⟩:∃p,g=ii X+p:=⟨g-ii X,i4⟩
     obtain⟨q,hq⟩:∃q,n-g=ii X+ii L+q:=⟨n-g-(ii X+ii L),i4⟩
     have ay:p<=ii L:=i4
     have a4:q<=ii R:=i4
     obtain⟨a6,bd⟩:=XZ sL W p q ay a4 (λi j l V z A=>F1 i j l V i4 i4 (by
      by_cases a0:o<g
      ·exact a0
      ·exfalso;have:g=o:=i4
       omega)) (λi j l V z A=>F2 i j l V i4 i4 (by
      by_cases bk:g<f
      ·exact bk
      ·exfalso;have:g=f:=i4
       omega))
     have eL:L.take p++L.drop p=L:=qF _ _;have Q:R.take q++R.drop q=R:=qF _ _;have l1:ii (L.take p)=p:=i7
     have l2:ii (L.drop p)=ii L-p:=i9
     have r1:ii (R.take q)=q:=i7
     have r2:ii (R.drop q)=ii R-q:=i9
     have ad:Sd cC (L.take p):=Sd.left (v:=L.drop p) (by rw[eL];exact sL);have S:Sd cC (L.drop p):=Sd.right (u:=L.take p) (by rw[eL];exact sL);have am:Sd cC (R.take q):=Sd.left (v:=R.drop q) (by rw[Q];exact W);have ah:Sd cC (R.drop q):=Sd.right (u:=R.take q) (by rw[Q];exact W);rw[hq,hp];refine bT (λ_ h'=>aa B h0 h' (cP s (X++(L.take p++(R.take q++(L.drop p++(R.drop q++Y)))))::As)) ?_ ?_
     ·have w:aa B h0 h1 (cP s ((X++L.take p)++(L.drop p++(R.take q++(R.drop q++Y))))::As):=by
       have:(X++L.take p)++(L.drop p++(R.take q++(R.drop q++Y)))=D:=by
        rw[hD]
        conv=>rhs;rw[<-eL,<-Q]
        simp only[qp,zB,wx]
       rw[this];exact H1
      refine ac (λz=>ac (λA=>?_) λA=>?_) λz=>?_
      ·refine(Sn (X++L.take p) (L.drop p) (R.take q) (R.drop q++Y) _ _ _ i4 i4 i7 i7 i7 i7 w).mono ?_;rintro _ h2 ⟨rfl,I⟩;refine⟨(),i0,?_⟩;rw[qp]at I;exact I
      ·have:R.take q=[]:=zc i4;rw[this]at w⊢;simpa using w
      ·have:L.drop p=[]:=zc i4;rw[this]at w⊢;simpa using w
     ·rintro _ h2 I;refine bT (λ_ h'=>∃k,Sd cC k/\cH cC (L.take p++R.take q) k/\k.length=p+q/\aa B h0 h' (cP s (X++(k++(L.drop p++(R.drop q++Y))))::As)) ?_ ?_
      ·have d:(L.take p=[]∨R.take q=[])->∃k,Sd cC k/\cH cC (L.take p++R.take q) k/\k.length=p+q/\aa B h0 h2 (cP s (X++(k++(L.drop p++(R.drop q++Y))))::As):=λO=>by
        refine⟨L.take p++R.take q,?_,cH.refl _,i7,by rw[qp];exact I⟩;rcases O with E|E
        ·rw[E];exact am
        ·rw[E,qM];exact ad
       refine ac (λz=>ac (λA=>?_) λA=>d (.inr (zc i4))) λz=>d (.inl (zc i4));refine(ih X (L.take p) (R.take q) (L.drop p++(R.drop q++Y)) _ _ _ i4 i4 i4 i0 (by rw[l1]) (by rw[l1,r1];omega) i7 ad am I).mono ?_;rintro _ h3 ⟨rfl,k,T,P,Z⟩;refine⟨(),i0,k,T,P,?_,Z⟩;have J:=tm ee P;rw[<-J];simp;omega
      ·rintro _ h3 ⟨k,m1,m2,m3,H3⟩;have fin:∀{h':f8} {M2:List bF},Sd cC M2->cH cC (L.drop p++R.drop q) M2->aa B h0 h' (cP s (X++(k++(M2++Y)))::As)->(Value.tuple #[]=.tuple #[]/\∃M,Sd cC M/\cH cC (L++R) M/\aa B h0 h' (cP s (X++(M++Y))::As)):=λ{h' M2} k1 k2 k3=>by
        obtain⟨f1,f2⟩:=Xk ee (by rw[eL];exact sL) (by rw[Q];exact W) a6 bd m2 m1 k2 k1;rw[eL,Q]at f2;exact⟨i0,k++M2,f1,f2,by rw[qp];exact k3⟩
       have d:(L.drop p=[]∨R.drop q=[])->(Value.tuple #[]=.tuple #[]/\∃M,Sd cC M/\cH cC (L++R) M/\aa B h0 h3 (cP s (X++(M++Y))::As)):=λO=>by
        refine fin (M2:=L.drop p++R.drop q) ?_ (cH.refl _) (by rw[qp];exact H3);rcases O with E|E
        ·rw[E];exact ah
        ·rw[E,qM];exact S
       refine ac (λz=>ac (λA=>?_) λA=>d (.inr (zc i4))) λz=>d (.inl (zc i4));have ap:aa B h0 h3 (cP s ((X++k)++(L.drop p++(R.drop q++Y)))::As):=by rw[qp];exact H3
       refine(ih (X++k) (L.drop p) (R.drop q) Y _ _ _ i4 i4 i4 i7 i7 i7 i7 S ah ap).mono ?_;rintro _ h4 ⟨rfl,M2,k1,k2,k3⟩;refine⟨(),i0,fin k1 k2 (by rw[qp]at k3;exact k3)⟩
end Go.Qw
namespace Wl
open Go Go.Vc
def Bs(k:Nat)(l:List bF):Prop:=∀q,Sd cC ((l.drop (q*k)).take k)
theorem Bs.nil(k:Nat):Bs k []:=λq=>by simp[Sd]
theorem Bs.first{k:Nat}{l:List bF}(h:Bs k l):Sd cC (l.take k):=by have:=h 0;simpa using this
theorem Bs.rest{k:Nat}{l:List bF}(h:Bs k l):Bs k (l.drop k):=λq=>by
 have:=h (q+1);rw[zJ,show k+q*k=(q+1)*k by rw[zH,Nat.add_comm]];exact this
theorem Bs.snoc{k t:Nat}{l M:List bF}(h:Bs k l)(b:ii l=t*k)(c:Sd cC M)(d:ii M<=k:=by omega):Bs k (l++M):=λq=>by
 rcases Nat.lt_trichotomy q t with hq|hq|hq
 ·have a:(q+1)*k<=t*k:=za _ hq;rw[zH]at a;rw[List.drop_append_of_le_length i4,wq l5];exact h q
 ·subst hq;rw[<-b,List.drop_left,qi d];exact c
 ·have a:(t+1)*k<=q*k:=za _ hq;rw[zH]at a;rw[zk (by rw[qw];omega)];simp[Sd]
theorem Bs.whole{k:Nat}{l:List bF}(h:Bs k l)(a:ii l<=k):Sd cC l:=by have:=h.first;rw[qi a]at this;exact this
end Wl
namespace Go.Qw
open Go Go.Vc Go.Proofs Wl
variable {B:aA} {h0 h h':f8} {As:List HP} {s:Sl} {d:List bF}
theorem So(d:List bF)(n:Int)(hn:n=ii d)(hd:ii d<=2^30)(H:aa B h0 h (cP s d::As)):
  aq xD 239 #[s,xt xz n,.func (.func 169) #[] #[]] h λv h'=>v=.tuple #[]/\aa B h0 h' (cP s (d.mergeSort cC)::As):=by
 subst hn;refine nk s d.length (169,#[],#[]) ?_;refine av (λP:List bF=>((ii P:Int),((ii P+20:Nat):Int))) (λP h'=>ii P<=ii d/\(∃t,ii P=t*20)/\Bs 20 P/\cH cC (d.take P.length) P/\aa B h0 h' (cP s (P++d.drop P.length)::As)) (λP=>ii d-ii P) [] i0 ⟨i9,⟨0,i9⟩,Bs.nil _,by simpa using cH.refl _,lb⟩ ?_;rintro P h1 ⟨hP,⟨t,G⟩,V,T,L⟩;dsimp only;refine ac (λe=>?_) (λe=>?_)
 ·have X:ii P+20<=ii d:=i4
  have Y:(d.drop P.length).take 20++d.drop (ii P+20)=d.drop P.length:=by rw[<-zJ];exact qF _ _
  have W:ii ((d.drop P.length).take 20)=20:=i7
  rw[<-Y]at L;refine(Bl P ((d.drop P.length).take 20) (d.drop (ii P+20)) _ _ i0 (by rw[W]) i7 L).mono ?_;rintro _ h2 ⟨rfl,i,m,b,H2⟩;have y:ii i=20:=by rw[<-tm ee b,W]
  have g:ii (P++i)=ii P+20:=by rw[qw,y]
  refine⟨(),i0,P++i,?_,⟨i4,⟨t+1,by rw[g,G,zH]⟩,V.snoc G m,?_,?_⟩,i4⟩
  ·rw[g,af _];congr 1
  ·rw[g];have:d.take (ii P+20)=d.take P.length++(d.drop P.length).take 20:=by rw[List.take_add]
   rw[this];exact T.app b
  ·rw[g,qp];exact H2
 ·have I:aa B h0 h1 (cP s (P++(d.drop P.length++[]))::As):=by rw[qM];exact L
  refine(Bl P (d.drop P.length) [] _ _ i0 l5 i7 I).mono ?_;rintro _ h3 ⟨rfl,i,m,b,U⟩;have y:ii i=ii d-ii P:=by rw[<-tm ee b,zi]
  have F:Bs 20 (P++i):=V.snoc G m;have c:cH cC d (P++i):=by have:=T.app b;rw[qF]at this;exact this
  refine⟨(),i0,?_⟩;refine av (λt:Nat×List bF=>(t.1:Int)) (λt h'=>0<t.1/\t.1<=2^32/\t.2.length=ii d/\Bs t.1 t.2/\cH cC d t.2/\aa B h0 h' (cP s t.2::As)) (λt=>2^32-t.1) (20,P++i) i0 ⟨i6,i6,by dsimp only;rw[qw];omega,F,c,by rw[qM]at U;exact U⟩ ?_;rintro⟨k,l⟩ h4 ⟨ah,hk,hl,S,r,N⟩;dsimp only at*;refine ac (λe2=>?_) (λe2=>?_)
  ·have Z:k<ii d:=i4
   have O:qc xz ((2:Int)*k)=((2*k:Nat):Int):=j3
   have K:qc xz ((k:Int)*2)=((2*k:Nat):Int):=j3
   rw[O];have next:∀{h':f8} (l':List bF),ii l'=ii d->Bs (2*k) l'->cH cC l l'->aa B h0 h' (cP s l'::As)->∃f:Nat×List bF,qc xz ((k:Int)*2)=(f.1:Int)/\(0<f.1/\f.1<=2^32/\f.2.length=ii d/\Bs f.1 f.2/\cH cC d f.2/\aa B h0 h' (cP s f.2::As))/\2^32-f.1<2^32-k:=λ{h'} l' q1 q2 q3 q4=>
    ⟨(2*k,l'),K,⟨i6,i6,q1,q2,r.trans q3,q4⟩,i6⟩
   refine av (λt:List bF×List bF=>((ii t.1:Int),((ii t.1+2*k:Nat):Int))) (λt h'=>(∃u,ii t.1=u*(2*k))/\t.1.length+ii t.2=ii d/\Bs (2*k) t.1/\Bs k t.2/\cH cC l (t.1++t.2)/\aa B h0 h' (cP s (t.1++t.2)::As)) (λt=>ii t.2) ([],l) (by dsimp only;rw[yV,Nat.zero_add];rfl) ⟨⟨0,i9⟩,by simpa using hl,Bs.nil _,S,by simpa using cH.refl _,by simpa using N⟩ ?_;rintro⟨P,Q⟩ R ⟨⟨u,A⟩,am,j,a,c,E⟩;dsimp only at*;have D:qc xz ((ii P:Int)+k)=((ii P+k:Nat):Int):=j3
   rw[D];have eQ:Q.take k++Q.drop k=Q:=qF _ _;refine ac (λe3=>?_) (λe3=>ac (λe4=>?_) λe4=>?_)
   ·have ab:2*k<=ii Q:=i4
    have x:Q.take k++((Q.drop k).take k++Q.drop (2*k))=Q:=by
     have:Q.drop (2*k)=(Q.drop k).drop k:=by rw[zJ];congr 1;omega
     rw[this,qF,eQ]
    have l1:ii (Q.take k)=k:=i7
    have l2:ii ((Q.drop k).take k)=k:=i7
    have p:aa B h0 R (cP s (P++(Q.take k++((Q.drop k).take k++Q.drop (2*k))))::As):=by rw[x];exact E
    refine(Dn _ P (Q.take k) ((Q.drop k).take k) (Q.drop (2*k)) _ _ _ i4 i4 (qm _) i0 (by rw[l1]) (by rw[l1,l2];omega) i7 a.first a.rest.first p).mono ?_;rintro _ h6 ⟨rfl,M,m,b,z⟩;have q:ii M=2*k:=by rw[<-tm ee b,qw,l1,l2];omega
    have o:ii (P++M)=ii P+2*k:=by rw[qw,q]
    refine⟨(),i0,(P++M,Q.drop (2*k)),?_,⟨⟨u+1,by dsimp only;rw[o,A];exact(zH u (2*k)).symm⟩,by dsimp only;rw[o,zi];omega,j.snoc A m,?_,?_,?_⟩,by dsimp only;rw[zi];omega⟩
    ·dsimp only;rw[o,af _];congr 1
    ·dsimp only;have:Q.drop (2*k)=(Q.drop k).drop k:=by rw[zJ];congr 1;omega
     rw[this];exact a.rest.rest
    ·dsimp only;refine c.trans ?_
     conv=>arg 2;rw[<-x]
     rw[qp];have:=(cH.refl (le:=cC) P).app (b.app (cH.refl (le:=cC) (Q.drop (2*k))));rw[qp]at this;exact this
    ·dsimp only;rw[qp];exact z
   ·have w:k<ii Q:=i4
    have ad:ii Q<2*k:=i4
    have l1:ii (Q.take k)=k:=i7
    have l2:ii (Q.drop k)=ii Q-k:=i9
    have J:Sd cC (Q.drop k):=by have:=a.rest.first;rw[qi i4]at this;exact this
    have p:aa B h0 R (cP s (P++(Q.take k++(Q.drop k++[])))::As):=by rw[qM,eQ];exact E
    refine(Dn _ P (Q.take k) (Q.drop k) [] _ _ _ i4 i4 (qm _) i0 (by rw[l1]) (by rw[l1,l2];omega) i7 a.first J p).mono ?_;rintro _ h6 ⟨rfl,M,m,b,z⟩;have q:ii M=ii Q:=by rw[<-tm ee b,eQ]
    rw[eQ]at b;rw[qM]at z;exact⟨(),i0,next (P++M) (by rw[qw];omega) (j.snoc A m) (c.trans ((cH.refl _).app b)) z⟩
   ·have w:ii Q<=k:=i4
    exact next (P++Q) (by rw[qw];omega) (j.snoc A (a.whole w)) c E
  ·have hs:Sd cC l:=S.whole i4;rw[ack ee hs r]at N;exact⟨i0,N⟩
theorem JA(d:List bF)(b:ii d<=2^30)(H:aa B h0 h (cP s d::As)):
  aq xD 168 #[s,.func (.func 169) #[] #[]] h λv h'=>v=.tuple #[]/\aa B h0 h' (cP s (d.mergeSort cC)::As):=by
 refine jX s (169,#[],#[]) ?_;refine(So d _ (by rw[(H.own 0 i0).len]) b H).mono ?_;rintro _ c ⟨rfl,a⟩;exact⟨(),i0,i0,a⟩
def jV:bF:=(0,0,0,0,0,0,0,⟨eH,0,0⟩)
end Go.Qw
namespace Wl
open Go Go.Vc Go.Qw
def kA(l:List bF)(k:Nat):Bool:=decide (k=0)||decide (lQ (l.getD k jV) (l.getD (k-1) jV)≠0)
def kB(l:List bF)(k:Nat):List bF:=((qz k).filter (kA l)).map λi=>l.getD i jV
def Ya(l:List bF):List bF:=kB l l.length
theorem nt(l:List bF)(k:Nat):kB l (k+1)=kB l k++if kA l k then[l.getD k jV]else[]:=by unfold kB;rw[zT,zq,qS,zr,vi];split<;>rfl
end Wl
namespace Go.Qw
open Go Go.Vc Go.Proofs Wl
variable {B:aA} {h0 h h':f8} {As:List HP} {s:Sl} {d:List bF}
theorem JB(a b:bF)(h:f8):aq xD 171 #[recv a,recv b] h λv h'=>v=xx (decide (lQ a b=0))/\Sp h h' []:=by refine ED a b ?_;refine(Sp.refl h).boxed λf j g=>g.boxed λi d c=>?_;have c:Sp h d [al f 164 (bO a),al i 164 (bO b)]:=c;refine⟨a,(c.box 0 i0).aP _ i0,b,(c.box 1 i0).aP _ i0,(oZ a b d).mono ?_⟩;rintro _ h3 ⟨rfl,e⟩;refine⟨_,i0,?_,.zip (aa.up c e.ag).ag⟩;congr 1
theorem HZ(l:List bF)(hd:ii l<=2^30)(H:aa B h0 h (cP s l::As)):
  aq xD 170 #[s,.func (.func 171) #[] #[]] h λv h'=>∃r:Sl,v=r/\aa B h0 h' (cP r (Ya l)::As):=by
 refine kN s (171,#[],#[]) ?_;have ab:=(H.own 0 i0).len;have y:=(H.own 0 i0).cap;have m:(∀j,j<ii l->kA l j=eR)->Ya l=l:=λz=>by
  have:∀k,k<=ii l->kB l k=l.take k:=λk=>by
   induction k with
   |zero=>simp[kB]
   |succ k ih=>
    intro K;rw[nt,ih i4,f9 (z k i4),aH l k,getD_lt (show k<ii l by omega)]
  unfold Ya;rw[this _ (qm _),qV]
 refine ac (λe=>⟨s,i0,?_⟩) (λe=>?_)
 ·rw[m λj n=>by unfold kA;rw[g9 (show j=0 by omega)];rfl];exact H
 refine av (λi:Nat=>(i:Int)) (λi h'=>1<=i/\i<=ii l/\(∀j,j<i->kA l j=eR)/\aa B h0 h' (cP s l::As)) (λi=>ii l-i) 1 i0 ⟨i4,i4,λj n=>by unfold kA;rw[g9 (show j=0 by omega)];rfl,H⟩ ?_;rintro i h1 ⟨ao,hi,z,I⟩;refine ac (λL=>?_) (λL=>?_)
 ·have A:i<ii l:=by have e':(i:Int)<(s.len:Int):=L;omega
  have ei:qc xz ((i:Int)-1)=((i-1:Nat):Int):=j3
  rw[ei];refine ki I i i0 (x:=l.getD i jV) (by rw[getD_lt A,qd A]) (ki I (i-1) i0 (x:=l.getD (i-1) jV) (by rw[getD_lt (show i-1<ii l by omega),qd]) (fo ld ?_));refine(JB _ _ h1).mono ?_;rintro _ h2 ⟨rfl,R2⟩;have X:=I.up R2.ag;refine⟨_,i0,trivial,bA (λe2=>?_) λe2=>?_⟩
  ·have p:kA l i=eS:=by unfold kA;rw[hU (show¬i=0 by omega)];simpa using e2
   have q:kB l i=l.take i:=by
    have:∀k,k<=i->kB l k=l.take k:=λk=>by
     induction k with
     |zero=>simp[kB]
     |succ k ih=>
      intro K;rw[nt,ih i4,f9 (z k i4),aH l k,getD_lt (show k<ii l by omega)]
    exact this i (qm _)
   refine⟨⟨i4,i4⟩,?_⟩;rw[ql];refine av (λt:Nat×List bF=>((ii (kB l (i+t.1)):Int),(t.1:Int))) (λt h'=>1<=t.1/\i+t.1<=ii l/\t.2.length=ii l/\(kB l (i+t.1)).length+1<=i+t.1/\t.2.take (kB l (i+t.1)).length=kB l (i+t.1)/\(∀j,i+t.1-1<=j->t.2[j]?=l[j]?)/\aa B h0 h' (cP s t.2::As)) (λt=>ii l-t.1) (1,l) ?_ ⟨i9,i6,i0,?_,?_,λ_ _=>rfl,X⟩ ?_
   ·dsimp only;rw[nt,p,q];simp;omega
   ·dsimp only;rw[nt,p,q];simp;omega
   ·dsimp only;rw[nt,p,q];simp
   rintro⟨k,D⟩ h3 ⟨ah,ad,F,T,d,u,J⟩;dsimp only at*;obtain⟨c,P⟩:∃c,c=ii (kB l (i+k)):=⟨_,rfl⟩
   rw[<-P]at T d⊢;have am:=(J.own 0 i0).len;have w:=(J.seq 0 i0 λ_=>rfl).drop i y;refine ac (λe3=>?_) (λe3=>?_)
   ·have Q:i+k<ii l:=i4
    have ek:qc xz ((k:Int)-1)=((k-1:Nat):Int):=j3
    rw[ek];have Y:∀j,k-1<=j->(n:i+j<ii l)->(D.drop i)[j]?=dB (l.getD (i+j) jV):=λj n G=>by
     rw[List.getElem?_drop,u _ i4,getD_lt G,qd G]
    have gk:=Y k i4 Q;have O:=Y (k-1) i4 i4;obtain⟨W,Z⟩:=qn.1 gk;obtain⟨q1,q2⟩:=qn.1 O;refine Seq.dZ (f:=bO) (g:=bO) w k i0 W (l.getD (i+k) jV) sR ?_;refine Seq.dZ (f:=bO) (g:=bO) w (k-1) i0 q1 (l.getD (i+(k-1)) jV) (by rw[q2]) (fo ld ?_);refine(JB _ _ h3).mono ?_;rintro _ h4 ⟨rfl,R4⟩;have U:=J.up R4.ag;have o:kA l (i+k)=!decide (lQ (l.getD (i+k) jV) (l.getD (i+(k-1)) jV)=0):=by unfold kA;rw[hU (show¬i+k=0 by omega),show i+k-1=i+(k-1)by omega];simp
    have a:=nt l (i+k);rw[o]at a;refine⟨_,i0,trivial,bi (λR=>?_) λR=>?_⟩
    ·rw[R]at a;have b:ii (kB l (i+(k+1)))=c+1:=by rw[<-w5,a];simp[P]
     have E:=(U.seq 0 i0 λ_=>rfl).drop i y;refine Seq.dZ (f:=bO) (g:=bO) E k i0 W (l.getD (i+k) jV) sR ?_;refine U.set an 0 i0 (λ_=>rfl) i0 c i0 i4 (l.getD (i+k) jV) i0 i0 i0 λh5 H5=>?_;refine⟨(k+1,D.set c (l.getD (i+k) jV)),?_,⟨i6,i6,by dsimp only;rw[zl];exact F,by dsimp only;rw[b];omega,?_,λj n=>?_,H5⟩,i6⟩
     ·dsimp only;rw[b,af _,af _];rfl
     ·dsimp only;rw[b,aH _ c (by rw[zl];omega),List.getElem_set_self,List.take_set_of_le (qm _),d,<-w5,a];simp
     ·dsimp only at n⊢;rw[zC i4];exact u j i4
    ·rw[R]at a;have b:ii (kB l (i+(k+1)))=c:=by rw[<-w5,a];simp[P]
     refine⟨(k+1,D),?_,⟨i6,i6,F,by dsimp only;rw[b];omega,?_,λj n=>u j (by dsimp only at n;omega),U⟩,i6⟩
     ·dsimp only;rw[b,af _];rfl
     ·dsimp only;rw[b,d,<-w5,a];simp
   ·have N:i+k=ii l:=i4
    refine⟨⟨i4,i4⟩,?_⟩;rw[ql];refine J.om an 0 i0 afe (λ_=>rfl) i0 i5 c i4 λh6 V=>⟨⟨i4,i4⟩,⟨s.ptr,c,s.cap⟩,i0,?_⟩
    rw[d,N]at V;exact V
  ·refine⟨i+1,js,⟨i4,i4,λj n=>?_,X⟩,i4⟩;by_cases M:j=i
   ·subst M;unfold kA;rw[g9 (show lQ (l.getD j jV) (l.getD (j-1) jV)≠0 by simpa using e2)];simp
   ·exact z j i4
 ·have S:i=ii l:=by have e':¬(i:Int)<(s.len:Int):=L;omega
  subst S;rw[m z];exact⟨s,i0,I⟩
def fieldsOf(d:Option TypeDesc):List (Bool×TypeId×Nat):=match d with|some (.struct fs)=>fs.toList.map (λf=>(f.name== "_",f.type,f.offset))|_=>[]
theorem Yb:fieldsOf (Tryz.prog.underlying 26)=[(eS,3,0),(eS,3,1),(eS,3,2)]:=j1
theorem aaM:Tryz.prog.stoodInHeld 26=eS:=j1
theorem aaN:Tryz.prog.eqGuardType Tryz.prog.depth 26=eS:=j1
theorem Qa{P:Program}{t:TypeId}{a b c:TypeId×Nat}(h:fieldsOf (P.underlying t)=[(eS,a.1,a.2),(eS,b.1,b.2),(eS,c.1,c.2)]):
  ∃f g e:Field,P.underlying t=dB (.struct #[f,g,e])/\(f.name≠ "_" /\f.type=a.1/\f.offset=a.2)/\(g.name≠ "_" /\g.type=b.1/\g.offset=b.2)/\(e.name≠ "_" /\e.type=c.1/\e.offset=c.2):=by
 cases hu:P.underlying t with
 |none=>rw[hu]at h;cases h
 |some d=>
  rw[hu]at h;cases d with
  |struct fs=>
   simp only[fieldsOf]at h;obtain⟨l⟩:=fs;have i:ii l=3:=by simpa using congrArg vL h
   obtain⟨f,r,rfl⟩:=yF i;obtain⟨g,j,rfl⟩:=yF (by simpa using i:ii r=1+1);obtain⟨e,k,rfl⟩:=yF (by simpa using i:ii j=0+1);obtain rfl:k=[]:=by simpa using i
   simp at h;exact⟨f,g,e,i0,⟨h.1.1,h.1.2.1,h.1.2.2⟩,⟨h.2.1.1,h.2.1.2.1,h.2.1.2.2⟩,⟨h.2.2.1,h.2.2.2.1,h.2.2.2.2⟩⟩
  |_=>cases h
theorem jr{P:Program}{d:Nat}{t:TypeId}{k:IntKind}(h:∃c,P.underlying t=dB (.int c))(a b:Int):aK P (Op.equalIn (d+1) t (.int k a) (.int k b)) (a==b):=by obtain⟨c,h⟩:=h;unfold Op.equalIn;refine(aR h).bind ?_;simp only[if_true];exact .pure
theorem mq{P:Program}{t:TypeId}{k:IntKind}(h:P.underlying t=dB (.int k)){a:Array Value}{i:Nat}{v:Value}(b:a[i]?=dB v):aK P (part t a i) v:=by unfold part isAgg;refine aK.bind (v:=eS) ((aR h).bind .pure) ?_;simp only[zn,if_false,b];exact .pure
theorem agc(p q:Pm):aK xD (Op.equal 26 (xy #[xt xz p.1,xt xz p.2.1,xt xz p.2.2]) (xy #[xt xz q.1,xt xz q.2.1,xt xz q.2.2])) (decide (p=q)):=by
 obtain⟨f,g,u,A,⟨y,F,H⟩,⟨D,z,I⟩,⟨E,B,u3⟩⟩:=Qa (a:=(3,0)) (b:=(3,1)) (c:=(3,2)) Yb;have G:∃k,Tryz.prog.underlying 3=dB (.int k):=⟨.i64,j1⟩
 obtain⟨k,d⟩:=G;unfold Op.equal;rw[show Op.maxDepth=9998+1+1 from i0,Op.equalIn];refine(aR A).bind ?_;refine aK.bind (v:=xD) (λw=>rfl) ?_;simp only[aaM,zn,if_false,List.forIn_toArray,List.forIn_cons,List.forIn_nil,ne_eq,y,D,E,not_false_eq_true,if_true,F,H,z,I,B,u3];obtain⟨a,b,c⟩:=p;obtain⟨h,i,j⟩:=q;dsimp only;have o:aK xD (part 3 #[Value.int xz a,Value.int xz b,Value.int xz c] 0) _:=mq d i0;have n:aK xD (part 3 #[Value.int xz h,Value.int xz i,Value.int xz j] 0) _:=mq d i0;have r:aK xD (part 3 #[Value.int xz a,Value.int xz b,Value.int xz c] 1) _:=mq d i0;have s:aK xD (part 3 #[Value.int xz h,Value.int xz i,Value.int xz j] 1) _:=mq d i0;have t:aK xD (part 3 #[Value.int xz a,Value.int xz b,Value.int xz c] 2) _:=mq d i0;have x:aK xD (part 3 #[Value.int xz h,Value.int xz i,Value.int xz j] 2) _:=mq d i0;by_cases l:a=h
 ·by_cases m:b=i
  ·by_cases h3:c=j
   ·have e:decide ((a,b,c)=(h,i,j))=eR:=by simp[l,m,h3]
    rw[e];refine aK.bind (v:=(eH,())) (aK.bind (v:=ForInStep.yield (eH,())) (o.bind (n.bind ((jr ⟨k,d⟩ a h).bind ?_))) (aK.bind (v:=ForInStep.yield (eH,())) (r.bind (s.bind ((jr ⟨k,d⟩ b i).bind ?_))) (aK.bind (v:=ForInStep.yield (eH,())) (t.bind (x.bind ((jr ⟨k,d⟩ c j).bind ?_))) .pure))) .pure
    ·simp only[l,beq_self_eq_true,yf,zn,if_false];exact .pure
    ·simp only[m,beq_self_eq_true,yf,zn,if_false];exact .pure
    ·simp only[h3,beq_self_eq_true,yf,zn,if_false];exact .pure
   ·have e:decide ((a,b,c)=(h,i,j))=eS:=by simp[h3]
    rw[e];refine aK.bind (v:=(dB eS,())) (aK.bind (v:=ForInStep.yield (eH,())) (o.bind (n.bind ((jr ⟨k,d⟩ a h).bind ?_))) (aK.bind (v:=ForInStep.yield (eH,())) (r.bind (s.bind ((jr ⟨k,d⟩ b i).bind ?_))) (aK.bind (v:=ForInStep.done (dB eS,())) (t.bind (x.bind ((jr ⟨k,d⟩ c j).bind ?_))) .pure))) .pure
    ·simp only[l,beq_self_eq_true,yf,zn,if_false];exact .pure
    ·simp only[m,beq_self_eq_true,yf,zn,if_false];exact .pure
    ·rw[show(c==j)=eS by simpa using h3];simp only[yg,if_true];exact .pure
  ·have e:decide ((a,b,c)=(h,i,j))=eS:=by simp[m]
   rw[e];refine aK.bind (v:=(dB eS,())) (aK.bind (v:=ForInStep.yield (eH,())) (o.bind (n.bind ((jr ⟨k,d⟩ a h).bind ?_))) (aK.bind (v:=ForInStep.done (dB eS,())) (r.bind (s.bind ((jr ⟨k,d⟩ b i).bind ?_))) .pure)) .pure
   ·simp only[l,beq_self_eq_true,yf,zn,if_false];exact .pure
   ·rw[show(b==i)=eS by simpa using m];simp only[yg,if_true];exact .pure
 ·have e:decide ((a,b,c)=(h,i,j))=eS:=by simp[l]
  rw[e];refine aK.bind (v:=(dB eS,())) (aK.bind (v:=ForInStep.done (dB eS,())) (o.bind (n.bind ((jr ⟨k,d⟩ a h).bind ?_))) .pure) .pure;rw[show(a==h)=eS by simpa using l];simp only[yg,if_true];exact .pure
theorem afh(x y:Operand)(p q:Pm):ko xD .neq 26 x y (xy #[xt xz p.1,xt xz p.2.1,xt xz p.2.2]) (xy #[xt xz q.1,xt xz q.2.1,xt xz q.2.2]) (xx (!decide (p=q))):=by
 unfold ko eqGuard;refine aK.bind (v:=()) ?_ ?_
 ·simp only[yf,zn,if_false];refine aK.bind (v:=xD) (λw=>rfl) ?_;refine aK.bind (v:=xD) (λw=>rfl) ?_;simp only[aaN,yg,if_true];exact .pure
 ·exact(agc p q).bind .pure
end Go.Qw
namespace Wl
def aaO(P:cz->Bool)(l:List cz)(i:Int):Prop:=(i=-1/\l.any P=eS)∨∃n:Nat,∃h:n<ii l,i=n/\P l[n]=eR/\(l.take n).any P=eS
theorem Qb{P:cz->Bool}{l:List cz}{i:Int}(h:aaO P l i):decide (i>=0)=l.any P:=by
 rcases h with⟨rfl,h⟩|⟨n,hn,rfl,h,_⟩
 ·rw[h];rfl
 ·rw[wk.2 ⟨_,qg hn,h⟩];exact g9 i4
end Wl
namespace Go.Qw
open Go Go.Vc Go.Proofs Wl
theorem GM(f:FuncId)(pre post:Array Value)(P:Wl.cz->Bool)(l:Sl)(a:List Wl.cz)(h:f8)(t:C.fns[f]?=dB eR)(n:dQ tz h l a)(B:ii a<=2^30)
  (x:∀(u:dV) (E:Wl.cz) (h':f8),Sp h h' []->dQ jk h' u E->E∈a->aq xD f (pre.toList++[Value.agg #[xw u.1,xt xz u.2.1,xt xz u.2.2.1,u.2.2.2]]++post.toList).toArray h' λv k=>v=xx (P E)/\Sp h' k []):
  aq xD 151 #[l,.func (.func f) pre post] h λv h'=>(∃i:Int,v=xt xz i/\aaO P a i)/\Sp h h' []:=by
 refine ia l (f,pre,post) ?_;obtain⟨e,w,F,s⟩:=bH.jl n;have y:=bH.len n;refine av (λi:Nat=>(i:Int)) (λi h'=>i<=ii a/\(a.take i).any P=eS/\Sp h h' []) (λi=>ii a-i) 0 i0 ⟨i4,i9,Sp.refl h⟩ ?_;rintro i o ⟨D,b,d⟩;refine ac (λj=>?_) (λj=>?_)
 ·have c:i<ii a:=by have r:(i:Int)<(l.len:Int):=j;omega
  have q:dQ jk o (e[i]'(by omega)) a[i]:=jk.mono (jk.loc (s i i4 c) d.ag) λ_ p=>qY p d.ag.1;refine(Seq.up w d.ag).dZ (g:=bE) i i0 i4 (e[i]'(by omega)) i0 (fo t ?_);refine(x (e[i]'(by omega)) a[i] o d q (qg c)).mono ?_;rintro _ A ⟨rfl,z⟩;have m:=d.up z.ag;refine⟨_,i0,bA (λe2=>⟨⟨i,i0,.inr ⟨i,c,i0,e2,b⟩⟩,m⟩) λe2=>?_⟩;refine⟨i+1,js,⟨i4,?_,m⟩,i4⟩;rw[aH _ _ c,yU,b,List.any_cons,List.any_nil,e2];rfl
 ·have r:¬(i:Int)<(l.len:Int):=j;rw[qi i4]at b;exact⟨⟨-1,i0,.inl ⟨i0,b⟩⟩,d⟩
theorem Lu(f:FuncId)(pre post:Array Value)(P:Wl.cz->Bool)(l:Sl)(a:List Wl.cz)(h:f8)(e:C.fns[f]?=dB eR)(j:dQ tz h l a)(d:ii a<=2^30)
  (g:∀(u:dV) (E:Wl.cz) (h':f8),Sp h h' []->dQ jk h' u E->E∈a->aq xD f (pre.toList++[Value.agg #[xw u.1,xt xz u.2.1,xt xz u.2.2.1,u.2.2.2]]++post.toList).toArray h' λv b=>v=xx (P E)/\Sp h' b []):
  aq xD 193 #[l,.func (.func f) pre post] h λv h'=>v=xx (a.any P)/\Sp h h' []:=by
 refine gD l (f,pre,post) ?_;refine(GM f pre post P l a h e j d g).mono ?_;rintro _ m ⟨⟨i,rfl,k⟩,c⟩;exact⟨i,i0,by rw[Qb k],c⟩
theorem pc(o b t:Int)(h:f8):aq xD 48 #[xt xz o,xt xz b,xt xz t] h λv h'=>v=xt xB (ck o b t)/\h'=h:=by
 refine Nn o b t ?_;refine⟨?_,i0⟩;have:qc xB ((qc xB ((qc xB ((128:Int)*(qc xB o)))+(qc xB ((16:Int)*(qc xB b)))))+(qc xB t))=ck o b t:=by unfold ck qc;simp[qk,va];omega
 rw[this]
theorem Sq(x:bX)(m:aC)(y:bF)(r:cW)(h:f8)(q:dH h x m)(hz:dh m)(J:dQ ft h y r):
  aq xD 167 #[fT x,recv y] h λv h'=>v=xx (eN m r)/\Sp h h' []:=by
 refine Jk x y ?_;refine(Sp.refl h).boxed λS h1 V=>V.boxed λd L e=>?_;have e:Sp h L [al S 29 (aS x),al d 164 (bO y)]:=e;obtain⟨⟨Z,e2,e3,G,e5,e7,e8⟩,e6⟩:=id J;have B:x.2.2.1=m.p.1:=congrArg (·.1) q.p;have A:x.2.2.2.1=m.p.2.1:=congrArg (·.2.1) q.p;have z:x.2.2.2.2.1=m.p.2.2:=congrArg (·.2.2) q.p;have F:y.2.2.2.1=r.p.1:=congrArg (·.1) G;have D:y.2.2.2.2.1=r.p.2.1:=congrArg (·.2.1) G;have s:y.2.2.2.2.2.1=r.p.2.2:=congrArg (·.2.2) G;have ad:=hz.ob;refine bc ⟨y,(e.box 1 i0).aP _ i0,(GK y r L (ft.mono (ft.loc J e.ag) λ_ U=>qY U e.ag.1)).mono ?_⟩;rintro _ h3 ⟨rfl,Y⟩;have i:Sp h h3 [al S 29 (aS x),al d 164 (bO y)]:=e.up Y.ag;have Q:=i.box 0 i0;have w:=i.box 1 i0;refine⟨_,i0,bi (λg=>⟨by unfold eN;rw[g];rfl,.zip i.ag⟩) λg=>?_⟩;obtain⟨_,g2,_⟩:=(jO r).1 g;refine⟨r.p,by rw[<-F,<-D,<-s];exact w.Ge 3 i0 i0 i0,m.p,by rw[<-B,<-A,<-z];exact Q.Ge 2 i0 i0 i0,_,afh _ _ r.p m.p,bi (λI=>⟨?_,.zip i.ag⟩) λI=>?_⟩
 ·unfold eN;rw[g,I];rfl
 obtain⟨P,M⟩:∃P:Wl.cz->Bool,P=λx=>decide (x.object=r.object)&&(decide (r.block<(x.tries.length:Int))&&decide (r.seed=ck r.object r.block (x.tries.getD r.block.toNat 0))):=⟨_,rfl⟩
 have t:eN m r=m.aF.any P:=by unfold eN;rw[g,I,M];rfl
 refine⟨x.2.2.2.2.2.2.2,Q.cell i0,?_⟩;refine(Lu 238 #[] #[xv (dB d)] P x.2.2.2.2.2.2.2 m.aF h3 ld (q.up i.ag).aF i4 λu E O H4 W _=>?_).mono ?_
 ·obtain⟨⟨y1,y2,y3⟩,K⟩:=W;have ab:=Seq.len K;have l:=w.ag H4.ag w.lt;refine Gx u d ?_;refine(Sp.refl O).boxed λa5 b a=>?_;have a:Sp O b [al a5 94 (bE u)]:=a;have N:=a.box 0 i0;have c:=l.ag a.ag l.lt;have o:f7 b (a5.add 1)=dB (xt xz E.object):=by rw[<-y2];exact N.cell i0
  have k:f7 b (a5.add 3)=dB (xu u.2.2.2.ptr u.2.2.2.len u.2.2.2.cap):=N.cell i0;have n:f7 b d=dB (xt xz r.object):=by rw[<-Z];exact c.cell0 i0
  have j:f7 b (d.add 1)=dB (xt xz r.block):=by rw[<-e2];exact c.cell i0
  have R:f7 b (d.add 6)=dB (xt xB r.seed):=by rw[<-e5];exact c.cell i0
  rw[M];refine⟨E.object,o,r.object,n,cy (λH=>?_) λH=>⟨⟨n,o,trivial⟩,?_,.zip a.ag⟩⟩
  ·refine⟨u.2.2.2,k,r.block,j,ac (λq2=>?_) λq2=>⟨⟨j,k,n,o,trivial⟩,?_,.zip a.ag⟩⟩
   ·have T:r.block.toNat<E.tries.length:=i4
    refine⟨r.seed,R,r.object,n,r.block,j,u.2.2.2,k,r.block,j,?_⟩;refine Seq.bD (f:=ak) (Seq.up K a.ag) r.block.toNat i4 T (E.tries.getD r.block.toNat 0) (by rw[getD_lt T];rfl) ?_;refine(pc _ _ _ b).mono ?_;rintro _ _ ⟨rfl,rfl⟩;refine⟨_,i0,⟨j,k,R,j,k,n,o,trivial⟩,?_,.zip a.ag⟩;dsimp only;rw[g9 H,g9 (show r.block<(E.tries.length:Int)by omega),wA,wA];congr 1
   ·dsimp only;rw[hU (show¬r.block<(E.tries.length:Int)by omega)];simp
  ·dsimp only;rw[hU H];rfl
 ·rintro _ b ⟨rfl,X⟩;exact⟨_,i0,by rw[t],.zip (aa.up i X.ag).ag⟩
variable {α:Type}
def nQ(k:Nat)(f:α->ba):iZ Sl (List α):=⟨λh q s l=>Seq h q s k f l/\s.len<=s.cap,λa b=>⟨a.1.ag b,a.2⟩,λa c=>⟨a.1.mono c,a.2⟩⟩
theorem aa.acO{B:aA}{d h:f8}{As:List HP}{e b k:Nat}{s:Sl}{f:α->ba}{a:List (List α)}(H:aa B d h (dg e s b k f a::As))(p:∀x,ii (f x)=k):∃rs,aa B d h (cO (nQ k f) 1 bp s rs a::As):=by
 obtain⟨rs,H⟩:=H.rx;obtain⟨H,g⟩:=H.Hn;refine⟨rs,H.gb 0 i0 λq m=>⟨?_,g,λi r l n c=>?_⟩⟩
 ·have:=HP.Bj (i:=0) m i0;exact this.1.seq (λ_=>rfl) this.2
 ·have j:i<ii a:=(qn.1 c).1;have t:=fV (e:=b) (k:=k) (f:=f) g i j;have:=HP.Bj (i:=i+1) m sb;have o:rs[i]'(by omega)=r:=by rw[qd i4]at n;simpa using n
  have b:a[i]=l:=by rw[qd j]at c;simpa using c
  rw[o,b]at this;exact⟨this.1.seq p this.2,this.1.cap⟩
def rG(T:List (bF×cW)):HP:=⟨λh q=>∀t∈T,ft.p h q t.1 t.2,λa c t b=>ft.loc (a t b) c,λa d t b=>ft.mono (a t b) d⟩
end Go.Qw
namespace Wl
open Go Go.Vc Go.Qw
def Keyed(T:List (bF×cW)):Prop:=∀t∈T,t.1.1=t.2.object/\t.1.2.1=t.2.block/\t.1.2.2.1=t.2.id
def Mq(a b:bF×cW):Bool:=pA a.2 b.2
theorem aaP{T:List (bF×cW)}(k:Keyed T):∀a∈T,∀b∈T,Mq a b=cC a.1 b.1:=λa d b e=>by
 obtain⟨f,i,a3⟩:=k a d;obtain⟨h,c,g⟩:=k b e;unfold Mq pA cC;rw[decide_eq_decide,Bi,f,i,a3,h,c,g]
theorem Vs{T:List (bF×cW)}(k:Keyed T):(T.mergeSort Mq).map qK=(T.map qK).mergeSort cC/\(T.mergeSort Mq).map zL=(T.map zL).mergeSort pA/\Keyed (T.mergeSort Mq):=
 ⟨vK (aaP k),vK λa _ b _=>rfl,λt c=>k t (yO.1 c)⟩
def JC:bF×cW:=(jV,IL)
def CD(T:List (bF×cW)):List (bF×cW):=((qz T.length).filter (oI (T.map zL))).map λi=>T.getD i JC
theorem getD_map{α β:Type}(f:α->β)(l:List α)(i:Nat)(d:α):(l.map f).getD i (f d)=f (l.getD i d):=by rw[qe,qe,qR];cases l[i]?<;>rfl
theorem Yc{T:List (bF×cW)}(k:Keyed T):(CD T).map qK=Ya (T.map qK)/\(CD T).map zL=oJ (T.map zL)/\∀t∈CD T,t∈T:=by
 have f:∀i,i<ii T->kA (T.map qK) i=oI (T.map zL) i:=λi a=>by
  unfold kA oI;have g:∀j,j<ii T->(T.map qK).getD j jV=(T[j]?.getD JC).1/\(T.map zL).getD j IL=(T[j]?.getD JC).2:=λj e=>by
   rw[qe,qe,qR,qR,qd e];exact⟨i0,i0⟩
  by_cases h0:i=0
  ·rw[g9 h0];rfl
  ·rw[hU h0,vB,vB,(g i a).1,(g i a).2,(g (i-1) i4).1,(g (i-1) i4).2];rw[qd a,qd (show i-1<ii T by omega)];obtain⟨r,q,a3⟩:=k _ (qg a);obtain⟨p,l,m⟩:=k _ (qg (show i-1<ii T by omega));unfold nN;simp only[Option.getD_some];have c:=XX T[i].1 (T[i-1]'(by omega)).1;rw[r,q,a3,p,l,m]at c;by_cases b:lQ T[i].1 (T[i-1]'(by omega)).1=0
   ·rw[hU λh=>h b,g9 (c.1 b)];rfl
   ·rw[g9 b,hU λn=>b (c.2 n)];rfl
 have o:(qz T.length).filter (kA (T.map qK))=(qz T.length).filter (oI (T.map zL)):=List.filter_congr λi a=>f i (qJ.1 a);refine⟨?_,?_,λt d=>?_⟩
 ·unfold CD Ya kB;rw[qx,o,w9];congr 1;funext i;exact(getD_map qK T i JC).symm
 ·unfold CD oJ;rw[qx,w9];congr 1;funext i;exact(getD_map zL T i JC).symm
 ·unfold CD at d;obtain⟨i,a,rfl⟩:=qu.1 d;have:=qJ.1 (qH.1 a).1;rw[getD_lt this];exact qg this
end Wl
namespace Go.Qw
open Go Go.Vc Go.Proofs Wl
theorem NC(a pw:eY)(d:bj)(s b:Sl)(x:bX)(m:aC)(h:f8)(H:cw h a 119 (fz pw d s b))(hl:fW h s 1 aD d.l)(ok:iP d)(hx:dH h x m)(hz:dh m):
  aq xD 106 #[xv (dB a),fT x] h λv h'=>∃(r:Sl) (T:List (bF×cW)),v=r/\T.map zL=cM m d.l/\Keyed T/\Sp h h' [cP r (T.map qK),rG T]:=by
 refine HI (dB a) x ?_;have ab:=ok.len;have U:=ok.room;refine(Sp.refl h).boxed λp h1 J=>?_;have J:Sp h h1 [al p 29 (aS x)]:=J;refine(PR s b (H.ag J.ag H.lt) (hl.up J.ag) ok).mono ?_;rintro _ h2 ⟨B,rfl,R2⟩;have M:=J.cj R2;obtain⟨rs,M⟩:=aa.acO M λ_=>rfl;refine⟨B,i0,?_⟩;have F2:=M.fA 0 i0;have ad:=F2.1.len;have ap:=F2.2.1;have G:Sp h h2 [cP ⟨eH,0,0⟩ [],rG [],cO (nQ 1 aD) 1 bp B rs d.l,al p 29 (aS x)]:=
  ((M.comp (.one (A:=rG []) (aZ.refl _ _) λt f=>(by cases f))).nil 164 8 bO).cu [3,2,0,1]
 refine av (λt:Sl×Nat×List (bF×cW)=>(t.1,(t.2.1:Int)-1)) (λt h'=>t.2.1<=ii d.l/\t.2.2.length<=t.2.1/\Keyed t.2.2/\t.2.2.map zL=(d.l.take t.2.1).filterMap (jd m)/\Sp h h' [cP t.1 (t.2.2.map qK),rG t.2.2,cO (nQ 1 aD) 1 bp B rs d.l,al p 29 (aS x)]) (λt=>ii d.l-t.2.1) (⟨eH,0,0⟩,0,[]) i0 ⟨i9,i9,(λt f=>(by cases f)),i9,G⟩ ?_;rintro⟨o,i,T⟩ h3 ⟨hi,ao,L,k,G⟩;dsimp only at*;have ei:qc xz ((i:Int)-1+1)=(i:Int):=j3
 rw[ei];refine ac (λe=>?_) (λe=>?_)
 ·have R:i=ii d.l:=i4
  subst R;rw[qV]at k;refine(JA (T.map qK) oj G).mono ?_;rintro _ h4 ⟨rfl,H4⟩;obtain⟨s1,s2,Z⟩:=Vs L;rw[<-s1]at H4;refine⟨(),i0,(HZ _ (by rw[qx,List.length_mergeSort];omega) H4).mono ?_⟩;rintro _ h5 ⟨r5,rfl,H5⟩;obtain⟨c1,c2,c3⟩:=Yc Z;rw[<-c1]at H5;refine⟨r5,i0,r5,CD (T.mergeSort Mq),i0,?_,λt f=>Z t (c3 t f),?_⟩
  ·have hr:cM m d.l=(CD (T.mergeSort Mq)).map zL:=by unfold cM;rw[<-k,c2,s2]
   exact hr.symm
  ·exact(H5.gb 1 i0 (D:=rG (CD (T.mergeSort Mq))) λq z t f=>z t (yO.1 (c3 t f))).cu [0,1]
 ·have E:i<ii d.l:=i4
  have g:=UR m d.l i E;have next:∀{h':f8} {F:Sl} {T':List (bF×cW)},ii T'<=i+1->Keyed T'->T'.map zL=(d.l.take (i+1)).filterMap (jd m)->Sp h h' [cP F (T'.map qK),rG T',cO (nQ 1 aD) 1 bp B rs d.l,al p 29 (aS x)]->
    ∃j:Sl×Nat×List (bF×cW),((⟨F.ptr,F.len,F.cap⟩:Sl),(i:Int))=(j.1,(j.2.1:Int)-1)/\(j.2.1<=ii d.l/\j.2.2.length<=j.2.1/\Keyed j.2.2/\j.2.2.map zL=(d.l.take j.2.1).filterMap (jd m)/\Sp h h' [cP j.1 (j.2.2.map qK),rG j.2.2,cO (nQ 1 aD) 1 bp B rs d.l,al p 29 (aS x)])/\d.l.length-j.2.1<ii d.l-i:=λ{h' F T'} q1 q2 q3 q4=>
   ⟨(F,i+1,T'),by dsimp only;congr 1;omega,⟨i6,q1,q2,q3,q4⟩,i6⟩
  refine bc ?_;refine(G.fA 2 i0).1.lK i i0 i4 ?_;obtain⟨u,S⟩:=Fix.row (G.fA 2 rfl) E;obtain⟨c,hc⟩:∃c,c=d.l[i]:=⟨_,rfl⟩
  rw[<-hc]at u g;have ah:ii c=64:=by rw[hc];exact ok.cell _ (qg E)
  refine(PW (rs[i]'(by omega)) c h3 u i4 S).mono ?_;rintro _ h6 ⟨y,rfl,Q0,Q1⟩;refine⟨(y,(dT c).isSome),i0,?_⟩;dsimp only;cases htr:dT c with
  |none=>
   have I:jd m c=eH:=by unfold jd;rw[htr]
   rw[I,Option.toList_none,qM]at g;have O:=G.up (Q0 htr).ag;refine O.alloc an i0 λa9 h7 W=>?_;refine W.storeAll an 4 i0 i0 (bO y) i0 i0 i0 i0 λh8 n=>bA (λe=>j0) λ_=>?_;exact next i4 L (by rw[k,g]) (n.cu [0,1,2,3])
  |some r=>
   have O:=G.cj (Q1 r htr);refine O.alloc an i0 λa9 h7 W=>?_;refine W.storeAll an 5 i0 i0 (bO y) i0 i0 i0 i0 λh8 n=>bA (λ_=>?_) λe=>j0
   have n:Sp h h8 [EA ft y r,cP o (T.map qK),rG T,cO (nQ 1 aD) 1 bp B rs d.l,al p 29 (aS x),al a9 164 (bO y)]:=n;have Y:=n.eAt 0 i0;have Q:aj h8 p 0 (aS x):=(n.box 4 i0).aP _ i0;have P:aj h8 a9 0 (bO y):=(n.box 5 i0).aP _ i0;have N:=Sq x m y r h8 (hx.up n.ag) hz Y;refine⟨x,Q,y,P,N.mono ?_⟩;rintro _ h9 ⟨rfl,R9⟩;have X:Sp h h9 [EA ft y r,cP o (T.map qK),rG T,cO (nQ 1 aD) 1 bp B rs d.l,al p 29 (aS x),al a9 164 (bO y)]:=n.up R9.ag;refine⟨_,i0,bA (λe2=>?_) λe2=>?_⟩
   ·have I:jd m c=dB r:=by unfold jd;rw[htr];exact f9 e2
    rw[I,Option.toList_some]at g;refine⟨y,(X.box 5 i0).aP _ i0,?_⟩;refine X.push an 1 i0 afe i0 i5 (λ_=>rfl) adI y j1 i5 oj λF am K=>?_;have w:=(K.eAt 0 i0).1;have V:=K.merge 2 0 i5 i0 i0 (D:=rG (T++[(y,r)])) (λq1 q2 _ p1 p2 t f=>by
     rcases qA.1 f with f|f
     ·exact ft.mono (p1 t f) λ_ H=>.inl H
     ·rw[qB.1 f];exact ft.mono p2 λ_ H=>.inr H)
    refine next (T':=T++[(y,r)]) i7 (λt f=>?_) (by rw[qS,k,g];rfl) ?_
    ·rcases qA.1 f with f|f
     ·exact L t f
     ·rw[qB.1 f];exact⟨w.1,w.2.1,w.2.2.1⟩
    ·rw[qS];exact V.cu [1,2,3,4]
   ·have I:jd m c=eH:=by unfold jd;rw[htr];exact g0 (by rw[e2];simp)
    rw[I,Option.toList_none,qM]at g;exact next i4 L (by rw[k,g]) (X.cu [1,2,3,4])
theorem ER(a pw:eY)(d:bj)(s b:Sl)(x:bX)(m:aC)(h:f8)(g:cw h a 119 (fz pw d s b))(y:fW h s 1 aD d.l)(ok:iP d)(z:dH h x m)(p:dh m):
  aq xD 106 #[xv (dB a),fT x] h λv h'=>∃(r:Sl) (k:List bF),v=r/\Sp h h' [cO ft 8 bO r k (cM m d.l)]:=by
 refine(NC a pw d s b x m h g y ok z p).mono ?_;rintro _ h' ⟨r,T,rfl,u,_,H⟩;refine⟨r,T.map qK,i0,?_⟩;have o:=(H.freeze 0 i0 λ_=>rfl).lJ;have n:aa _ _ _ (cO ft 8 bO r (T.map qK) (cM m d.l)::_):=o.gb 0 i0 λq ⟨B,D,_,b,c,i,w⟩=>by
  rw[<-u];refine⟨Seq.mono w c,i9,λj A l' e f=>?_⟩;rw[qR]at e f;cases g3:T[j]? with
  |none=>rw[g3]at e;cases e
  |some t=>
   rw[g3]at e f;simp at e f;subst e;subst f;exact ft.mono (i t (yd g3)) b
 exact n.cu [0]
end Go.Qw
namespace Go.Vc
open Go Wl
def bo(l:aw)(k:Nat):aw:=((qz k).map λi:Nat=>(i:Int)).filter λi=>decide (0<l.getD i.toNat 0)
def eU(l:aw):aw×Bool:=
 if l.all (fm · 0 512)then(bo l l.length,decide (ii l<=64)&&decide (0<ii (bo l l.length)))else([],eS)
theorem Do(l:aw)(k:Nat)(a:k<ii l):bo l (k+1)=bo l k++if 0<l[k]then[(k:Int)]else[]:=by unfold bo;rw[zT,qS,zq];congr 1;simp only[List.map_cons,List.map_nil,zr,vi,ql,qe,qd a,Option.getD_some];by_cases h:0<l[k]<;>simp[h]
theorem pd(l:aw)(k:Nat):ii (bo l k)<=k:=by unfold bo;exact zd (qT _ _) i9
end Go.Vc
namespace Go.Qw
open Go Go.Vc Go.Proofs Wl
theorem Sr(s:Sl)(l:aw)(h:f8)(m:Rd h s 1 ak l)(D:ii l<=2^20):
  aq xD 72 #[s] h λv h'=>∃r:Sl,v=.tuple #[r,xx (eU l).2]/\Sp h h' [ae 3 r 1 ak (eU l).1]:=by
 refine HE s ?_;have p:=m.len;have w:Sp h h [ae 3 ⟨eH,0,0⟩ 1 ak (bo l 0)]:=(Sp.refl h).nil 3 1 ak;refine av (λt:Sl×Nat=>(t.1,(t.2:Int))) (λt h'=>t.2<=ii l/\(l.take t.2).all (fm · 0 512)=eR/\Sp h h' [ae 3 t.1 1 ak (bo l t.2)]) (λt=>ii l-t.2) (⟨eH,0,0⟩,0) i0 ⟨i9,i9,w⟩ ?_;rintro⟨o,i⟩ F ⟨E,b,d⟩;dsimp only at*;have f:∀(a:i<ii l),fm l[i] 0 512=eS->eU l=([],eS):=λa g=>by
  unfold eU;rw[g0];intro x;have:=q7.1 x _ (qg a);rw[g]at this;cases this
 refine ac (λe=>?_) (λe=>?_)
 ·have a:i<ii l:=i4
  have y:=pd l i;refine(Seq.up m d.ag).bD i i0 a l[i] i0 ?_;refine bc (ac (λj=>?_) λj=>ac (λe2=>?_) λe2=>?_)
  ·have g:=f a n8;rw[g];exact⟨⟨eH,0,0⟩,i0,(d.cu []).nil 3 1 ak⟩
  ·have g:=f a n8;rw[g];exact⟨⟨eH,0,0⟩,i0,(d.cu []).nil 3 1 ak⟩
  ·have c:(l.take (i+1)).all (fm · 0 512)=eR:=by rw[aH l i a,vj,b,wA,List.all_cons,List.all_nil,Bool.and_true];unfold fm;simp;omega
   refine ac (λn=>?_) (λn=>?_)
   ·refine d.push an 0 i0 fS i0 i5 (λ_=>rfl) eJ (i:Int) i0 i5 i4 λq B A=>?_;refine⟨(q,i+1),jj,⟨i6,c,?_⟩,i6⟩;dsimp only;rw[Do l i a,f9 i4];exact A
   ·refine⟨(o,i+1),jj,⟨i6,c,?_⟩,i6⟩;dsimp only;rw[Do l i a,g0 i4,qM];exact d
 ·have k:i=ii l:=i4
  subst k;rw[qV]at b;have z:=(d.own 0 i0).len;have u:eU l=(bo l l.length,decide (ii l<=64)&&decide (0<ii (bo l l.length))):=by unfold eU;rw[f9 b]
  rw[u];refine ac (λj=>⟨o,?_,d⟩) (λj=>⟨o,?_,d⟩)
  ·dsimp only;rw[g9 (show l.length<=64 by omega),wA];congr 4;refine congrArg Value.bool ?_;rw[decide_eq_decide];omega
  ·dsimp only;rw[hU (show¬ii l<=64 by omega),Bool.false_and]
variable {B:aA} {h0 h:f8} {As:List HP} {a pw:eY} {offs:Int} {da:List bm} {w:Pow} {ds:aE}
theorem gg(x:bX)(m:aC)(g:dH h x m)(f:dh m)(H:aa B h0 h (bh bw a pw (aS x) offs da w ds::As)):
  aq xD 9 #[xv (dB a)] h λv h'=>∃r:Sl,v=r/\Sp h h' [ae 3 r 1 ak (aQ ds m.drives)]:=by
 refine Ci (dB a) ?_;obtain⟨ok,c⟩:=aa.dl H;have b:=f.dr;refine bA (λe=>j0) λ_=>⟨a,i0,x.2.2.2.2.2.2.1,c.cell i0,(Jx _ m.drives g.drives i4 H).mono ?_⟩;rintro _ i ⟨r,rfl,d⟩;exact⟨r,i0,r,i0,d⟩
theorem Lv(x:bX)(m:aC)(l:dH h x m)(i:dh m)(H:aa B h0 h (bh bw a pw (aS x) offs da w ds::As)):
  aq xD 8 #[xv (dB a)] h λv h'=>∃y:bX,v=fT y/\Sp h h' [bS y m]:=by
 refine mR (dB a) ?_;obtain⟨ok,d⟩:=aa.dl H;refine(Sp.refl h).alloc an i0 λo k b=>?_;have c:=d.ag b.ag d.lt;refine bA (λe=>j0) λ_=>⟨a,i0,x,c.aP _ i0,(Jw x m k (l.up b.ag) i).mono ?_⟩;rintro _ n ⟨y,rfl,j⟩;have g:=b.comp j;refine⟨y,i0,?_⟩;refine g.store an 0 i0 i0 0 (aS y) i0 i0 i0 j7 λh3 f=>?_;exact⟨y,(f.box 0 i0).aP _ i0,y,i0,f.cu [1]⟩
end Go.Qw
namespace Go.Vc
open Go Wl
def fd(w:Pow)(offs:Int):Bool:=w.off||w.offs !=offs
end Go.Vc
namespace Go.Qw
open Go Go.Vc Go.Proofs Wl
variable {B:aA} {h0 h:f8} {As:List HP} {a pw:eY} {mc:ba} {offs:Int} {da:List bm} {w:Pow} {ds:aE}
theorem aa.adJ(H:aa B h0 h (bh bw a pw mc offs da w ds::As)):∃l,Jt w l/\cw h pw 121 (powC w l):=by obtain⟨ok,c⟩:=Go.Vc.aa.oc H;have b:=c.rest;obtain⟨l,d,e⟩:=aa.Bh b;exact⟨l,d,e.box 0 i0⟩
theorem pV(H:aa B h0 h (bh bw a pw mc offs da w ds::As)):
  aq xD 52 #[xv (dB a)] h λv h'=>v=xx (fd w offs)/\h'=h:=by
 refine Cj (dB a) ?_;obtain⟨ok,c⟩:=aa.dl H;obtain⟨l,i,f⟩:=aa.adJ H;have d:f7 h (a.add 8)=dB (xv (dB pw)):=c.cell (PX ok.l8);have g:f7 h (a.add 9)=dB (xt xz offs):=c.cell (Vq ok.l8);refine bA (λ_=>?_) (λe=>j0);refine⟨a,i0,dB pw,d,(Gd l f).mono ?_⟩;rintro _ _ ⟨rfl,rfl⟩;refine⟨_,i0,trivial,bi (λe=>⟨trivial,?_⟩) λe=>?_⟩
 ·have b:w.off=eR:=l7
  exact⟨by unfold fd;rw[b];rfl,i0⟩
 ·have b:w.off=eS:=l7
  refine⟨a,i0,dB pw,d,a,i0,offs,g,(Ml l f).mono ?_⟩;rintro _ _ ⟨rfl,rfl⟩;exact⟨_,i0,⟨g,trivial⟩,by unfold fd;rw[b];rfl,i0⟩
theorem ND(H:aa B h0 h (bh bw a pw mc offs da w ds::As)):
  aq xD 19 #[xv (dB a)] h λv h'=>v=xv (dB pw)/\h'=h:=by
 refine AV (dB a) ?_;obtain⟨ok,b⟩:=aa.dl H;exact bA (λe=>j0) λ_=>⟨a,i0,dB pw,b.cell (PX ok.l8),i0,i0⟩
end Go.Qw
namespace Go.Vc
open Go Wl
variable {k:Kit} {B:aA} {h0 h:f8} {As:List HP} {a pw:eY} {mc:ba} {offs:Int} {w:Pow}
theorem aa.afi(H:aa B h0 h As):∀n,aa B h0 h (qh n emp++As)
 |0=>H
 |n+1=>(((aa.afi H n).comp (.one (A:=emp) (aZ.refl _ _) trivial)).bv:aa B h0 h (emp::(qh n emp++As)))
theorem aa.Yd(h8:ii mc=8)(H:aa B h0 h (al a k.tS (cQ mc pw offs (qh 64 eH))::dv k.tP pw w::As)):aa B h0 h (bh k a pw mc offs (qh 64 eH) w (qh 64 eH)::As):=by
 have ok:gm mc (qh 64 eH) (qh 64 (eH:Option bj)):=⟨h8,i9,i9,λi=>by
  simp only[qe,wj];split<;>rfl⟩
 have f:gf k pw (qh 64 eH) (qh 64 (eH:Option bj))=qh 64 emp:=by simp[gf,afg]
 refine aa.ou ok ?_;rw[f];have e:=aa.afi H 64;refine e.pick (λi=>if i=0 then 64 else if i=1 then 65 else if i<66 then i-2 else i) (λx y b=>by(try dsimp only at b);split at b<;>split at b<;>(try split at b)<;>(try split at b)<;>(try split at b)<;>(try split at b)<;>omega) λi A d=>?_;rcases i with _|_|i
 ·simpa using d
 ·simpa using d
 ·by_cases g:i<64
  ·have c:(qh 64 emp++As)[i]?=dB A:=d;rw[qo m4]at c
   try dsimp only
   rw[g0 i4,g0 i4,f9 i4,qo i7];simpa using c
  ·have c:(qh 64 emp++As)[i]?=dB A:=d;rw[qj i7]at c
   try dsimp only
   rw[g0 i4,g0 i4,g0 i4,qj i7];simp only[List.length_replicate]at c⊢;obtain⟨j,rfl⟩:∃j,i=j+64:=⟨i-64,i4⟩
   have e2:j+64+1+1-64=j+1+1:=i4
   rw[e2];simpa using c
end Go.Vc
namespace Go.Qw
open Go Go.Vc Go.Proofs Wl
theorem Ye(x:bX)(pw:eY)(offs:Int):aK xD (Instr.build 91 #[(0,fT x),(1,xv (dB pw)),(2,xt xz offs)]) (xy (cQ (aS x) pw offs (qh 64 eH)).toArray):=
 DP an (i:=_) i0 i0 i0 (vs:=[(0,fT x),(1,xv (dB pw)),(2,xt xz offs)]) (cells:=(cQ (aS x) pw offs (qh 64 eH)).toArray) j1
end Go.Qw
namespace Go.Vc
open Go Wl
variable {k:Kit} {B:aA} {h0 h:f8} {As:List HP} {a pw b:eY} {mc:ba} {offs:Int} {da:List bm} {w:Pow} {ds:aE} {d:bj} {n:Nat}
theorem Mr(h8:ii mc=8):(cQ mc pw offs da).set (10+n) (xv (dB b))=cQ mc pw offs (da.set n (dB b)):=by unfold cQ;rw[qX _ _ i4,h8,show 10+n-8=n+1+1 by omega,zA,zA,List.map_set]
theorem aa.adK(ok:gm mc da ds)(F:n<64)(x:ds[n]?=dB eH)(H:aa B h0 h (al a k.tS (cQ mc pw offs (da.set n (dB b)))::dv k.tP pw w::(gf k pw da ds++(iw k.tD (k.f pw) b d::As)))):aa B h0 h (bh k a pw mc offs (da.set n (dB b)) w (ds.set n (dB d))::As):=by
 have s:=ok.XY F x;have t:=ok.la;have m:=ok.ls;have o:gm mc (da.set n (dB b)) (ds.set n (dB d)):=⟨ok.l8,by simp[t],by simp[m],λi=>by
  by_cases c:n=i
  ·subst c;rw[qe,qe,zj i4,zj i4];rfl
  ·have:=ok.same i;rw[qe,qe]at this⊢;rw[zC c,zC c];exact this⟩
 have r:=CC (k:=k) (pw:=pw) ok;have v:(gf k pw da ds)[n]?=dB emp:=by simp only[gf,wg,s,x];rfl
 have g:gf k pw (da.set n (dB b)) (ds.set n (dB d))=(gf k pw da ds).set n (iw k.tD (k.f pw) b d):=by
  apply zI;intro j;simp only[gf,zb,wg,y9];by_cases l:n=j
  ·subst l;rw[f9 i0,f9 i4,f9 i0,f9 i4,f9 i0,f9 i4];rfl
  ·simp[l]
 refine aa.ou o ?_;rw[g];obtain⟨L,p⟩:∃L,L=gf k pw da ds:=⟨_,rfl⟩
 rw[<-p]at H v r⊢;have u:=H.cons (ii L+2) (A:=iw k.tD (k.f pw) b d) (by
  rw[qy,qy,qj (qm _),ze];rfl)
 have e:(al a k.tS (cQ mc pw offs (da.set n (dB b)))::dv k.tP pw w::(L++(iw k.tD (k.f pw) b d::As))).set (ii L+2) emp=al a k.tS (cQ mc pw offs (da.set n (dB b)))::dv k.tP pw w::(L++(emp::As)):=by rw[zA,zA,qX _ _ (qm _),ze];rfl
 rw[e]at u;have y:=u.aT 3 [0,2,1];have q:L.set n emp=L:=by
  obtain⟨I,E⟩:=qn.1 v
  conv=>lhs;rw[<-E]
  exact List.set_getElem_self I
 have D:aa B h0 h (iw k.tD (k.f pw) b d::dv k.tP pw w::al a k.tS (cQ mc pw offs (da.set n (dB b)))::(L.set n emp++(emp::As))):=by rw[q];exact y
 have G:=aa.Gg n i4 D;have z:=aa.closeAll (al a k.tS (cQ mc pw offs (da.set n (dB b)))::dv k.tP pw w::L.set n (iw k.tD (k.f pw) b d)) G;exact aa.og (L:=al a k.tS (cQ mc pw offs (da.set n (dB b)))::dv k.tP pw w::L.set n (iw k.tD (k.f pw) b d)) z.oD
open Go Wl Go.Qw
def cE(p:Pm)(extra:Int)(l:aw):aC:=⟨1,0,p,extra,bo l l.length,[]⟩
def im(l:aw)(k:Nat):aE:=(qz 64).map λi:Nat=>if(i:Int)∈(bo l l.length).take k then dB (bj.new (l.getD i 0).toNat)else eH
def gh(p:Pm)(extra:Int)(w:Pow)(l:aw):Int×Pow×aE:=
 if(eU l).2&&(bM p&&fm extra 0 16)then
  if(bo l l.length).any λi=>decide (l.getD i.toNat 0<(ii (bn (cE p extra l)):Int))then(7,w,[])
  else layAll (bJ (cE p extra l) (bo l l.length)) w (im l (bo l l.length).length)
 else(1,w,[])
theorem Qc(l:aw):im l 0=qh 64 eH:=by
 unfold im;rw[List.take_zero];apply zI;intro j;simp only[qR,wj,zt,List.not_mem_nil,if_false];by_cases h:j<64
 ·simp[h,zt]
 ·simp[h]
theorem Ss(l:aw)(k:Nat):ii (im l k)=64:=by simp[im]
theorem Qd(l:aw)(k n:Nat)(e:k<ii (bo l l.length))(d:(bo l l.length)[k]=(n:Int))(b:n<64):(im l k).set n (dB (bj.new (l.getD n 0).toNat))=im l (k+1):=by
 apply zI;intro j;unfold im;rw[aH _ _ e,d,zb,qx,zF];by_cases c:j<64
 ·simp only[qR,zt c,q9,qA,qB];by_cases a:n=j
  ·subst a;rw[f9 i0,f9 b,f9 (Or.inr i0)]
  ·rw[g0 a];have:¬(j:Int)=(n:Int):=i4
   simp only[this,or_false]
 ·rw[g0 i4];rw[qP i7,qP i7]
theorem uv(l:aw)(k:Nat)(x:Int):x∈bo l k↔∃n:Nat,n<k/\x=(n:Int)/\0<l.getD n 0:=by
 unfold bo;rw[qH,qu];constructor
 ·rintro⟨⟨n,a,rfl⟩,b⟩;exact⟨n,qJ.1 a,i0,j6⟩
 ·rintro⟨n,a,rfl,b⟩;exact⟨⟨n,qJ.2 a,i0⟩,j6⟩
theorem Su(l:aw)(k i:Nat)(a:i<ii (bo l k)):∃n:Nat,n<k/\(bo l k)[i]=(n:Int)/\0<l.getD n 0:=(uv l k _).1 (qg a)
end Go.Vc
namespace Wl
open Go
def gw(p:Int×Int×Int):Nat:=(p.1*p.2.2).toNat
def CE(a:Nat)(b:aV)(i:Nat):aV:=(b.drop (i*a)).take a++(qh a 0).drop (b.drop (i*a)).length
theorem Ms(a:Nat)(b:aV)(i:Nat):ii (CE a b i)=a:=by unfold CE;simp;omega
def splitB(p:Int×Int×Int)(b:aV):cI:=(qz (countP p b.length).toNat).map (CE (gw p) b)
def JD(p:Int×Int×Int)(o b:Int)(n:Nat):Bool:=gc p (ck o b n) (fQ p)
def pf(p:Int×Int×Int)(o b:Int):Option Nat:=(qz 16).find? (JD p o b)
def dm(p:Int×Int×Int)(o:Int):Nat->Option (aw)
 |0=>dB []
 |n+1=>(dm p o n).bind λl=>(pf p o n).map λt=>l++[(t:Int)]
theorem kC{p:Int×Int×Int}{o:Int}:∀{n:Nat} {l:aw},dm p o n=dB l->ii l=n
 |0,l,h=>by cases h;rfl
 |n+1,l,h=>by
  unfold dm at h;cases h1:dm p o n with
  |none=>rw[h1]at h;cases h
  |some k=>
   rw[h1]at h;cases h2:pf p o n with
   |none=>rw[h2]at h;cases h
   |some t=>
    rw[h2]at h;have h:dB (k++[(t:Int)])=dB l:=h;injection h with h
    rw[<-h,qw,kC h1];rfl
theorem ES{p:Int×Int×Int}{o b:Int}{t:Nat}(h:pf p o b=dB t):t<16/\JD p o b t=eR/\∀k,k<t->JD p o b k=eS:=by
 unfold pf at h;obtain⟨e,us,vs,d,h3⟩:=List.find?_eq_some_iff_append.1 h;have c:=congrArg vL d;have f:t=ii us:=by
  have:(qz 16)[ii us]?=dB t:=by rw[d,qj (qm _),ze];rfl
  rw[zt (by simp at c;omega)]at this;injection this with this;exact this.symm
 refine⟨by simp at c;omega,e,λk g=>?_⟩;have a:k∈us:=by
  have:(qz 16)[k]?=us[k]?:=by rw[d,qo i4]
  rw[zt (by simp at c;omega)]at this;exact yd this.symm
 simpa using h3 k a
theorem xU{p:Int×Int×Int}{o:Int}:∀{n:Nat} {l:aw},dm p o n=dB l->∀i (b:i<ii l),∃t:Nat,l[i]=(t:Int)/\pf p o i=dB t
 |0,l,h=>by cases h;intro i b;simp at b
 |n+1,l,h=>by
  unfold dm at h;cases h1:dm p o n with
  |none=>rw[h1]at h;cases h
  |some k=>
   rw[h1]at h;cases h2:pf p o n with
   |none=>rw[h2]at h;cases h
   |some t=>
    rw[h2]at h;have h:dB (k++[(t:Int)])=dB l:=h;injection h with h
    subst h;intro i b;have c:=kC h1;by_cases a:i<ii k
    ·rw[List.getElem_append_left a];exact xU h1 i a
    ·have:i=ii k:=by simp at b;omega
     subst this;refine⟨t,i9,?_⟩;rw[c];exact h2
end Wl
namespace Go.Qw
open Go Go.Vc Go.Proofs Wl
theorem Mt(p:Pm)(h:f8)(b:bM p=eR):aq xD 138 #[kb p] h λv h'=>v=xt xz (gw p)/\Sp h h' []:=by
 have c:=(cm p).1 b;refine Bb p ?_;refine(Sp.refl h).boxed λf h3 a=>⟨p.1,(a.box 0 i0).cell0 i0,p.2.2,(a.box 0 i0).cell i0,?_,a.cu []⟩
 have e:p.1*p.2.2<=16*24:=yC i4 i4 i4 i4;have d:0<=p.1*p.2.2:=vQ i4 i4;rw[af _];unfold gw;congr 1;omega
theorem ph{p:Pm}(a:bM p=eR):1<=gw p/\gw p<=384/\(gw p:Int)=p.1*p.2.2:=by have c:=(cm p).1 a;have d:p.1*p.2.2<=16*24:=yC i4 i4 i4 i4;have b:0<p.1*p.2.2:=Int.mul_pos i4 i4;unfold gw;omega
theorem ma{p:Pm}(a:bM p=eR)(n:Nat):0<=countP p n/\countP p n<=n/\∀i:Nat,(i:Int)<countP p n->i*gw p<n:=by
 obtain⟨e,f,b⟩:=ph a;unfold countP;rw[a,wA];by_cases h0:0<(n:Int)
 ·rw[g9 h0,f9 i0,<-b];have h:((n:Int)-1)/(gw p:Int)<=n-1:=Int.ediv_le_self _ i4;have j:0<=((n:Int)-1)/(gw p:Int):=Int.ediv_nonneg i4 i4;refine⟨i4,i4,λi c=>?_⟩;have h3:(i:Int)<=((n:Int)-1)/(gw p:Int):=i4
  have g:=(Int.le_ediv_iff_mul_le i4).1 h3;have d:((i*gw p:Nat):Int)=(i:Int)*(gw p:Int):=wV i (gw p);omega
 ·rw[hU h0,g0 i5];exact⟨i4,i4,λi c=>i4⟩
theorem Sv(p:Pm)(s:Sl)(b:aV)(h:f8)(g:bM p=eR)(q:Rd h s 1 aD b)(H:s.len<=s.cap)(W:ii b<=2^30):aq xD 139 #[kb p,s] h λv h'=>∃r:Sl,v=r/\Sp h h' [fG r (splitB p b)]:=by
 refine Jg p s ?_;have c:=q.len;obtain⟨P,R,Q⟩:=ph g;obtain⟨S,T,c3⟩:=ma g b.length;refine(Sp.refl h).boxed λk N l=>?_;refine⟨p,(l.box 0 i0).aP _ i0,?_⟩;refine(Cx p s.len N).mono ?_;rintro _ G ⟨rfl,J⟩;have u:=l.up J.ag;refine⟨_,i0,?_⟩;obtain⟨n,K⟩:∃n:Nat,n=(countP p b.length).toNat:=⟨_,rfl⟩
 have d:(countP p (s.len:Nat))=(n:Int):=by rw[c];omega
 rw[d];have L:ii (splitB p b)=n:=by unfold splitB;rw[<-K];simp
 have a:Sp h G [fG ⟨eH,0,0⟩ ((splitB p b).take 0),al k 26 [xt xz p.1,xt xz p.2.1,xt xz p.2.2]]:=u.Aj 71 5 1 aD;refine av (λt:Sl×Nat=>(t.1,(t.2:Int))) (λt h'=>t.2<=n/\Sp h h' [fG t.1 ((splitB p b).take t.2),al k 26 [xt xz p.1,xt xz p.2.1,xt xz p.2.2]]) (λt=>n-t.2) (⟨eH,0,0⟩,0) i0 ⟨i9,a⟩ ?_;rintro⟨o,i⟩ h3 ⟨X,a⟩;dsimp only at*;refine ac (λe=>?_) (λe=>?_)
 ·have A:i<n:=i4
  have I:=c3 i (by rw[<-c,d];omega);refine⟨p,(a.box 1 i0).aP _ i0,(Mt p h3 g).mono ?_⟩;rintro _ V ⟨rfl,E⟩;have M:=a.up E.ag;refine⟨_,i0,M.Oa an aD gU i5 (0:UInt8) i0 i0 (gw p) (gw p) i0 i0 (qm _) i4 λv z O U f=>?_⟩;have f:=f.bv;refine⟨p,(f.box 2 i0).aP _ i0,(Mt p z g).mono ?_⟩;rintro _ Y ⟨rfl,y⟩;have m:=f.up y.ag;refine⟨_,i0,?_⟩;have em:qc xz ((i:Int)*(gw p:Int))=((i*gw p:Nat):Int):=by rw[<-wV,af _]
  dsimp only;rw[em,ql];refine⟨⟨i4,i4⟩,?_⟩;have F:=(Seq.up q m.ag).drop (i*gw p) H;refine m.IE an 0 i0 gU (λ_=>rfl) (v:=⟨_,s.len-i*gw p,s.cap-i*gw p⟩) F iF λ_ D j=>?_;have j:Sp h D [ae 5 v 1 aD (CE (gw p) b i),fG o ((splitB p b).take i),al k 26 [xt xz p.1,xt xz p.2.1,xt xz p.2.2]]:=by simpa[CE]using j
  refine(j.aT 2 [1,0]).FN an fF i7 λB h8 x=>?_;refine⟨(B,i+1),jj,⟨i6,?_⟩,i6⟩;dsimp only;rw[aH _ _ (show i<ii (splitB p b) by omega)];have w:(splitB p b)[i]'(by omega)=CE (gw p) b i:=by simp[splitB]
  rw[w];exact x
 ·rw[qi i4]at a;exact⟨o,i0,a.cu [0]⟩
theorem mV(a b:UInt8):qc xA ((qE (qk xA) (a.toNat:Int)^^^qE (qk xA) (b.toNat:Int)).toNat:Nat)=((a^^^b).toNat:Int):=by
 have e:∀a:UInt8,qE (qk xA) (a.toNat:Int)=a.toBitVec:=λa=>by
  apply BitVec.eq_of_toNat_eq;have:=w6 a;simp[qk]
 rw[e,e];have c:=(a.toBitVec^^^b.toBitVec).isLt;have:((a^^^b).toNat:Int)=((a.toBitVec^^^b.toBitVec).toNat:Int):=rfl;rw[this];show(((a.toBitVec^^^b.toBitVec).toNat:Nat):Int)%256=_;have:(a.toBitVec^^^b.toBitVec).toNat<256:=c;omega
def tri(a:UInt8):Nat->Int×Int×Int
 |0=>((a.toNat:Int),(3:Int),(0:Int))
 |1=>(((Gf.x2 a).toNat:Int),(1:Int),(a.toNat:Int))
 |_=>(((Gf.x2 (Gf.x2 a)).toNat:Int),(0:Int),((Gf.x3 a).toNat:Int))
theorem Sw(a:UInt8)(h:f8):aq xD 245 #[xt xA a.toNat,xt xA 3] h λv h'=>v=xt xA (Gf.x3 a).toNat/\h'=h:=by
 have e:∀n:Nat,n<256->
   ((qc xA ((qE (qk xA) (n:Int)&&&(qE (qk xA) (128:Int))).toNat:Nat)) !=(0:Int))=eR->qc xA ((qE (qk xA) (qc xA ((n:Int)*2^min (1:Int).toNat (qk xA)))^^^(qE (qk xA) (27:Int))).toNat:Nat)=((Gf.x2 (yJ n)).toNat:Int):=j4
 have c:∀n:Nat,n<256->
   ((qc xA ((qE (qk xA) (n:Int)&&&(qE (qk xA) (128:Int))).toNat:Nat)) !=(0:Int))=eS->qc xA ((n:Int)*2^min (1:Int).toNat (qk xA))=((Gf.x2 (yJ n)).toNat:Int):=j4
 refine PN _ _ ?_;refine av (tri a) (λt h'=>h'=h/\t<=2) (λt=>2-t) 0 i0 ⟨i0,i4⟩ ?_;rintro t h' ⟨rfl,f⟩;rcases(show t=0∨t=1∨t=2 by omega)with rfl|rfl|rfl
 ·rw[show tri a 0=((a.toNat:Int),(3:Int),(0:Int))from rfl];dsimp only;refine tK i5 (bc (DM i5 ?_));refine⟨i5,bc ?_⟩;refine bA (λd=>?_) (λd=>?_)
  ·rw[e _ (w6 a) d,yY];refine⟨i5,1,?_,⟨i0,i5⟩,i5⟩;have:=mV 0 a;simp only[wy]at this;exact y6 i0 (y6 i0 this)
  ·rw[c _ (w6 a) d,yY];refine⟨i5,1,?_,⟨i0,i5⟩,i5⟩;have:=mV 0 a;simp only[wy]at this;exact y6 i0 (y6 i0 this)
 ·rw[show tri a 1=(((Gf.x2 a).toNat:Int),(1:Int),(a.toNat:Int))from rfl];dsimp only;refine tK i5 (bc (DM i5 ?_));refine⟨i5,bc ?_⟩;refine bA (λd=>?_) (λd=>?_)
  ·rw[e _ (w6 (Gf.x2 a)) d,yY];refine⟨i5,2,?_,⟨i0,i5⟩,i5⟩;refine y6 i0 (y6 i0 ?_);have:=mV a (Gf.x2 a);rw[vq]at this;exact this
  ·rw[c _ (w6 (Gf.x2 a)) d,yY];refine⟨i5,2,?_,⟨i0,i5⟩,i5⟩;refine y6 i0 (y6 i0 ?_);have:=mV a (Gf.x2 a);rw[vq]at this;exact this
 ·exact DM (b:=(0:Int)==0) i5 ⟨i0,i0⟩
def jt:aw:=(qz 255).map λi=>((Gf.pw i).toNat:Int)
def pW:aw:=(qz 256).map λx=>if x=0 then 0 else((Gf.lg (yJ x):Nat):Int)
theorem ic:ii jt=255:=by simp[jt]
theorem uw:ii pW=256:=by simp[pW]
def df:ba:=jt.map (Sc.enc (.int .u8))++pW.map (Sc.enc (.int .i64))
abbrev fH(h:f8)(a:eY):Prop:=cw h a 238 df
theorem Lw(k:IntKind)(l:aw):(l.map (Sc.enc (.int k))).all (·.oneCell')=eR:=by rw[List.all_map,q7];intro x _;rfl
theorem Sx(h:f8):aq xD 173 #[] h λv h'=>v=xy (jt.map (Sc.enc (.int .u8))).toArray/\Sp h h' []:=by
 refine Nv ?_;refine(Sp.refl h).alloc an i0 λa t p=>?_;refine av (λi:Nat=>(((Gf.pw i).toNat:Int),(i:Int))) (λi h'=>i<=255/\Sp h h' [al a 233 (((qz 255).map λj=>if j<i then((Gf.pw j).toNat:Int)else 0).map (Sc.enc (.int .u8)))]) (λi=>255-i) 0 i0 ⟨i4,?_⟩ ?_
 ·have e:((qz 255).map λj=>if j<0 then((Gf.pw j).toNat:Int)else 0).map (Sc.enc (.int .u8))=qh 255 (xt xA 0):=by simp;rfl
  rw[e];exact p
 ·rintro i q ⟨s,f⟩;refine ac (λm=>?_) (λk=>?_)
  ·dsimp only at m;refine⟨⟨i6,i6⟩,?_⟩;dsimp only;rw[show((i:Int).toNat*1)=i by omega];refine f.storeAt an 0 i0 i0 i0 i0 i0 i7 λh3 g=>?_;refine(Sw (Gf.pw i) h3).mono ?_;rintro v r ⟨rfl,rfl⟩;refine⟨_,i0,i+1,?_,⟨i4,?_⟩,i4⟩
   ·rw[af _];rfl
   ·have e:((((qz 255).map λj=>if j<i then((Gf.pw j).toNat:Int)else 0).map (Sc.enc (.int .u8))).set i (xt xA (Gf.pw i).toNat))=(((qz 255).map λj=>if j<i+1 then((Gf.pw j).toNat:Int)else 0).map (Sc.enc (.int .u8))):=by
     apply zI;intro j;simp only[zb,qR,qx,zF];by_cases b:i=j
     ·subst b;have:i<255:=i4
      simp[this]
     ·by_cases c:j<255
      ·simp only[b,if_false,zt c,q9];by_cases d:j<i
       ·rw[f9 d,f9 i4]
       ·rw[g0 d,g0 i4]
      ·simp[b,c]
    rw[<-e];exact g
  ·have l:i=255:=by dsimp only at k;omega
   subst l;have e:((qz 255).map λj=>if j<255 then((Gf.pw j).toNat:Int)else 0)=jt:=by unfold jt;apply wE;intro j b;rw[f9 (qJ.1 b)]
   rw[e]at f;have o:=f.box 0 i0;refine⟨jt,⟨ic,o.aP _ n5⟩,?_⟩;refine f.storeAll an 0 i0 i0 (jt.map (Sc.enc (.int .u8))) i0 (by rw[qx,ic]) (Lw _ _) i0 λh3 g=>?_;have n:=g.box 0 i0;exact⟨jt,⟨ic,n.aP _ n5⟩,i0,.zip g.ag⟩
theorem Yf(h:f8):aq xD 174 #[xy (jt.map (Sc.enc (.int .u8))).toArray] h λv h'=>v=xy (pW.map (Sc.enc (.int .i64))).toArray/\Sp h h' []:=by
 refine Se jt ?_;refine(Sp.refl h).boxed λa E s=>?_;refine s.alloc an i0 λz A p=>?_;have l:=p.box 0 i0;refine⟨jt,⟨ic,l.aP _ (by show List.take _ (jt.map _)=_;rw[qi (qm _)])⟩,?_⟩;let L:Nat->aw:=λi=>(qz 256).map λx=>if x≠0/\Gf.lg (yJ x)<i then((Gf.lg (yJ x):Nat):Int)else 0
 refine av (λi:Nat=>(i:Int)) (λi h'=>i<=255/\Sp h h' [emp,al z 235 ((L i).map (Sc.enc (.int .i64)))]) (λi=>255-i) 0 i0 ⟨i4,?_⟩ ?_
 ·have e:(L 0).map (Sc.enc (.int .i64))=qh 256 (xt xz 0):=by simp[L];rfl
  rw[e];exact p.gb 0 i0 λ_ _=>trivial
 ·rintro i h3 ⟨B,g⟩;refine ac (λy=>?_) (λt=>?_)
  ·have c:i<255:=i4
   have r:=w6 (Gf.pw i);refine⟨((Gf.pw i).toNat:Int),⟨i4,i4,by simp[jt,c]⟩,⟨i4,i4⟩,?_⟩;rw[show(((Gf.pw i).toNat:Int).toNat*1)=(Gf.pw i).toNat by omega];refine g.storeAt an 1 i0 i0 i0 i0 i0 (by simp[L];omega) λw k=>?_;refine⟨i+1,js,⟨i4,?_⟩,i4⟩;have e:((L i).map (Sc.enc (.int .i64))).set (Gf.pw i).toNat (xt xz i)=(L (i+1)).map (Sc.enc (.int .i64)):=by
    apply zI;intro j;simp only[zb,qR,qx,zF,L];by_cases f:(Gf.pw i).toNat=j
    ·subst f;simp only[if_true,zt r,q9,r];have n:(Gf.pw i).toNat≠0:=λh0=>Gf.UH i c (wT.1 h0);rw[yY,Gf.UG i c,f9 ⟨n,i4⟩]
    ·by_cases d:j<256
     ·simp only[f,if_false,zt d,q9];by_cases b:j=0
      ·simp[b]
      ·have D:Gf.lg (yJ j)≠i:=λh0=>by
        apply f;rw[<-h0,Gf.UF _ λu=>b (by have:=congrArg UInt8.toNat u;simpa[wi d]using this)];simp[wi d]
       by_cases o:Gf.lg (yJ j)<i
       ·rw[f9 ⟨b,o⟩,f9 ⟨b,i4⟩]
       ·rw[g0 λq=>o q.2,g0 λq=>o i4]
     ·simp[f,d]
   rw[<-e];exact k
  ·have c:i=255:=i4
   subst c;have e:L 255=pW:=by
    unfold pW;apply wE;intro j f;by_cases b:j=0
    ·simp[b]
    ·rw[f9 ⟨b,Gf.IG _⟩,g0 b]
   rw[e]at g;have l:=g.box 1 i0;refine⟨pW,⟨uw,l.aP _ n5⟩,?_⟩;refine g.storeAll an 1 i0 i0 (pW.map (Sc.enc (.int .i64))) i0 (by rw[qx,uw]) (Lw _ _) i0 λw k=>?_;have m:=k.box 1 i0;exact⟨pW,⟨uw,m.aP _ n5⟩,i0,.zip k.ag⟩
theorem pi(h:f8):aq xD 109 #[] h λv h'=>∃a:eY,v=xv (dB a)/\Sp h h' [al a 238 df]:=by
 refine Vm ?_;refine(Sx h).mono ?_;rintro v u ⟨rfl,o⟩;refine⟨jt,i0,?_⟩;refine o.alloc an i0 λa s m=>?_;refine m.storeAll an 0 i0 i0 (jt.map (Sc.enc (.int .u8))) i0 (by rw[qx,ic]) (Lw _ _) (by rw[qx,ic];rfl) λh3 j=>?_;have f:=j.box 0 i0;have d:aj h3 a 0 (jt.map (Sc.enc (.int .u8))):=f.aP _ n5;refine⟨jt,⟨ic,d⟩,jt,⟨ic,d⟩,?_⟩;refine(Yf h3).mono ?_;rintro v t ⟨rfl,l⟩;refine⟨pW,i0,nA.2 ⟨(l.ag).cells f.lt d,trivial⟩,_,DP an (i:=_) i0 i0 i0 (cells:=df.toArray) ?_,?_⟩
 ·have b:∀z:ba,ii z=511->wF (λn=>[(0,255),(255,256)][n]?) z.toArray [(0,xy (jt.map (Sc.enc (.int .u8))).toArray),(1,xy (pW.map (Sc.enc (.int .i64))).toArray)]=dB df.toArray:=by
   intro z b;have e:z=[]++z.take 255++z.drop 255:=i9
   conv=>lhs;rw[e]
   rw[OD (vs:=jt.map (Sc.enc (.int .u8))) i0 (by simp[ic]) (by simp[ic,b])];have e2:[]++jt.map (Sc.enc (.int .u8))++z.drop 255=jt.map (Sc.enc (.int .u8))++z.drop 255++[]:=i9
   rw[e2,OD (vs:=pW.map (Sc.enc (.int .i64))) i0 (by simp[ic,uw]) (by simp[uw,b])];simp[wF,df]
  exact b _ i0
 ·have q:(Value.agg df.toArray).cells.toList=df:=rfl;refine(j.comp l).boxed λp r g=>?_;have c:=g.box 0 i0;exact⟨nA.2 ⟨c.aP _ n5,trivial⟩,p,i0,g.take 1 λi A k=>by cases i with|zero=>exact k|succ i=>simp at k⟩
theorem ET{h:f8}{a:eY}(c:fH h a)(n:Nat)(b:n<255):f7 h (a.add n)=dB (xt xA (Gf.pw n).toNat):=
 c.cell (by rw[df,qo (by simp[ic,b])];simp[jt,b])
theorem EU{h:f8}{a:eY}(c:fH h a)(x:UInt8)(f:x≠0):f7 h ((a.add 255).add x.toNat)=dB (xt xz (Gf.lg x)):=by
 have d:=c.addr;have e:(a.add 255).add x.toNat=a.add (255+x.toNat):=by rw[d,add_eq,add_eq,add_eq];congr 1;omega
 rw[e];refine c.cell ?_;have b:=w6 x;have h0:x.toNat≠0:=λh0=>f (wT.1 h0);rw[df,qj (by simp[ic])];simp[ic,pW,b,h0]
theorem pX(a:eY)(h:f8):aq xD 247 #[xv (dB a)] h λv h'=>v=xv (dB a)/\h'=h:=by refine HQ (dB a) ?_;exact tK i0 ⟨i0,i0⟩
theorem sk(a:eY)(h:f8):aq xD 243 #[xv (dB a)] h λv h'=>v=xv (dB a)/\h'=h:=by refine PM (dB a) ?_;exact tK i0 ⟨i0,i0⟩
theorem NE(a:eY)(h:f8):aq xD 338 #[xv (dB a)] h λv h'=>v=xv (dB a)/\h'=h:=by refine PP (dB a) ?_;exact tK i0 ⟨i0,i0⟩
theorem AB{x:UInt8}:((x.toNat:Int)=0)↔x=0:=⟨λh=>wT.1 j5,λh=>by rw[h];rfl⟩
theorem Ia(a:eY)(x y:UInt8)(h:f8)(d:fH h a):aq xD 294 #[xv (dB a),xt xA x.toNat,xt xA y.toNat] h λv h'=>v=xt xA (Gf.mul x y).toNat/\h'=h:=by
 refine HS (dB a) _ _ ?_;refine bc ?_;refine cy (λh0=>⟨by rw[Gf.mul,f9 (.inl (AB.1 h0))];rfl,i0⟩) λi=>?_;refine cy (λh0=>⟨by rw[Gf.mul,f9 (.inr (AB.1 h0))];rfl,i0⟩) λg=>?_;have b:x≠0:=λh0=>i (AB.2 h0);have c:y≠0:=λh0=>g (AB.2 h0);refine(pX a h).mono ?_;rintro v k ⟨rfl,rfl⟩;have l:=w6 x;have j:=w6 y;have l1:=Gf.IG x;have l2:=Gf.IG y;refine⟨dB a,i0,a,i0,⟨i4,i4⟩,(Gf.lg x:Int),?_,a,i0,⟨i4,i4⟩,(Gf.lg y:Int),?_,i5,a,i0,?_⟩
 ·rw[show((x.toNat:Int).toNat*1)=x.toNat by omega];exact EU d x b
 ·rw[show((y.toNat:Int).toNat*1)=y.toNat by omega];exact EU d y c
 rw[af _];have e:wo ((Gf.lg x:Int)+(Gf.lg y:Int)) 255=(((Gf.lg x+Gf.lg y)%255:Nat):Int):=by rw[yQ i4];rfl
 rw[e];have f:=vm (Gf.lg x+Gf.lg y) (show 255>0 by decide);refine⟨⟨i4,i4⟩,_,?_,by rw[Gf.mul,g0 (by simp[b,c])],i0⟩;rw[show((((Gf.lg x+Gf.lg y)%255:Nat):Int).toNat*1)=(Gf.lg x+Gf.lg y)%255 by omega];exact ET d _ f
theorem aaQ(a:eY)(x:UInt8)(h:f8)(d:fH h a):aq xD 302 #[xv (dB a),xt xA x.toNat] h λv h'=>v=xt xA (Gf.inv x).toNat/\h'=h:=by
 refine HT (dB a) _ ?_;refine cy (λh0=>⟨by rw[Gf.inv,f9 (AB.1 h0)];rfl,i0⟩) λf=>?_;have b:x≠0:=λh0=>f (AB.2 h0);refine(pX a h).mono ?_;rintro v i ⟨rfl,rfl⟩;have g:=w6 x;have l1:=Gf.IG x;refine⟨dB a,i0,a,i0,⟨i4,i4⟩,(Gf.lg x:Int),?_,i5,a,i0,?_⟩
 ·rw[show((x.toNat:Int).toNat*1)=x.toNat by omega];exact EU d x b
 rw[af _];have e:wo (255-(Gf.lg x:Int)) 255=(((255-Gf.lg x)%255:Nat):Int):=by rw[yQ i4];omega
 rw[e];have c:=vm (255-Gf.lg x) (show 255>0 by decide);refine⟨⟨i4,i4⟩,_,?_,by rw[Gf.inv,g0 b],i0⟩;rw[show((((255-Gf.lg x)%255:Nat):Int).toNat*1)=(255-Gf.lg x)%255 by omega];exact ET d _ c
theorem aaR(a:eY)(n:Int)(h:f8)(g:fH h a):aq xD 181 #[xv (dB a),xt xz n] h λv h'=>v=xt xA (Gf.pw (n%255).toNat).toNat/\h'=h:=by
 refine HL (dB a) n ?_;have j:=vG n (show(0:Int)<255 by decide);have i:-255<n.tmod 255:=Int.lt_tmod_of_pos n i5;have b:=OC n 255 i5;have c:=Int.emod_nonneg n (show(255:Int)≠0 by decide);have d:=Int.emod_lt_of_pos n (show(0:Int)<255 by decide);refine⟨i5,bT (λs h'=>s=n%255/\h'=h) ?_ ?_⟩
 ·refine ac (λe=>?_) (λf=>?_)
  ·rw[f9 e]at b;exact⟨by rw[af _,b],i0⟩
  ·rw[g0 f]at b;exact⟨b.symm,i0⟩
 ·rintro s h' ⟨rfl,rfl⟩;refine(pX a h').mono ?_;rintro v i ⟨rfl,rfl⟩;refine⟨dB a,i0,a,i0,⟨c,d⟩,_,?_,i0,i0⟩;rw[z8];exact ET g _ i4
theorem kj(p:Pm)(h:f8):aq xD 116 #[kb p] h λv h'=>v=xt xz (bG p)/\Sp h h' []:=by refine PC p ?_;refine(Sp.refl h).boxed λa g d=>?_;refine⟨p,(d.box 0 i0).aP _ i0,?_⟩;refine(eT p g).mono ?_;rintro v i ⟨rfl,f⟩;have b:=d.comp f;have c:=b.box 0 i0;refine⟨_,i0,bi (λe=>⟨by simp[bG,e],.zip b.ag⟩) λe=>?_⟩;refine⟨_,c.cell0 i0,_,c.cell i0,?_,.zip b.ag⟩;have:=(cm p).1 e;rw[af _,bG,f9 e]
theorem Yg(n i:Int)(h:f8):aq xD 180 #[xt xz n,xt xz i] h λv h'=>∃s:Sl,v=s/\
  Sp h h' [ae 5 s 1 aD (if 1<=n/\n<=64/\0<=i/\i<n then(qh n.toNat (0:UInt8)).set i.toNat 1 else[])]:=by
 refine PI n i ?_;have a:∀c:Prop,¬c->[Decidable c]->Sp h h [ae 5 ⟨eH,0,0⟩ 1 aD (if c then(qh n.toNat (0:UInt8)).set i.toNat 1 else[])]:=λc b _=>by
  rw[g0 b];exact(Sp.refl h).nil 5 1 aD
 refine bc ?_;refine ac (λe=>⟨⟨eH,0,0⟩,i0,a _ i4⟩) λj=>?_;refine ac (λe=>⟨⟨eH,0,0⟩,i0,a _ i4⟩) λe2=>?_;refine ac (λe=>⟨⟨eH,0,0⟩,i0,a _ i4⟩) λg=>?_;refine ac (λe=>⟨⟨eH,0,0⟩,i0,a _ i4⟩) λk=>?_;refine(Sp.refl h).make an aD ⟨_,_,i0,i0,i0,i0,i0,i0⟩ i5 0 i0 i0 n.toNat n.toNat i4 i4 (qm _) i4 λs o m b f=>?_;refine f.set an 0 i0 (λ_=>rfl) i0 i.toNat i4 i7 1 i0 i0 i0 λl d=>?_;refine⟨s,i0,?_⟩;rw[f9 i4];exact d
theorem NF(s:Int)(h:f8):aq xD 232 #[xt xB s] h λv h'=>∃a:eY,v=xv (dB a)/\Sp h h' [al a 369 [xt xC (qc xC s)]]:=by refine PL s ?_;exact(Sp.refl h).boxed λa c b=>⟨a,i0,b⟩
theorem Bn(a:eY)(s:Int)(h:f8)(d:cw h a 369 [xt xC s]):aq xD 233 #[xv (dB a)] h λv h'=>v=xt xB (told s)/\cw h' a 369 [xt xC (Da s)]/\aZ (·≠a.block) h h':=by refine EG (dB a) ?_;refine tK i0 ⟨a,i0,s,d.cell0 i0,a,i0,?_⟩;refine BI an d i0 _ i0 i0 i0 (qm _) λe b c _=>?_;exact⟨a,i0,_,b.cell0 i0,i5,i0,b,c⟩
theorem JE(a:eY)(s n:Int)(h:f8)(d:cw h a 369 [xt xC s])(g:0<n:=by omega)(f:n<=2^62:=by omega):aq xD 296 #[xv (dB a),xt xz n] h λv h'=>v=xt xz (lW s n)/\cw h' a 369 [xt xC (Da s)]/\aZ (·≠a.block) h h':=by refine DA (dB a) n ?_;refine bc (tK i0 (ac (λe=>i4) λ_=>?_));refine(Bn a s h d).mono ?_;rintro v i ⟨rfl,b,c⟩;exact⟨_,i0,o9,i0,b,c⟩
theorem TX(a b:Nat)(d:a<=2^40)(c:b<=2^40):qc xz ((a:Int)+(b:Int))=((a+b:Nat):Int):=by rw[af _];rfl
theorem Yh(l:Nat)(h:f8)(f:l<=20):aq xD 336 #[xt xz l] h λv h'=>v=xt xz (fB l)/\h'=h:=by
 have g:∀l:Nat,l<=20->∀r:Nat,r<=5->(∀j,j<r->j*j<l)->r*r<l->r<5:=i5
 have n:∀l:Nat,l<=20->∀r:Nat,r<=5->(∀j,j<r->j*j<l)->¬r*r<l->r=fB l:=i5
 refine HU l ?_;refine av (λr:Nat=>(r:Int)) (λr h'=>h'=h/\r<=5/\∀j,j<r->j*j<l) (λr=>5-r) 0 i0 ⟨i0,i4,λj c=>i4⟩ ?_;rintro r h' ⟨rfl,d,c⟩;have i:r*r<=25:=Nat.mul_le_mul d d;have e:qc xz ((r:Int)*(r:Int))=((r*r:Nat):Int):=by rw[<-wV];exact sE _
 rw[e];refine ac (λm=>?_) (λk=>?_)
 ·have a:r*r<l:=i4
  have o:=g l f r d c a;refine⟨r+1,js,⟨i0,i4,λj b=>?_⟩,i4⟩;rcases Nat.lt_succ_iff_lt_or_eq.1 b with b|rfl
  ·exact c j b
  ·exact a
 ·exact⟨by rw[n l f r d c i4],i0⟩
theorem Yi(r:Nat)(h:f8)(b:r<=5):aq xD 155 #[xt xC r] h λv h'=>v=xt xz (FP r)/\h'=h:=by
 intro w a;refine(Tryz.bits_Len (r:Int) w i4 i4).mono ?_;rintro e w' ⟨rfl,rfl⟩;have k:∀r:Nat,r<=5->Lib.bitLen r=FP r:=j4
 exact⟨_,i0,dG.refl _,by rw[ql,k r b],a⟩
theorem Sy(l k:Nat)(h:f8)(b:l<=20)(a:1<=l)(d:k<=20)(g:1<=k):aq xD 297 #[xt xz l,xt xz k] h λv h'=>v=xt xz (pL l k)/\h'=h:=by
 have o:∀k:Nat,k<=20->1<k->qc xz ((k:Int)*qc xz ((k:Int)-1))=((k*(k-1):Nat):Int)/\k*(k-1)≠0:=i5
 have p:∀l:Nat,l<=20->1<=l->1<=fB l/\fB l<=5:=i5
 have c3:∀l:Nat,l<=20->1<=l->qc xz (wz (l:Int) (fB l))=((l/fB l:Nat):Int):=i5
 have w:∀l:Nat,l<=20->1<=l->∀k:Nat,k<=20->1<=k->qc xz ((l:Int)*k)≠0:=j4
 have j:∀k:Nat,k<=20->1<k->qc xz (wz (1048576:Int) (qc xz ((k:Int)*qc xz ((k:Int)-1))))=((1048576/(k*(k-1)):Nat):Int):=j4
 have t:∀l:Nat,l<=20->1<=l->qc xz (wz (1048576:Int) (l:Int))=((1048576/l:Nat):Int):=j4
 have u:∀l:Nat,l<=20->1<=l->∀k:Nat,k<=20->1<=k->qc xz (wz (qc xz ((1048576:Int)*fB l)) (qc xz ((l:Int)*k)))=((1048576*fB l/(l*k):Nat):Int):=j4
 have n:∀l:Nat,l<=20->1<=l->qc xz (wz (qc xz ((qc xz ((1048576:Int)*fB l))*FP (fB l))) (l:Int))=((1048576*fB l*FP (fB l)/l:Nat):Int):=j4
 have x:∀l:Nat,l<=20->∀k:Nat,k<=20->1048576*fB l/(l*k)<=2^30/\1048576*fB l*FP (fB l)/l<=2^30/\1048576/(k*(k-1))<=2^30/\1048576/l<=2^30:=j4
 refine EJ l k ?_;have i:=x l b k d;refine(Yh l h b).mono ?_;rintro v y ⟨rfl,rfl⟩;have r:=p l b a;refine⟨_,i0,i4,bT (λs h'=>s=(((if k>1 then 1048576/(k*(k-1))else 1048576/l):Nat):Int)/\h'=y) ?_ ?_⟩
 ·refine ac (λe=>?_) (λe=>?_)
  ·have:=o k d i4;refine⟨by rw[this.1];omega,by rw[j k d i4,f9 i4],i0⟩
  ·refine⟨by rw[t l b a,g0 i4],i0⟩
 ·rintro s q ⟨rfl,rfl⟩;have z:(if k>1 then 1048576/(k*(k-1))else 1048576/l)<=2^30:=by split<;>first|exact i.2.2.1|exact i.2.2.2
  refine bc ?_;dsimp only;refine⟨show((fB l:Nat):Int)≠0 by omega,?_⟩;rw[c3 l b a];refine ac (λe=>⟨w l b a k d g,?_,i0⟩) (λe=>?_)
  ·rw[u l b a k d g,TX _ _ i4 (zd i.1 i5),pL,f9 (c:=k<l/fB l) (vS.1 e)]
  ·refine cy (λe2=>?_) (λe2=>?_)
   ·have m:qc xC (fB l:Int)=(fB l:Int):=o9
    rw[m];refine(Yi (fB l) q r.2).mono ?_;rintro v h3 ⟨rfl,rfl⟩;refine⟨_,i0,i4,?_,i0⟩;rw[n l b a,TX _ _ i4 (zd i.2.1 i5),pL,g0 (c:=k<l/fB l) λf=>e (vS.2 f),f9 (c:=k=l/fB l) (Int.ofNat_inj.1 e2)]
   ·exact⟨by rw[pL,g0 (c:=k<l/fB l) λf=>e (vS.2 f),g0 (c:=k=l/fB l) λf=>e2 (Int.ofNat_inj.2 f),Nat.add_zero],i0⟩
theorem Vt(l:Nat)(h:f8)(c:l<=20)(b:1<=l):aq xD 235 #[xt xz l] h λv h'=>∃s:Sl,v=s/\Sp h h' [ae 3 s 1 ak (jL l)]:=by
 refine Gw l ?_;refine bc (ac (λe=>i4) λ_=>ac (λe=>i4) λ_=>?_);refine(Sp.refl h).make an ak fS i5 0 i0 i0 0 l i0 i0 i4 i4 λs u j r f=>?_;refine av (λt:Sl×Nat=>(t.1,((mL l t.2:Nat):Int),((t.2+1:Nat):Int))) (λt h'=>t.2<=l/\Sp h h' [ae 3 t.1 1 ak ((jL l).take t.2)]) (λt=>l-t.2) (s,0) i0 ⟨i9,pa⟩ ?_;rintro⟨s,k⟩ g ⟨n,a⟩;dsimp only at*;refine ac (λe=>?_) (λe=>?_)
 ·refine(Sy l (k+1) g c b i4 i4).mono ?_;rintro v h3 ⟨rfl,rfl⟩;refine⟨_,i0,?_⟩;have q:=FQ l c k i4;have o:=IH l c (k+1) i4;have e2:qc xz ((mL l k:Int)+(pL l (k+1):Int))=((mL l (k+1):Nat):Int):=by rw[af _,mL];rfl
  dsimp only;rw[e2];refine a.push an 0 i0 fS i0 i5 (λ_=>rfl) eJ _ i0 i5 pt λi p m=>?_;refine⟨(i,k+1),jj,⟨i6,?_⟩,i6⟩;have d:(jL l).take (k+1)=(jL l).take k++[((mL l (k+1):Nat):Int)]:=by rw[aH _ _ sp];simp[jL]
  dsimp only;rw[d];exact m
 ·refine⟨s,i0,?_⟩;rw[qi sp]at a;exact a
theorem Sz{p:aA}(t:Sl)(lt:aw)(x b:Int)(h:f8)(i:Seq h p t 1 ak lt)(s:0<=x)(a:lt.getLast?=dB b)(d:x<b)(q:ii lt<=2^40):
  aq xD 295 #[t,xt xz x] h λv h'=>v=xt xz (UI lt x)/\h'=h:=by
 refine EI t x ?_;have r:=i.len;have f:lt≠[]:=λe=>by rw[e]at a;cases a
 have m:0<ii lt:=List.length_pos_iff.2 f;have l:lt[ii lt-1]=b:=by rw[List.getLast?_eq_getElem?,qd i4]at a;simpa using a
 refine bc (cy (λe=>i4) λ_=>ac (λe=>i4) λ_=>?_);rw[af _];refine i.bD (ii lt-1) i4 i4 _ i0 ?_;rw[l];refine ac (λe=>i4) λ_=>?_;have c:(lt.findIdx λy=>decide (y>x))<ii lt:=List.findIdx_lt_length_of_exists ⟨b,List.mem_of_getLast? a,o8⟩;refine av (λk:Nat=>(k:Int)) (λk h'=>h'=h/\k<=(lt.findIdx λy=>decide (y>x))) (λk=>ii lt-k) 0 i0 ⟨i0,i4⟩ ?_;rintro k h' ⟨rfl,n⟩;refine ac (λe=>?_) (λe=>i4);have j:k<ii lt:=i4
 refine i.bD k i0 j _ i0 ?_;rw[af _];refine ac (λe2=>?_) (λe2=>?_)
 ·have:(lt.findIdx λy=>decide (y>x))=k:=Nat.le_antisymm (Nat.le_of_not_lt λg=>by have:=List.not_of_lt_findIdx g;simp at this;omega) n;exact⟨by rw[UI,this];rfl,i0⟩
 ·refine⟨k+1,i0,⟨i0,?_⟩,i4⟩;refine Nat.lt_of_le_of_ne n λo=>?_;have:=List.findIdx_getElem (xs:=lt) (p:=λy=>decide (y>x)) (w:=c);simp only[<-o]at this;simp at this;omega
theorem Gy(t:Sl)(n:Nat)(a:eY)(s:Int)(h:f8)(g:Seq h (·≠a.block) t 1 ak (jL n))(j:cw h a 369 [xt xC s])(d:1<=n)(i:n<=20):
  aq xD 234 #[t,xv (dB a)] h λv h'=>v=xt xz (FR s n)/\cw h' a 369 [xt xC (Da s)]/\aZ (·≠a.block) h h':=by
 refine HO t (dB a) ?_;have m:=g.len;rw[lL]at m;refine cy (λe=>i4) λ_=>?_;rw[af _];refine g.bD (n-1) i4 sp _ i0 ?_;have l:(jL n)[n-1]'(by rw[lL];omega)=((mL n n:Nat):Int):=by simp only[jL,List.getElem_map,List.getElem_range];rw[show n-1+1=n by omega]
 rw[l];have q:=ON n i d;have k:=FQ n i n i;refine(JE a s _ h j).mono ?_;rintro v o ⟨rfl,f,c⟩;have b:=tV s (mL n n);refine⟨_,i0,(Sz t (jL n) _ _ o (g.ag c) b.1 (II n d) b.2 sp).mono ?_⟩;rintro v p ⟨rfl,rfl⟩;exact⟨_,i0,i0,f,c⟩
theorem Yj(a:eY)(s:Int)(n k:Nat)(h:f8)(E:cw h a 369 [xt xC s])(T:n<=64)(O:k<=n):
  aq xD 236 #[xv (dB a),xt xz n,xt xz k] h λv h'=>∃r:Sl,v=r/\aa (λb=>b<h.size/\¬b=a.block) h h' [al a 369 [xt xC (gF n s (upto n) k).1],ae 3 r 1 ak (FO s n k)]:=by
 refine Jo (dB a) n k ?_;refine bc (ac (λe=>i4) λ_=>ac (λe=>i4) λ_=>ac (λe=>i4) λ_=>ac (λe=>i4) λ_=>?_);have L:aa (λb=>b<h.size/\¬b=a.block) h h [al a 369 [xt xC s]]:=.WV (λb=>b=a.block) (λb D=>by rw[D];exact E.lt) ⟨E,i0⟩;refine L.make an ak fS i5 0 i0 i0 n n i0 i0 (qm _) i4 λv U R Q H=>?_;refine av (λi:Nat=>(i:Int)) (λi h'=>i<=n/\aa (λb=>b<h.size/\¬b=a.block) h h' [al a 369 [xt xC s],ae 3 v 1 ak ((upto n).take i++qh (n-i) 0)]) (λi=>n-i) 0 i0 ⟨i4,lb⟩ ?_;rintro i P ⟨S,o⟩;refine ac (λe=>?_) (λe=>?_)
 ·have g:i<n:=i4
  refine o.set an 1 i0 (λ_=>rfl) i0 i i0 (by simp[gW];omega) (i:Int) i0 i0 i0 λh3 f=>?_;refine⟨i+1,js,⟨i4,?_⟩,i4⟩;have e2:((upto n).take i++qh (n-i) 0).set i (i:Int)=(upto n).take (i+1)++qh (n-(i+1)) 0:=by
   have y:ii ((upto n).take i)=i:=by rw[qU,gW];omega
   rw[aH _ _ sz,qX _ _ i4,y,ze,show n-i=n-(i+1)+1 by omega,yl,zw];simp[upto]
  rw[<-e2];exact f
 ·have g:i=n:=i4
  subst g;have e2:(upto i).take i++qh (i-i) 0=upto i:=by rw[qi sz];simp
  rw[e2]at o;refine av (λj:Nat=>(j:Int)) (λj h'=>j<=k/\aa (λb=>b<h.size/\¬b=a.block) h h' [al a 369 [xt xC (gF i s (upto i) j).1],ae 3 v 1 ak (gF i s (upto i) j).2]) (λj=>k-j) 0 i0 ⟨i4,o⟩ ?_;rintro j h3 ⟨N,f⟩;have t:=tW i s (upto i) j;rw[gW]at t;refine ac (λG=>?_) (λG=>?_)
  ·rw[af _];have c:((i:Int)-(j:Int))=((i-j:Nat):Int):=i4
   rw[c];refine(JE a _ _ h3 (f.box 0 i0)).mono ?_;rintro w F ⟨rfl,u,A⟩;have m:=f.AQ 0 i0 A u;have J:=tV (gF i s (upto i) j).1 ((i-j:Nat):Int);refine⟨_,i0,?_⟩;dsimp only;rw[af _,af _];have M:(j:Int)+lW (gF i s (upto i) j).1 ((i-j:Nat):Int)=((j+(lW (gF i s (upto i) j).1 ((i-j:Nat):Int)).toNat:Nat):Int):=i4
   have d:j+(lW (gF i s (upto i) j).1 ((i-j:Nat):Int)).toNat<(gF i s (upto i) j).2.length:=i4
   rw[M];have l:=m.seq 1 i0 λ_=>rfl;refine l.bD _ i0 d _ i0 ?_;refine l.bD j i0 i4 _ i0 ?_;refine m.set an 1 i0 (λ_=>rfl) i0 j i0 i4 _ i0 i0 i0 λI q=>⟨trivial,?_⟩
   refine q.set an 1 i0 (λ_=>rfl) i0 _ i0 o8 _ i0 i0 i0 λV K=>⟨trivial,?_⟩
   refine⟨j+1,i0,⟨i4,?_⟩,i4⟩;rw[gF,ry,lh,lh,Go.Vc.getD_lt d,Go.Vc.getD_lt (show j<(gF i s (upto i) j).2.length by omega)];exact K
  ·have p:j=k:=i4
   subst p;refine⟨⟨i4,i4⟩,?_⟩;have x:=f.seq 1 i0 λ_=>rfl;refine(jF ⟨v.ptr,j,v.cap⟩ ((gF i s (upto i) j).2.take j) h3 (x.take j i4) pt).mono ?_;rintro w F ⟨r,rfl,m⟩;refine⟨r,i0,?_⟩;refine(EL r _ F (m.own 0 i0) pt).mono ?_;rintro w I ⟨rfl,z,B⟩;have q:=(f.comp m).nc 2 i0 B z;exact⟨(),i0,r,i0,q.del 1⟩
theorem xV(p:Pm)(seed id:Int)(h:f8):aq xD 164 #[kb p,xt xB seed,xt xz id] h λv h'=>∃r:Sl,v=r/\Sp h h' [ae 3 r 1 ak (if bM p&&bW id then dE (bG p).toNat seed id else[])]:=by
 refine Sa p seed id ?_;refine(Sp.refl h).boxed λa F z=>?_;refine bc ?_;refine⟨p,(z.box 0 i0).aP _ i0,(eT p F).mono ?_⟩;rintro v o ⟨rfl,O⟩;have g:=z.comp O;have w:(bM p&&bW id)=eS->Sp h o [ae 3 ⟨eH,0,0⟩ 1 ak (if bM p&&bW id then dE (bG p).toNat seed id else[])]:=λM=>by
  rw[M];exact(g.nil 3 1 ak).take 1 (λi A f=>by cases i with|zero=>exact f|succ i=>simp at f)
 refine⟨_,i0,bi (λe=>⟨⟨eH,0,0⟩,i0,w o1⟩) λs=>?_⟩;refine ac (λe=>⟨⟨eH,0,0⟩,i0,w l0⟩) λU=>?_;refine ac (λe=>⟨⟨eH,0,0⟩,i0,w l0⟩) λe2=>?_;have hid:bW id=eR:=l0
 rw[s,hid];refine⟨p,(g.box 0 i0).aP _ i0,(kj p o).mono ?_⟩;rintro v h3 ⟨rfl,J⟩;have I:=g.comp J;have G:=(cm p).1 s;have V:bG p=p.1+p.2.1:=by rw[bG,f9 s]
 obtain⟨n,P⟩:∃n:Nat,bG p=n:=⟨(bG p).toNat,i4⟩
 refine⟨_,i0,?_⟩;dsimp only;rw[P,ql];refine(NF _ h3).mono ?_;rintro v N ⟨d,rfl,D⟩;refine⟨dB d,i0,?_⟩;refine(Bn d _ N (D.box 0 i0)).mono ?_;rintro v H ⟨rfl,l,x⟩;have B:=D.AQ 0 i0 x l;refine⟨_,i0,?_⟩;refine(Vt n H i4 i4).mono ?_;rintro v S ⟨t,rfl,k⟩;have c:=B.comp k;refine⟨t,i0,?_⟩;have y:∀b,t.on b->b≠d.block:=λb j T=>by
  have F:=(k.fresh 0 i0).2 b j;have o:=(B.box 0 i0).lt;omega
 refine(Gy t n d _ S ((k.own 0 i0).seq (λ_=>rfl) y) (c.box 0 i0) i4 i4).mono ?_;rintro v K ⟨rfl,u,m⟩;have E:=c.AQ 0 i0 m u;refine⟨_,i0,?_⟩;refine(Yj d _ n _ K (E.box 0 i0) i4 (tZ _ n i4 i4)).mono ?_;rintro v h8 ⟨r,rfl,L⟩;have R:=E.call 0 i0 (λb=>b=d.block) (λq Q b j=>by rw[j];exact Q.2) L;exact⟨r,i0,r,i0,((I.comp R).take 3 λi A f=>by cases i with|zero=>exact f|succ i=>simp at f)⟩
end Go.Qw
