/- Lemmas for the proof of the law; no condition. -/
import Derived.Test.YtdibhfbogjngkaaGreatDoorTabS
import Derived.Test.YtdibhfbogjngkaaGreatDoorShelfA
set_option linter.unusedVariables false
set_option linter.unusedSimpArgs false
open Go.Proofs.Tryz renaming prog -> xB
open Go.Value renaming agg -> xw, bool -> xv, int -> xq, pointer -> xt, slice -> xr, string -> xu
open Go.IntKind renaming bits -> qk, i64 -> xx, signed -> y7, u32 -> xz, u64 -> xA, u8 -> xy, wrap -> qc
open Option renaming isSome_iff_exists -> vz, some -> zR
open Int renaming fdiv -> qX, tdiv -> wy, tmod -> wi
open List renaming exists_cons_of_length_eq_add_one -> yC, length -> vV, length_zipWith -> y6, mem_of_getElem? -> ya, range -> qy, replicate -> qh
open BitVec renaming ofInt -> qD, ofNat -> wE
open Prod renaming fst -> qH, snd -> zJ
open Go.Instr renaming fill -> wB, storeAt -> qf
open UInt8 renaming ofNat -> yH, ofNat_toNat -> yX, toNat_lt -> wY
set_option maxRecDepth 100000
open Option renaming some -> dB, none -> eH
open Bool renaming true -> eL, false -> eR
open Go renaming Addr -> eX
open Go.Vc renaming cellOf -> f7, Heap -> f8
open List renaming length -> ii
namespace Go.Vc
open Go Wl
abbrev Cells:=cL
abbrev powC(w:Pow)(l:Int):bg:=[xv w.off,xv w.fuse.isSome,xq xx l,xq xx w.offs]
def NE(w:Pow)(l:Int):Prop:=∀k,w.fuse=dB k->l=k/\k<2^62
def dn(t:Nat)(a:eX)(w:Pow):HP:=HP.ex λl:Int=>(au a t (powC w l)).and (NE w l)
section
variable {B:aD} {h0 h h':f8} {As:List HP} {t:Nat} {a:eX} {w:Pow}
theorem aa.DS(H:aa B h0 h (dn t a w::As)):∃l,NE w l/\aa B h0 h (au a t (powC w l)::As):=by obtain⟨l,H⟩:=H.tG;obtain⟨H,b⟩:=H.Lc;exact⟨l,b,H⟩
theorem aa.LJ{l:Int}(b:NE w l)(H:aa B h0 h (au a t (powC w l)::As)):aa B h0 h (dn t a w::As):=
 (H.toLc b).Ah (F:=λl:Int=>(au a t (powC w l)).and (NE w l)) l
end
end Go.Vc
namespace Go.Qw
open Go Go.Vc Go.Proofs Wl
section
variable {B:aD} {h0 h h':f8} {As:List HP} {t:Nat} {a:eX} {w:Pow}
theorem JH(l:Int)(b:cx h a 92 (powC w l)):ac xB 121 #[xt (dB a)] h λv h'=>v=xv (!w.off)/\h'=h:=by refine HS (dB a) ?_;unfold AG;exact bC (λ_=>⟨a,i0,w.off,b.cell0 i0,i0,i0⟩) λe=>j0
theorem QL(l:Int)(b:cx h a 92 (powC w l)):ac xB 41 #[xt (dB a)] h λv h'=>v=xq xx w.offs/\h'=h:=by refine EO (dB a) ?_;unfold uh;exact bC (λe=>j0) λ_=>⟨a,i0,w.offs,b.cell i0,i0,i0⟩
theorem QM(h:f8):ac xB 9 #[] h λv h'=>∃a,v=xt (dB a)/\Sp h h' [dn 92 a Pow.new]:=by refine RE ?_;unfold Kk;refine(Sp.refl h).boxed λa c b=>⟨a,i0,aa.LJ (l:=0) (w:=Pow.new) (λk e=>j0) b⟩
theorem It(H:aa B h0 h (dn 92 a w::As)):ac xB 170 #[xt (dB a)] h λv h'=>v=xv w.step.1/\aa B h0 h' (dn 92 a w.step.2::As):=by
 obtain⟨l,q,c⟩:=H.DS;refine EV (dB a) ?_;unfold uo;refine(JH l (c.box 0 i0)).mono ?_;rintro _ x ⟨rfl,rfl⟩;refine⟨_,i0,bo (λe=>?_) λe=>?_⟩
 ·have:w.step=(eR,w):=by unfold Pow.step;rw[f9 mn]
  rw[this];exact⟨i0,H⟩
 have g:w.off=eR:=mn
 refine⟨a,i0,_,(c.box 0 i0).cell i0,bo (λe2=>?_) λe2=>?_⟩
 ·have:w.step=(eL,w):=by
   unfold Pow.step;rw[g0 o5];cases d:w.fuse with
   |none=>rfl
   |some k=>rw[d]at e2;cases e2
  rw[this];exact⟨i0,H⟩
 obtain⟨k,d⟩:∃k,w.fuse=dB k:=vz.1 e2;obtain⟨rfl,t⟩:=q k d;have s:powC w (k:Int)=[xv eR,xv eL,xq xx k,xq xx w.offs]:=by simp[powC,g,d]
 rw[s]at c;refine⟨a,i0,_,(c.box 0 i0).cell i0,cy (λp=>?_) λp=>?_⟩
 ·have i:k=0:=i4
  subst i;have m:w.step=(eR,⟨eL,dB 0,qc xx (w.offs+1)⟩):=by unfold Pow.step;rw[g0 o5,d]
  rw[m];refine⟨a,i0,c.kg af 0 i0 i0 [xv eL] i0 i0 i0 i9 λu n=>?_⟩;refine⟨a,i0,w.offs,(n.box 0 i0).cell i0,a,i0,n.store af 0 i0 i0 3 [xq xx (qc xx (w.offs+1))] i0 i0 i0 (by simp[powC]) λh3 f=>⟨i0,?_⟩⟩;refine aa.LJ (l:=((0:Nat):Int)) (λr b=>by cases b;exact⟨i0,i5⟩) ?_;exact f
 ·obtain⟨j,rfl⟩:∃j,k=j+1:=⟨k-1,i4⟩
  have m:w.step=(eL,⟨eR,dB j,w.offs⟩):=by unfold Pow.step;rw[g0 o5,d]
  rw[m];refine⟨a,i0,_,(c.box 0 i0).cell i0,a,i0,c.store af 0 i0 i0 2 [xq xx (qc xx (((j+1:Nat):Int)-1))] i0 i0 i0 (by simp[powC]) λh3 f=>⟨i0,?_⟩⟩;refine aa.LJ (l:=(j:Int)) (λr b=>by cases b;exact⟨i0,i4⟩) ?_;rw[al _]at f;have o:((j+1:Nat):Int)-1=(j:Int):=i4
  rw[o]at f;exact f
end
abbrev Pm:=Int×Int×Int
abbrev kS(p:Pm):Value:=xw #[xq xx p.1,xq xx p.2.1,xq xx p.2.2]
theorem eN(p:Pm)(h:f8):ac xB 40 #[kS p] h λv h'=>v=xv (bP p)/\Sp h h' []:=by refine Wk p ?_;unfold QC;refine(Sp.refl h).boxed λa d i=>?_;have e:=i.box 0 i0;have c:Sp h d []:=.zip i.aj;have j:f7 d a=dB (xq xx p.1):=e.cell0 i0;have f:f7 d (a.add 1)=dB (xq xx p.2.1):=e.cell i0;have g:f7 d (a.add 2)=dB (xq xx p.2.2):=e.cell i0;unfold bP;refine⟨_,j,ai (λb=>?_) λb=>⟨o6,c⟩⟩;rw[g9 b];refine⟨_,j,ai (λb=>?_) λb=>⟨o6,c⟩⟩;rw[g9 b];refine⟨_,f,ai (λb=>?_) λb=>⟨o6,c⟩⟩;rw[g9 b];refine⟨_,f,ai (λb=>?_) λb=>⟨o6,c⟩⟩;rw[g9 b];refine⟨_,g,ai (λb=>?_) λb=>⟨o6,c⟩⟩;rw[g9 b];exact⟨_,g,i0,c⟩
abbrev gN:bY C.toDi 22 3 1 [xq xx 0] 8:=⟨_,_,i0,i0,i0,i0,i0,i0⟩
abbrev hJ:bY C.toDi 34 5 1 [xq xy 0] 1:=⟨_,_,i0,i0,i0,i0,i0,i0⟩
abbrev fL:bY C.toDi 85 34 1 [xr eH 0 0] 24:=⟨_,_,i0,i0,i0,i0,i0,i0⟩
theorem ka(s:Sl)(l:aC)(h:f8)(a:Rd h s 1 av l)(d:ii l<=2^30):ac xB 128 #[s] h λv h'=>∃r:Sl,v=r/\Sp h h' [ak 3 r 1 av l]:=by
 refine AH s ?_;unfold oK;refine bC (λe=>?_) (λe=>?_)
 ·have:=a.isNil e;subst this;exact⟨⟨eH,0,0⟩,i0,(Sp.refl h).nil 3 1 av⟩
 ·refine(Sp.refl h).lit af av gN i0 [] i0 i5 i0 λj i b=>?_;refine b.append af 0 i0 gN ⟨_,_,i0,i0⟩ i0 i5 (λ_=>rfl) (a.up b.aj) fD i7 λf g c=>⟨f,i0,c⟩
theorem fa(s:Sl)(l:bf)(h:f8)(a:Rd h s 1 aF l)(d:ii l<=2^30):ac xB 146 #[s] h λv h'=>∃r:Sl,v=r/\Sp h h' [ak 5 r 1 aF l]:=by
 refine Nl s ?_;unfold Gg;refine bC (λe=>?_) (λe=>?_)
 ·have:=a.isNil e;subst this;exact⟨⟨eH,0,0⟩,i0,(Sp.refl h).nil 5 1 aF⟩
 ·refine(Sp.refl h).lit af aF hJ i0 [] i0 i5 i0 λj i b=>?_;refine b.append af 0 i0 hJ ⟨_,_,i0,i0⟩ i0 i5 (λ_=>rfl) (a.up b.aj) iM i7 λf g c=>⟨f,i0,c⟩
theorem Iu{e:TypeId}(s:Sl)(l:aC)(h:f8)(c:Own h e s 1 av l)(a:ii l<2^40):ac xB 148 #[s] h λv h'=>v=.tuple #[]/\Own h' e s 1 av (ia l)/\be (λb=>¬s.on b) h h':=
 Tk Tryz.slices_Sort_int Tryz.slices_Sort_int_none c a
theorem cm(x n:Int)(h:f8)(c:0<n)(e:n<=2^62):ac xB 12 #[xq xx x,xq xx n] h λv h'=>v=xq xx (x%n)/\h'=h:=by
 refine xK x n ?_;unfold oh;have g:=vC x c;have f:-n<x.tmod n:=Int.lt_tmod_of_pos x c;have d:=Tb x n c;refine⟨i4,bj ?_⟩;refine ai (λa=>?_) (λb=>?_)
 ·rw[al _];exact⟨by rw[d,f9 a],i0⟩
 ·exact⟨by rw[d,g0 b],i0⟩
end Go.Qw
namespace Wl
structure gE (d:bt):Prop where
 wait:d.wait<=ii d.l
 len:ii d.l<=d.room
 room:d.room<=512
 cell:∀c∈d.l,ii c=64
 laid:ii d.laid<=d.room
 cellL:∀c∈d.laid,ii c=64
section
variable {d:bt} {w:Pow} {b:bf}
theorem gE.new{n:Nat}(h:n<=512):gE (bt.new n):=⟨qm _,zt _,h,by simp[bt.new],zt _,by simp[bt.new]⟩
theorem gE.rewrite{l:cL}(h:gE d):gE (d.rewrite w l).2.2:=by
 obtain⟨b,a,h3,e,f,i⟩:=h;unfold bt.rewrite;split
 ·exact⟨b,a,h3,e,f,i⟩
 ·rename_i g;have g:∀c∈l,ii c=64:=m4
  split
  ·exact⟨b,a,h3,e,f,i⟩
  ·split
   ·exact⟨b,a,h3,e,f,i⟩
   ·split
    ·exact⟨b,a,h3,e,f,i⟩
    ·split
     ·exact⟨zt _,i6,h3,g,zt _,i9⟩
     ·exact⟨b,a,h3,e,i6,g⟩
end
end Wl
namespace Go.Vc
open Go Wl Go.Qw
abbrev eE(s:Sl)(l:Cells):HP:=dK 34 s 5 1 aF l
def iG(t:Nat)(f:bt->Sl->Sl->bg)(a:eX)(d:bt):HP:=
 (HP.ex λb:Sl×Sl=>(au a t (f d b.1 b.2)).sep ((eE b.1 d.l).sep (eE b.2 d.laid))).and (gE d)
section
variable {B:aD} {h0 h h':f8} {As:List HP} {t:Nat} {f:bt->Sl->Sl->bg} {a:eX} {d:bt}
theorem aa.rS(H:aa B h0 h (iG t f a d::As)):gE d/\∃s b:Sl,aa B h0 h (au a t (f d s b)::eE s d.l::eE b d.laid::As):=by obtain⟨H,ok⟩:=H.Lc;obtain⟨c,H⟩:=H.tG;exact⟨ok,c.1,c.2,H.uc.uc.aX 3 [2,1,0]⟩
theorem aa.AT{s b:Sl}(ok:gE d)(H:aa B h0 h (au a t (f d s b)::eE s d.l::eE b d.laid::As)):aa B h0 h (iG t f a d::As):=
 ((((H.aX 3 [2,1,0]).mj).mj).Ah (F:=λc:Sl×Sl=>(au a t (f d c.1 c.2)).sep ((eE c.1 d.l).sep (eE c.2 d.laid))) (s,b)).toLc ok
end
end Go.Vc
namespace Go.Qw
open Go Go.Vc Go.Proofs Wl
abbrev fo(pw:eX)(d:bt)(s b:Sl):bg:=[xt (dB pw),xq xx d.room,s,xq xx d.wait,b,xv d.has,xv d.lost]
abbrev ji(pw a:eX)(d:bt):HP:=iG 156 (fo pw) a d
section
variable {B:aD} {h0 h h':f8} {As:List HP} {a pw:eX} {d:bt} {w:Pow}
theorem NF(n:Int)(pw:eX)(h:f8):ac xB 43 #[xq xx n,xt (dB pw)] h λv h'=>
  (1<=n/\n<=512->∃a,v=xt (dB a)/\Sp h h' [ji pw a (bt.new n.toNat)])/\(¬(1<=n/\n<=512)->v=xt eH/\Sp h h' []):=by
 refine RF n (dB pw) ?_;unfold Kl;refine bj (ai (λe=>⟨λc=>absurd c i4,λ_=>⟨i0,Sp.refl h⟩⟩) λg=>ai (λe=>⟨λc=>absurd c i4,λ_=>⟨i0,Sp.refl h⟩⟩) λe2=>bC (λe=>j0) λ_=>?_);refine(Sp.refl h).boxed λa i f=>⟨λ_=>⟨a,i0,?_⟩,λc=>absurd i4 c⟩
 refine aa.AT (s:=⟨eH,0,0⟩) (b:=⟨eH,0,0⟩) (gE.new i4) ?_;have e:((n.toNat:Nat):Int)=n:=i4
 have d:=((f.Cz 34 5 1 aF).Cz 34 5 1 aF).aX 3 [2,1,0];have e2:fo pw (bt.new n.toNat) ⟨eH,0,0⟩ ⟨eH,0,0⟩=[xt (dB pw),xq xx n,xr eH 0 0,xq xx 0,xr eH 0 0,xv eR,xv eR]:=by simp only[fo,bt.new,e];rfl
 rw[e2];exact d
theorem Iv(s b:Sl)(c:bt)(H:aa B h0 h (au a 156 (fo pw d s b)::eE s d.l::eE b d.laid::dn 92 pw w::As))(ok:gE d)(f:c={d with laid:=[],has:=eR}):
  ac xB 171 #[xt (dB a)] h λv h'=>v=xq xx 0/\aa B h0 h' (ji pw a c::dn 92 pw w::As):=by
 refine EW (dB a) ?_;unfold uq;refine⟨a,i0,H.store af 0 i0 i0 4 [xr eH 0 0] i0 i0 i0 ln λi e=>?_⟩;refine⟨a,i0,e.store af 0 i0 i0 5 [xv eR] i0 i0 i0 ln λh3 g=>⟨i0,?_⟩⟩;subst f;refine aa.AT (s:=s) (b:=⟨eH,0,0⟩) ⟨ok.wait,ok.len,ok.room,ok.cell,zt _,i9⟩ ?_;exact((g.Cz 34 5 1 aF).aX 5 [1,2,0,4])
theorem KD(x:Sl)(row:bf)(H:aa B h0 h (ji pw a d::dn 92 pw w::As))(P:Rd h x 1 aF row)(hr:ii row<=2^20):
  ac xB 102 #[xt (dB a),x] h λv h'=>v=xq xx (d.append w row).1/\aa B h0 h' (ji pw a (d.append w row).2.2::dn 92 pw (d.append w row).2.1::As):=by
 refine oJ (dB a) x ?_;unfold mz;have Q:=P.len;obtain⟨ok,s,b,D⟩:=H.rS;have n:=D.box 0 i0;obtain⟨Y,_⟩:=aa.Ai (D.aX 4 [1]);have I:=ok.room;have N:=ok.len;have K:=ok.wait;have g:∀(e:Int),d.append w row=(e,w,d)->(Value.int .i64 e=xq xx (d.append w row).1/\aa B h0 h (ji pw a (d.append w row).2.2::dn 92 pw (d.append w row).2.1::As)):=λe V=>by
  rw[V];exact⟨i0,H⟩
 refine bj (cb (λe=>g 1 (by unfold bt.append;rw[f9 i4])) λS=>?_);have p:ii row=64:=i4
 refine bj (bC (λe=>j0) λ_=>⟨a,i0,d.lost,n.cell i0,bC (λe=>g 5 ?_) λf=>?_⟩)
 ·unfold bt.append;rw[g0 i4,f9 e]
 refine⟨a,i0,s,n.cell i0,a,i0,(d.room:Int),n.cell i0,ai (λe=>g 7 ?_) λJ=>?_⟩
 ·unfold bt.append;rw[g0 i4,g0 pb,f9 i4]
 obtain⟨l,hl,G⟩:=(D.aX 4 [3,0,1,2]).DS;refine⟨a,i0,dB pw,n.cell0 i0,(JH l (G.box 0 i0)).mono ?_⟩;rintro _ R ⟨rfl,rfl⟩;refine⟨_,i0,bo (λe=>g 14 ?_) λo=>?_⟩
 ·unfold bt.append;rw[g0 i4,g0 pb,g0 i4,f9 mn]
 have k:w.off=eR:=m5
 refine bj ⟨a,i0,s,n.cell i0,(fa x row R P i4).mono ?_⟩;rintro _ h4 ⟨r,rfl,U⟩;have E:=(D.co U).aX 5 [2,0,1,3,4];have y:=E.box 2 i0;refine⟨r,i0,⟨y.cell i0,trivial⟩,?_⟩;have W:=E;refine E.nQ af bw fL i0 [r] i0 (show 1*1<=2^20 by decide) i0 ⟨y.cell i0,trivial⟩ ?_;refine E.Jr af fL i4 λA h6 F=>⟨trivial,?_⟩
 have F:=F.aX 4 [1,0,2,3];refine⟨a,i0,F.store af 0 i0 i0 2 [A] i0 i0 i0 ln λZ O=>⟨trivial,?_⟩⟩;have L:=O.box 0 i0;refine⟨a,i0,(d.wait:Int),L.cell i0,a,i0,?_⟩;rw[al ((d.wait:Int)+1)];refine O.store af 0 i0 i0 3 [xq xx ((d.wait:Int)+1)] i0 i0 i0 ln λh8 T=>?_;obtain⟨i,j⟩:∃i:bt,i={d with l:=d.l++[row],wait:=d.wait+1}:=⟨_,rfl⟩
 have u:gE i:=by
  subst j;refine⟨i7,i7,ok.room,λc q=>?_,ok.laid,ok.cellL⟩;rcases qA.1 q with q|q
  ·exact ok.cell c q
  ·rw[qC.1 q];exact p
 have t:aa B h0 h8 (au a 156 (fo pw i A b)::eE A i.l::eE b i.laid::dn 92 pw w::As):=by rw[j];exact T
 refine⟨a,i0,dB pw,(t.box 0 i0).cell0 i0,(It (t.aX 4 [3,0,1,2])).mono ?_⟩;rintro _ h9 ⟨rfl,z⟩;have z:=z.aX 4 [1,2,3,0];have m:d.append w row=if w.step.1 then(0,w.step.2,{i with laid:=[],has:=eR})else(14,w.step.2,i):=by rw[j];unfold bt.append;rw[g0 i4,g0 pb,g0 i4,g0 (by simp[k])]
 rw[m];refine⟨_,i0,bo (λe=>?_) λe=>?_⟩
 ·rw[e];exact⟨i0,z.AT u⟩
 ·rw[e];refine(Iv A b _ z u i0).mono ?_;rintro _ X ⟨rfl,M⟩;exact⟨0,i0,i0,M⟩
theorem PH(x:Sl)(row:bf)(h:f8)(a:Rd h x 1 aF row):ac xB 102 #[xt eH,x] h λv h'=>v=xq xx (if row.length≠64 then 1 else 5)/\h'=h:=by refine oJ eH x ?_;unfold mz;have b:=a.len;refine bj (cb (λe=>⟨by rw[f9 i4],i0⟩) λe=>?_);exact bj (bC (λ_=>⟨by rw[g0 i4],i0⟩) λe=>j0)
theorem abH(H:aa B h0 h (ji pw a d::dn 92 pw w::As)):
  ac xB 173 #[xt (dB a)] h λv h'=>v=xq xx (d.sync w).1/\aa B h0 h' (ji pw a (d.sync w).2.2::dn 92 pw (d.sync w).2.1::As):=by
 refine rK (dB a) ?_;unfold nB;obtain⟨ok,s,b,i⟩:=H.rS;have j:=i.box 0 i0;refine bj (bC (λe=>j0) λ_=>⟨a,i0,d.lost,j.cell i0,bC (λe=>?_) λc=>?_⟩)
 ·have:d.sync w=(5,w,d):=by unfold bt.sync;rw[f9 e]
  rw[this];exact⟨i0,H⟩
 refine⟨a,i0,dB pw,j.cell0 i0,(It (i.aX 4 [3,0,1,2])).mono ?_⟩;rintro _ m ⟨rfl,g⟩;have g:=g.aX 4 [1,2,3,0];have f:d.sync w=if w.step.1 then(0,w.step.2,{{d with wait:=0}with laid:=[],has:=eR})else(14,w.step.2,d):=by unfold bt.sync;rw[g0 o4]
 rw[f];refine⟨_,i0,bo (λe=>?_) λe=>?_⟩
 ·rw[e];exact⟨i0,g.AT ok⟩
 ·rw[e];refine⟨a,i0,g.store af 0 i0 i0 3 [xq xx 0] i0 i0 i0 ln λh3 l=>?_⟩;refine(Iv (d:={d with wait:=0}) s b _ l ⟨zt _,ok.len,ok.room,ok.cell,ok.laid,ok.cellL⟩ rfl).mono ?_;rintro _ n ⟨rfl,k⟩;exact⟨0,i0,i0,k⟩
theorem Up(h:f8):ac xB 173 #[xt eH] h λv h'=>v=xq xx 5/\h'=h:=by refine rK eH ?_;unfold nB;exact bj (bC (λ_=>⟨i0,i0⟩) λe=>j0)
theorem ji.box(H:aa B h0 h (ji pw a d::As)):∃s b:Sl,cx h a 156 (fo pw d s b)/\fR h s 1 aF d.l/\s.len=ii d.l:=by obtain⟨ok,s,b,c⟩:=H.rS;exact⟨s,b,c.box 0 i0,(c.aX 3 [1]).FH λ_=>rfl,(aa.Ai (c.aX 3 [1])).1⟩
theorem abI(s b:Sl)(c:cx h a 156 (fo pw d s b)):ac xB 244 #[xt (dB a)] h λv h'=>v=xq xx d.room/\h'=h:=by refine EY (dB a) ?_;unfold ut;exact bC (λe=>j0) λ_=>⟨a,i0,_,c.cell i0,i0,i0⟩
theorem QN(s b:Sl)(f:cx h a 156 (fo pw d s b))(c:s.len=ii d.l):ac xB 191 #[xt (dB a)] h λv h'=>v=xq xx (ii d.l:Int)/\h'=h:=by refine GF (dB a) ?_;unfold uZ;exact bC (λe=>j0) λ_=>⟨a,i0,_,f.cell i0,by rw[c],i0⟩
theorem abJ(s b:Sl)(c:cx h a 156 (fo pw d s b)):ac xB 36 #[xt (dB a)] h λv h'=>v=xq xx d.wait/\h'=h:=by refine Bi (dB a) ?_;unfold pD;exact bC (λe=>j0) λ_=>⟨a,i0,_,c.cell i0,i0,i0⟩
theorem Iw(s b:Sl)(c:cx h a 156 (fo pw d s b)):ac xB 149 #[xt (dB a)] h λv h'=>v=xv d.lost/\h'=h:=by refine EU (dB a) ?_;unfold un;exact bC (λ_=>⟨a,i0,_,c.cell i0,i0,i0⟩) λe=>j0
theorem abK(s b:Sl)(i:Int)(k:cx h a 156 (fo pw d s b))(j:fR h s 1 aF d.l)(p:∀c∈d.l,ii c=64):ac xB 77 #[xt (dB a),xq xx i] h λv h'=>∃r:Sl,v=r/\Sp h h' [ak 5 r 1 aF (if 0<=i then d.l.getD i.toNat []else[])]:=by
 refine rF (dB a) i ?_;unfold nw;have n:=j.len;have f:(if 0<=i then d.l.getD i.toNat []else[])=[]->∃r:Sl,Value.slice eH 0 0=xr r.ptr r.len r.cap/\Sp h h [ak 5 r 1 aF (if 0<=i then d.l.getD i.toNat []else[])]:=λe=>by
  rw[e];exact⟨⟨eH,0,0⟩,i0,(Sp.refl h).nil 5 1 aF⟩
 refine bj (bC (λe=>j0) λ_=>ai (λe=>f (by rw[g0 i4])) λt=>⟨a,i0,s,k.cell i0,ai (λe=>f ?_) λe2=>?_⟩)
 ·rw[f9 i4,qe,qQ i4];rfl
 ·refine⟨a,i0,s,k.cell i0,j.get i.toNat i4 i4 λr o=>?_⟩;have g:i.toNat<ii d.l:=i4
  have:=p _ (qg g);refine(fa r _ h o i4).mono ?_;rintro _ u ⟨m,rfl,q⟩;rw[f9 i4,getD_lt g];exact⟨m,i0,m,i0,q⟩
theorem LK(l:Sl)(a:Cells)(h:f8)(f:fR h l 1 aF a)(u:ii a<=2^20)(o:∀c∈a,ii c<=2^20):ac xB 167 #[l] h λv h'=>∃r:Sl,v=r/\Sp h h' [eE r a]:=by
 refine RS l ?_;unfold Ky;have p:=f.len;refine aA (λt:Sl×Nat=>(t.1,(t.2:Int))) (λt h'=>t.2<=ii a/\Sp h h' [eE t.1 (a.take t.2)]) (λt=>ii a-t.2) (⟨eH,0,0⟩,0) i0 ⟨i9,by simpa using(Sp.refl h).Cz 34 5 1 aF⟩ ?_;rintro⟨s,i⟩ n ⟨x,d⟩;dsimp only at*;refine ai (λe=>?_) (λe=>?_)
 ·have b:i<ii a:=i4
  refine(f.up d.aj).get i i0 b λr k=>?_;have:=o _ (qg b);refine(fa r _ n k i4).mono ?_;rintro _ w ⟨m,rfl,j⟩;refine⟨m,i0,?_⟩;refine aa.Jr af (d.comp j) fL i7 λg h3 q=>?_;refine⟨(g,i+1),jj,⟨i6,?_⟩,i6⟩;dsimp only;rw[aK _ _ b];exact q
 ·rw[qi i4]at d;exact⟨s,i0,d⟩
theorem LL(s b:Sl)(j:cx h a 156 (fo pw d s b))(i:fR h s 1 aF d.l)(ok:gE d):ac xB 96 #[xt (dB a)] h λv h'=>∃r:Sl,v=r/\Sp h h' [eE r d.l]:=by
 refine GC (dB a) ?_;unfold uX;have:=ok.len;have:=ok.room;refine bC (λe=>j0) λ_=>⟨a,i0,s,j.cell i0,(LK s d.l h i i4 λc g=>by rw[ok.cell c g];decide).mono ?_⟩
 rintro _ k ⟨r,rfl,f⟩;exact⟨r,i0,r,i0,f⟩
end
theorem aeI(b:Sl)(l:bf)(h:f8)(q:Rd h b 1 aF l)(E:ii l<=2^40):ac xB 213 #[b] h λv h'=>v=xq xz (mI l).toNat/\h'=h:=by
 refine Ws b ?_;unfold QI;have B:=q.len;refine aA (λt:Nat=>(((lG (l.take t)).toNat:Int),(t:Int))) (λt h'=>t<=ii l/\h'=h) (λt=>ii l-t) 0 i0 ⟨i4,i0⟩ ?_;rintro i x ⟨D,rfl⟩;refine ai (λe=>?_) (λe=>?_)
 ·have d:i<ii l:=by have z:(i:Int)<(b.len:Int):=e;omega
  refine q.bH i i0 d (l[i].toNat:Int) i0 ?_;have r:qc xz (l[i].toNat:Int)=((wE 32 l[i].toNat).toNat:Int):=by rw[Ql,w8]
  rw[r,YM];refine aA (λk:Nat=>(((ez k (lG (l.take i)^^^wE 32 l[i].toNat)).toNat:Int),(k:Int))) (λk h'=>k<=8/\h'=x) (λk=>8-k) 0 i0 ⟨i4,i0⟩ ?_;rintro k p ⟨A,rfl⟩;obtain⟨c,m⟩:∃c,c=ez k (lG (l.take i)^^^wE 32 l[i].toNat):=⟨_,rfl⟩
  dsimp only;rw[<-m];refine ai (λe2=>⟨i5,?_⟩) (λe2=>?_)
  ·have a:∀n:jO,n=kj c->∃f:Nat,(((n.toNat:Nat):Int),qc xx ((k:Int)+1))=(((ez f (lG (l.take i)^^^wE 32 l[i].toNat)).toNat:Int),(f:Int))/\(f<=8/\p=p)/\8-f<8-k:=λn u=>
    ⟨k+1,by rw[al _,u,m];rfl,⟨i4,i0⟩,i4⟩
   have w:qc xz ((qD (qk xz) (c.toNat:Int)&&&qD (qk xz) (1:Int)).toNat:Nat)=((c&&&1#32).toNat:Int):=ajJ c 1#32;have s:qc xz ((qD (qk xz) ((c>>>1).toNat:Int)^^^qD (qk xz) (3988292384:Int)).toNat:Nat)=(((c>>>1)^^^3988292384#32).toNat:Int):=YM (c>>>1) 3988292384#32;rw[w,agY,s];refine cy (λj=>a _ ?_) (λj=>a _ ?_)
   ·unfold kj;rw[f9 ((XJ c).1 j)]
   ·unfold kj;rw[g0 λy=>j ((XJ c).2 y)]
  ·have g:k=8:=i4
   subst g;refine⟨i+1,?_,⟨i4,i0⟩,i4⟩;rw[al _,aK _ _ d,YL,m];rfl
 ·have o:i=ii l:=by have z:¬(i:Int)<(b.len:Int):=e;omega
  subst o;refine⟨?_,i0⟩;rw[qY];exact congrArg (Value.int .u32) (YM 4294967295#32 (lG l))
theorem Ix(kind:Int)(b:Sl)(l:bf)(h:f8)(x:Rd h b 1 aF l)(R:ii l<=2^40:=by omega):ac xB 147 #[xq xx kind,b] h λv h'=>∃r:Sl,v=r/\Sp h h' [ak 5 r 1 aF (dX kind l)]:=by
 refine Ui kind b ?_;unfold Nm;have P:=x.len;have f:¬(1<=kind/\kind<=255/\l.length<=55)->∃r:Sl,Value.slice eH 0 0=xr r.ptr r.len r.cap/\Sp h h [ak 5 r 1 aF (dX kind l)]:=λe=>by
  unfold dX;rw[g0 e];exact⟨⟨eH,0,0⟩,i0,(Sp.refl h).nil 5 1 aF⟩
 refine bj (ai (λe=>f i4) λM=>ai (λe=>f i4) λe2=>ai (λe=>f i4) λO=>?_);refine(Sp.refl h).make af aF hJ i5 0 i0 i0 64 64 i0 i0 (qm _) i5 λo w n m B=>?_;rw[ey];refine B.lit af aF hJ i0 [87,115,1,b8 kind] i0 (show 4*1<=2^20 by decide) i0 λv3 h3 A=>?_;refine A.Mu af 0 i0 hJ (λ_=>rfl) (A.seq 1 i0 λ_=>rfl) iM λ_ p j=>⟨⟨i5,by rw[n];decide⟩,?_⟩
 have j:Sp h p [ak 5 o 1 aF ([87,115,1,b8 kind]++qh 60 0)]:=by have:=j.cG [0];simpa using this
 refine j.To af 0 i0 hJ (λ_=>rfl) (Seq.up x j.aj) iM 4 i9 i0 i0 λ_ z q=>⟨⟨i5,by rw[m];decide⟩,?_⟩
 have E:([87,115,1,b8 kind]++qh 60 0).take 4++(l.take (ii ([87,115,1,b8 kind]++qh 60 (0:UInt8))-4)++([87,115,1,b8 kind]++qh 60 0).drop (4+ii l))=dT kind l++qh 5 0:=by
  have I:ii ([87,115,1,b8 kind]++qh 60 (0:UInt8))=64:=i9
  rw[I,qi (l:=l) i4,<-zI];have w:([87,115,1,b8 kind]++qh 60 (0:UInt8)).drop 4=qh 60 0:=rfl;have h3:([87,115,1,b8 kind]++qh 60 (0:UInt8)).take 4=[87,115,1,b8 kind]:=rfl;rw[w,h3,List.drop_replicate];unfold dT;have p:qh (60-ii l) (0:UInt8)=qh (55-ii l) 0++qh 5 0:=by rw[List.replicate_append_replicate];congr 1;omega
  rw[p];simp[qp]
 rw[E]at q;have a:ii (dT kind l)=59:=Ap i4;have F:Rd z ⟨o.ptr,59,o.cap⟩ 1 aF (dT kind l):=by have:=(q.seq 0 i0 λ_=>rfl).take 59 n9;rw[wj i4,qi i4]at this;exact this
 refine(aeI ⟨o.ptr,59,o.cap⟩ (dT kind l) z F i4).mono ?_;rintro _ N ⟨rfl,rfl⟩;obtain⟨c,y⟩:∃c,c=mI (dT kind l):=⟨_,rfl⟩
 rw[<-y];refine⟨_,i0,?_⟩;refine aA (λi:Nat=>(i:Int)) (λi h'=>i<=4/\Sp h h' [ak 5 o 1 aF (dT kind l++((lO c).take i++qh (5-i) 0))]) (λi=>4-i) 0 i0 ⟨i4,qs⟩ ?_;rintro i L ⟨Q,u⟩;have d:=Ev c;refine ai (λe=>?_) (λe=>?_)
 ·have D:i<4:=by have K:(i:Int)<4:=e;omega
  rw[al ((8:Int)*i),al ((59:Int)+i)];refine⟨i4,?_⟩;have J:((8:Int)*(i:Int)).toNat=8*i:=i4
  have G:min (8*i) (qk xz)=8*i:=by have:qk xz=32:=rfl;omega
  rw[J,G,ey];have H:b8 (qX (c.toNat:Int) (2^(8*i)))=(lO c)[i]'(by omega):=by simp[lO]
  rw[H];refine u.set af 0 i0 (λ_=>rfl) i0 (59+i) i4 (by simp[a];omega) ((lO c)[i]'(by omega)) i0 i0 i0 λh8 g=>?_;refine⟨i+1,js,⟨i4,?_⟩,i4⟩;have s:(dT kind l++((lO c).take i++qh (5-i) 0)).set (59+i) ((lO c)[i]'(by omega))=dT kind l++((lO c).take (i+1)++qh (5-(i+1)) 0):=by
   rw[qV _ _ i4,a,zp,qV _ _ i7,aK _ _];have:5-i=(5-(i+1))+1:=i4
   rw[this,yh];simp[d,Nat.min_eq_left (show i<=4 by omega)];rw[aK _ _ (show i<ii (lO c) by omega),qp];rfl
  rw[s]at g;exact g
 ·have t:i=4:=by have K:¬(i:Int)<4:=e;omega
  subst t;refine u.set af 0 i0 (λ_=>rfl) i0 63 i0 (by simp[a,d]) 165 i0 i0 i0 λh8 g=>⟨o,i0,?_⟩
  have k:(dT kind l++((lO c).take 4++qh (5-4) 0)).set 63 165=dX kind l:=by unfold dX;rw[f9 ⟨i4,i4,i4⟩,<-y,qi i4,qV _ _ i4,a,qV _ _ p8];simp[d]
  rw[k]at g;exact g
end Go.Qw
namespace Go.Vc
open Go Wl
abbrev dU:=ByteArray×Int×Int×Sl
abbrev bU:=Int×Int×Int×Int×Int×Int×Sl×Sl
abbrev bI(x:dU):bg:=[xu x.1,xq xx x.2.1,xq xx x.2.2.1,x.2.2.2]
abbrev aV(x:bU):bg:=[xq xx x.1,xq xx x.2.1,xq xx x.2.2.1,xq xx x.2.2.2.1,xq xx x.2.2.2.2.1,xq xx x.2.2.2.2.2.1,x.2.2.2.2.2.2.1,x.2.2.2.2.2.2.2]
abbrev fw(x:bU):Value:=xw #[xq xx x.1,xq xx x.2.1,xq xx x.2.2.1,xq xx x.2.2.2.1,xq xx x.2.2.2.2.1,xq xx x.2.2.2.2.2.1,x.2.2.2.2.2.2.1,x.2.2.2.2.2.2.2]
def jA:jn dU Wl.cv:=⟨λh q a b=>(a.1=b.name/\a.2.1=b.object/\a.2.2.1=b.length)/\Seq h q a.2.2.2 1 av b.tries,λa d=>⟨a.1,a.2.aj d⟩,λa c=>⟨a.1,a.2.mono c⟩⟩
abbrev Aa:jn Sl (List Wl.cv):=bO jA 4 bI
structure tK (h:f8) (q:aD) (x:bU) (m:aG):Prop where
 seq:x.1=m.seq
 next:x.2.1=m.next
 p:(x.2.2.1,x.2.2.2.1,x.2.2.2.2.1)=m.p
 extra:x.2.2.2.2.2.1=m.extra
 drives:Seq h q x.2.2.2.2.2.2.1 1 av m.drives
 aH:Aa.p h q x.2.2.2.2.2.2.2 m.aH
 dcap:x.2.2.2.2.2.2.1.len<=x.2.2.2.2.2.2.1.cap
 ocap:x.2.2.2.2.2.2.2.len<=x.2.2.2.2.2.2.2.cap
abbrev df(h:f8)(x:bU)(m:aG):Prop:=tK h (λb=>b<h.size) x m
theorem tK.aj{h h':f8}{q:aD}{x:bU}{m:aG}(a:tK h q x m)(b:be q h h'):tK h' q x m:=⟨a.seq,a.next,a.p,a.extra,a.drives.aj b,Aa.loc a.aH b,a.dcap,a.ocap⟩
theorem tK.mono{h:f8}{q q':aD}{x:bU}{m:aG}(a:tK h q x m)(c:∀b,q b->q' b):tK h q' x m:=⟨a.seq,a.next,a.p,a.extra,a.drives.mono c,Aa.mono a.aH c,a.dcap,a.ocap⟩
theorem df.up{h h':f8}{x:bU}{m:aG}(a:df h x m)(c:be (λb=>b<h.size) h h'):df h' x m:=(tK.aj a c).mono λ_ d=>qW d c.1
def cj(x:bU)(m:aG):HP:=⟨λh q=>tK h q x m,λa c=>a.aj c,λa b=>a.mono b⟩
theorem PI:∀x,∀c∈bI x,c.oneCell'=eL:=by intro x c a;simp[bI]at a;rcases a with rfl|rfl|rfl|rfl<;>rfl
end Go.Vc
namespace Go.Qw
open Go Go.Vc Go.Proofs Wl
theorem sZ(n a b:Int)(h:f8):ac xB 162 #[xq xx n,xq xx a,xq xx b] h λv h'=>v=xv (fq n a b)/\h'=h:=by
 refine No n a b ?_;unfold Gi fq;refine ai (λe=>⟨?_,i0⟩) (λe=>⟨?_,i0⟩)
 ·rw[g9 (show a<=n from e)];rfl
 ·rw[hU (show¬a<=n from e)];rfl
theorem QO(s:ByteArray)(h:f8)(G:s.size<=2^40):ac xB 104 #[xu s] h λv h'=>v=xv (mY s)/\Sp h h' []:=by
 refine RM s ?_;unfold Ks;refine agZ af ⟨_,i0,i0⟩ ⟨_,i0,i0⟩ ⟨_,i0,i0⟩ s λr B o=>?_;have y:=o.rd 0 i0;have z:=y.len;have E:=Ew s;refine aA (λi:Nat=>(i:Int)) (λi h'=>i<=s.size/\h'=B/\∀c∈(jv s).take i,nl c=eL) (λi=>s.size-i) 0 i0 ⟨i4,i0,i9⟩ ?_;rintro i q ⟨F,rfl,d⟩;refine ai (λe=>?_) (λe=>?_)
 ·have j:i<ii (jv s):=by have D:(i:Int)<(r.len:Int):=e;omega
  refine y.bH i i0 j ((jv s)[i].toNat:Int) i0 ?_;obtain⟨c,u⟩:∃c,c=(jv s)[i]:=⟨_,rfl⟩
  rw[<-u];have a:nl c=eL->∃n:Nat,qc xx ((i:Int)+1)=(n:Int)/\(n<=s.size/\q=q/\∀c∈(jv s).take n,nl c=eL)/\s.size-n<s.size-i:=λt=>
   ⟨i+1,js,⟨i4,i0,λx k=>by
    rw[aK _ _ j]at k;rcases qA.1 k with k|k
    ·exact d x k
    ·rw[qC.1 k,<-u];exact t⟩,i4⟩
  have g:nl c=eR->Value.bool eR=xv (mY s)/\Sp h q []:=λt=>by
   refine⟨?_,o.cG []⟩;unfold mY;have:s.data.toList.all nl=eR:=yA.2 ⟨c,by rw[u];exact qg j,by rw[t];simp⟩;rw[this];rfl
  have b:nl c=eL↔((97<=(c.toNat:Int)/\(c.toNat:Int)<=122)∨(48<=(c.toNat:Int)/\(c.toNat:Int)<=57)∨(c.toNat:Int)=45):=by unfold nl;simp[or_assoc];omega
  have f:nl c=eR↔¬((97<=(c.toNat:Int)/\(c.toNat:Int)<=122)∨(48<=(c.toNat:Int)/\(c.toNat:Int)<=57)∨(c.toNat:Int)=45):=by rw[<-b];cases nl c<;>simp
  refine ai (λp=>ai (λe2=>cb (λm=>g (f.2 i4)) λm=>a (b.2 i4)) λe2=>ai (λm=>cb (λl=>g (f.2 i4)) λl=>a (b.2 i4)) λm=>a (b.2 i4)) λp=>ai (λe2=>ai (λm=>cb (λl=>g (f.2 i4)) λl=>a (b.2 i4)) λm=>ai (λl=>cb (λA=>g (f.2 i4)) λA=>a (b.2 i4)) λl=>a (b.2 i4)) λe2=>a (b.2 i4)
 ·have D:¬(i:Int)<(r.len:Int):=e;rw[qi i4]at d;have w:s.data.toList.all nl=eL:=q9.2 d;refine ai (λp=>⟨?_,o.cG []⟩) (λp=>⟨?_,o.cG []⟩)
  ·unfold mY;rw[w,g9 (show 1<=s.size by omega)];congr 1;simp;omega
  ·unfold mY;rw[w,hU (show¬1<=s.size by omega)];rfl
theorem abL(s:Sl)(l:aC)(most:Int)(h:f8)(q:Rd h s 1 av l)(x:ii l<=2^40):ac xB 163 #[s,xq xx most] h λv h'=>v=xv (rg l most)/\h'=h:=by
 refine RR s most ?_;unfold Kx;have w:=q.len;refine aA (λi:Nat=>(i:Int)) (λi h'=>i<=ii l/\h'=h/\∀j,j<i->kl l most j=eL) (λi=>ii l-i) 0 i0 ⟨i4,i0,i4⟩ ?_;rintro i g ⟨y,rfl,a⟩;refine ai (λe=>?_) (λe=>?_)
 ·have c:i<ii l:=by have u:(i:Int)<(s.len:Int):=e;omega
  refine q.bH i i0 c l[i] i0 ?_;have n:l.getD i 0=l[i]:=getD_lt c;have k:kl l most i=eR->Value.bool eR=xv (rg l most)/\g=g:=λp=>⟨by unfold rg;rw[Hk c p],i0⟩
  have b:kl l most i=eL->∃m:Nat,qc xx ((i:Int)+1)=(m:Int)/\(m<=ii l/\g=g/\∀j,j<m->kl l most j=eL)/\l.length-m<ii l-i:=λp=>
   ⟨i+1,js,⟨i4,i0,λj r=>by
    by_cases o:j=i
    ·rw[o];exact p
    ·exact a j i4⟩,i4⟩
  refine(sZ l[i] 0 most g).mono ?_;rintro _ _ ⟨rfl,rfl⟩;refine⟨_,i0,bo (λd=>k (by unfold kl;rw[n,d];rfl)) λd=>ai (λe2=>?_) λe2=>b (by unfold kl;rw[n,d,g9 (show i=0 by omega)];rfl)⟩;rw[al ((i:Int)-1)];refine q.bH (i-1) i4 i4 (l[i-1]'(by omega)) i0 ?_;have f:l.getD (i-1) 0=l[i-1]'(by omega):=getD_lt;refine ai (λt=>k ?_) (λt=>b ?_)
  ·unfold kl;rw[n,f,d,hU (show¬i=0 by omega),hU i4];rfl
  ·unfold kl;rw[n,f,d,g9 (show l[i-1]'(by omega)<l[i]by omega)];simp
 ·have u:¬(i:Int)<(s.len:Int):=e;exact⟨by unfold rg;rw[uE λj r=>a j i4],i0⟩
theorem Fb(p:Pm)(n:Int)(h:f8)(o:n<=2^40:=by omega):ac xB 48 #[kS p,xq xx n] h λv h'=>v=xq xx (countP p n)/\Sp h h' []:=by
 refine MQ p n ?_;unfold FV;refine(Sp.refl h).boxed λr f d=>?_;refine bj ⟨p,(d.box 0 i0).aU _ i0,(eN p f).mono ?_⟩;rintro _ j ⟨rfl,k⟩;have b:=d.up k.aj;refine⟨_,i0,bo (λe=>⟨?_,b.cG []⟩) λg=>ai (λe=>⟨?_,b.cG []⟩) λe=>?_⟩
 ·unfold countP;rw[e];rfl
 ·unfold countP;rw[hU (show¬0<n by omega),Bool.and_false];rfl
 ·have i:=(cu p).1 g;refine⟨p,(b.box 0 i0).aU _ i0,?_⟩;refine(Dz p (R:=λv h'=>v=xq xx (p.1*p.2.2)/\Sp h h' []) ?_).mono ?_
  ·unfold AF;refine b.boxed λq h3 c=>⟨p.1,(c.box 1 i0).cell0 i0,p.2.2,(c.box 1 i0).cell i0,?_,c.cG []⟩
   have m:p.1*p.2.2<=16*24:=yw i4 i4 i4 i4;have a:0<=p.1*p.2.2:=vN i4 i4;rw[al _]
  ·rintro _ h3 ⟨rfl,l⟩;have a:0<p.1*p.2.2:=Int.mul_pos i4 i4;refine⟨_,i0,Int.ne_of_gt a,?_,l⟩;have f:(n-1)/(p.1*p.2.2)<=n-1:=Int.ediv_le_self _ i4;have j:0<=(n-1)/(p.1*p.2.2):=Int.ediv_nonneg i4 i4;rw[al (n-1),Int.tdiv_eq_ediv_of_nonneg i4,al ((n-1)/(p.1*p.2.2)),al _];unfold countP;rw[g,g9 (show 0<n by omega)];rfl
theorem Wv(s:Sl)(l:aC)(h:f8)(f:Rd h s 1 av l)(k:ii l<=2^40):ac xB 116 #[s,.func (.func 228) #[] #[]] h λv h'=>v=xv (!l.all (fq · 0 15))/\h'=h:=by
 refine kC s (228,#[],#[]) ?_;unfold iF;have j:=f.len;refine(iT s (228,#[],#[]) (R:=λv h'=>(∃i:Int,v=xq xx i/\(decide (i>=0)=!l.all (fq · 0 15)))/\h'=h) ?_).mono ?_
 ·unfold gD;refine aA (λi:Nat=>(i:Int)) (λi h'=>i<=ii l/\(l.take i).all (fq · 0 15)=eL/\h'=h) (λi=>ii l-i) 0 i0 ⟨i4,i9,i0⟩ ?_;rintro i c ⟨d,a,rfl⟩;refine ai (λe=>?_) (λe=>?_)
  ·have b:i<ii l:=by have g:(i:Int)<(s.len:Int):=e;omega
   refine f.bH i i0 b l[i] i0 (ff ld ?_);refine(LF l[i] (R:=λv h'=>v=xv (!fq l[i] 0 15)/\h'=c) ?_).mono ?_
   ·unfold DL;refine(sZ l[i] 0 15 c).mono ?_;rintro _ _ ⟨rfl,rfl⟩;exact⟨_,i0,i0,i0⟩
   ·rintro _ _ ⟨rfl,rfl⟩;refine⟨_,i0,bo (λe2=>?_) λe2=>?_⟩
    ·refine⟨⟨i,i0,?_⟩,i0⟩;rw[g9 (show(i:Int)>=0 by omega)];have:l.all (fq · 0 15)=eR:=yA.2 ⟨_,qg b,by rw[e2];simp⟩;rw[this];rfl
    ·refine⟨i+1,js,⟨i4,?_,i0⟩,i4⟩;rw[aK _ _ b,yS,a];simp[e2]
  ·have g:¬(i:Int)<(s.len:Int):=e;refine⟨⟨-1,i0,?_⟩,i0⟩;rw[qi i4]at a;rw[a];rfl
 ·rintro _ c ⟨⟨i,rfl,d⟩,rfl⟩;exact⟨i,i0,by rw[d],i0⟩
end Go.Qw
namespace Wl
structure cS (m:aG):Prop where
 dr:m.drives.length<=2^30
 ob:m.aH.length<=2^30
 nm:∀e∈m.aH,e.name.size<=2^30/\e.tries.length<=2^30
end Wl
namespace Go.Vc
open Go
theorem addr_add(a:eX)(i j:Nat):(a.add i).add j=a.add (i+j):=by unfold Addr.add;by_cases c:i=0<;>by_cases b:j=0<;>simp[c,b,wX]
theorem cx.Cf{h:f8}{a:eX}{e:TypeId}{b:bg}{v:Value}(d:cx h a e b)(i j:Nat)(c:b[i+j]?=dB v):f7 h ((a.add i).add j)=dB v:=by rw[addr_add];exact d.cell c
theorem cx.JI{h:f8}{a:eX}{e:TypeId}{b:bg}{u v w:Value}(c:cx h a e b)(i:Nat)(f:b[i]?=dB u)(g:b[i+1]?=dB v)(d:b[i+2]?=dB w):aq h (a.add i) 0 [u,v,w]:=
 ⟨c.Cf i 0 f,c.Cf i 1 g,c.Cf i 2 d,trivial⟩
end Go.Vc
namespace Go.Qw
open Go Go.Vc Go.Proofs Wl
abbrev PJ:bY C.toDi 42 94 4 [xu ⟨#[]⟩,xq xx 0,xq xx 0,xr eH 0 0] 56:=⟨_,_,i0,i0,i0,i0,i0,i0⟩
theorem Zn(x:bU)(m:aG)(e:dU)(E:Wl.cv)(h:f8)(j:df h x m)(I:dW jA h e E)(J:lH m=eL)(M:E.name.size<=2^30)(R:E.tries.length<=2^30):
  ac xB 164 #[fw x,xw #[xu e.1,xq xx e.2.1,xq xx e.2.2.1,e.2.2.2]] h λv h'=>v=xv (ib m E)/\Sp h h' []:=by
 refine Pv x e ?_;unfold Ia;obtain⟨_,K,c,_⟩:=Tq J;have y:=(cu m.p).1 c;obtain⟨⟨z,e2,u⟩,s⟩:=I;have g:x.2.2.1=m.p.1:=congrArg (·.1) j.p;have o:x.2.2.2.1=m.p.2.1:=congrArg (·.2.1) j.p;have d:x.2.2.2.2.1=m.p.2.2:=congrArg (·.2.2) j.p;have L:m.p.1*m.p.2.2<=16*24:=yw i4 i4 i4 i4;have F:0<=m.p.1*m.p.2.2:=vN i4 i4;refine(Sp.refl h).boxed λP Q D=>?_;refine D.boxed λN B r=>?_;have l:∀{h':f8} {As:List HP},Sp h h' As->ib m E=eR->Value.bool eR=xv (ib m E)/\Sp h h' []:=λ{h' As} H' f=>⟨by rw[f],.zip H'.aj⟩
 refine bj ⟨E.name,by rw[<-z];exact(r.box 1 i0).cell0 i0,(QO E.name B i4).mono ?_⟩;rintro _ h3 ⟨rfl,G⟩;have a:=r.up G.aj;refine⟨_,i0,bo (λb=>l a (by unfold ib;rw[b];rfl)) λk=>?_⟩;refine⟨E.object,by rw[<-e2];exact(a.box 1 i0).cell i0,m.next,by rw[<-j.next];exact(a.box 0 i0).cell i0,?_⟩;dsimp only;rw[al (m.next-1)];refine(sZ E.object 0 (m.next-1) h3).mono ?_;rintro _ _ ⟨rfl,rfl⟩;refine⟨_,i0,bo (λb=>l a (by unfold ib;rw[k,b];rfl)) λn=>?_⟩;have f:=a.box 0 i0;refine⟨E.length,by rw[<-u];exact(a.box 1 i0).cell i0,m.p.1,by rw[<-g];exact f.cell i0,m.p.2.2,by rw[<-d];exact f.Cf 2 2 i0,?_⟩;dsimp only;rw[al (m.p.1*m.p.2.2),al (m.p.1*m.p.2.2*8)];refine(sZ E.length 0 (m.p.1*m.p.2.2*8) _).mono ?_;rintro _ _ ⟨rfl,rfl⟩;refine⟨_,i0,bo (λb=>l a (by unfold ib;rw[k,n,b];rfl)) λi=>?_⟩;have t:0<=E.length/\E.length<=m.p.1*m.p.2.2*8:=by unfold fq at i;simpa using i
 refine⟨e.2.2.2,(a.box 1 i0).cell i0,?_⟩;refine(Wv e.2.2.2 E.tries _ (Seq.up s a.aj) i4).mono ?_;rintro _ _ ⟨rfl,rfl⟩;refine⟨_,i0,bo (λb=>?_) λb=>⟨trivial,l a ?_⟩⟩
 ·have q:E.tries.all (fq · 0 15)=eL:=j7
  refine⟨e.2.2.2,(a.box 1 i0).cell i0,m.p,?_,E.length,by rw[<-u];exact(a.box 1 i0).cell i0,?_⟩
  ·rw[<-g,<-o,<-d];exact f.JI 2 i0 i0 i0
  ·refine(Fb m.p E.length _).mono ?_;rintro _ O ⟨rfl,H⟩;have w:=a.up H.aj;refine⟨_,i0,⟨(w.box 1 i0).cell i0,trivial⟩,?_,.zip w.aj⟩;unfold ib;have A:=s.len;rw[k,n,i,q,A];simp;rfl
 ·have q:E.tries.all (fq · 0 15)=eR:=j7
  unfold ib;rw[k,n,i,q];rfl
theorem Ww(a:eX)(e:dU)(l:Sl)(b:List Wl.cv)(h:f8)(p:cx h a 94 (bI e))(o:dW Aa h l b)(F:b.length<=2^30):
  ac xB 165 #[l,.func (.func 166) #[] #[xt (dB a)]] h λv h'=>v=xv (b.any λy=>decide (y.object=e.2.1))/\Sp h h' []:=by
 refine gJ l (166,#[],#[xt (dB a)]) ?_;unfold fe;refine(im l (166,#[],#[xt (dB a)]) (R:=λv h'=>(∃i:Int,v=xq xx i/\(decide (i>=0)=b.any λy=>decide (y.object=e.2.1)))/\Sp h h' []) ?_).mono ?_
 ·unfold fG;obtain⟨r,t,E,x⟩:=bO.kt o;have z:=bO.len o;refine aA (λi:Nat=>(i:Int)) (λi h'=>i<=b.length/\(b.take i).any (λy=>decide (y.object=e.2.1))=eR/\Sp h h' []) (λi=>b.length-i) 0 i0 ⟨i4,i9,Sp.refl h⟩ ?_;rintro i n ⟨q,c,j⟩;refine ai (λk=>?_) (λk=>?_)
  ·have d:i<b.length:=by have A:(i:Int)<(l.len:Int):=k;omega
   obtain⟨⟨_,w,_⟩,_⟩:=x i i4 d;refine(Seq.up t j.aj).eu (g:=bI) i i0 i4 (r[i]'(by omega)) i0 (ff ld ?_);refine(Pw (r[i]'(by omega)) a (R:=λv h'=>v=xv (b[i].object==e.2.1)/\Sp n h' []) ?_).mono ?_
   ·unfold Ib;refine(Sp.refl n).boxed λD s f=>?_;have m:=p.aj (up j.aj f.aj) p.lt;exact⟨b[i].object,by rw[<-w];exact(f.box 0 i0).cell i0,e.2.1,m.cell i0,i0,.zip f.aj⟩
   ·rintro _ s ⟨rfl,u⟩;have f:=j.up u.aj;refine⟨_,i0,cy (λe2=>?_) λe2=>?_⟩
    ·refine⟨⟨i,i0,?_⟩,f⟩;rw[g9 (show(i:Int)>=0 by omega)];exact(wz.2 ⟨_,qg d,nq⟩).symm
    ·refine⟨i+1,js,⟨i4,?_,f⟩,i4⟩;rw[aK _ _ d,yT,c];simpa using e2
  ·have A:¬(i:Int)<(l.len:Int):=k;refine⟨⟨-1,i0,?_⟩,j⟩;rw[qi i4]at c;rw[c];rfl
 ·rintro _ n ⟨⟨i,rfl,q⟩,B⟩;exact⟨i,i0,by rw[q],B⟩
theorem LM(x:bU)(m:aG)(h:f8)(k:df h x m)(P:cS m):ac xB 95 #[fw x] h λv h'=>v=xv (bS m)/\Sp h h' []:=by
 refine Ub x ?_;unfold Nb;refine(Sp.refl h).boxed λT h1 E=>?_;have r:=E.box 0 i0;have N:x.2.2.1=m.p.1:=congrArg (·.1) k.p;have O:x.2.2.2.1=m.p.2.1:=congrArg (·.2.1) k.p;have S:x.2.2.2.2.1=m.p.2.2:=congrArg (·.2.2) k.p;have z:∀{h':f8} {As:List HP},Sp h h' As->bS m=eR->Value.bool eR=xv (bS m)/\Sp h h' []:=λ{h' As} H' r=>⟨sL,.zip H'.aj⟩
 refine bj ⟨m.seq,by rw[<-k.seq];exact r.cell0 i0,(sZ m.seq 1 2147483647 h1).mono ?_⟩;rintro _ _ ⟨rfl,rfl⟩;refine⟨_,i0,bo (λb=>z E (by unfold bS lH;rw[b];rfl)) λH=>?_⟩;refine⟨m.next,by rw[<-k.next];exact r.cell i0,(sZ m.next 0 16777216 _).mono ?_⟩;rintro _ _ ⟨rfl,rfl⟩;refine⟨_,i0,bo (λb=>z E (by unfold bS lH;rw[H,b];rfl)) λL=>?_⟩;refine⟨m.p,by rw[<-N,<-O,<-S];exact r.JI 2 i0 i0 i0,(eN m.p _).mono ?_⟩;rintro _ h2 ⟨rfl,R2⟩;have n:=E.up R2.aj;refine⟨_,i0,bo (λb=>z n (by unfold bS lH;rw[H,L,b];rfl)) λY=>?_⟩;refine⟨m.extra,by rw[<-k.extra];exact(n.box 0 i0).cell i0,(sZ m.extra 0 16 _).mono ?_⟩;rintro _ _ ⟨rfl,rfl⟩;refine⟨_,i0,bo (λb=>z n (by unfold bS lH;rw[H,L,Y,b];rfl)) λb4=>?_⟩;have F:lH m=eL:=by unfold lH;rw[H,L,Y,b4];rfl
 have Q:=k.up n.aj;have A:=n.box 0 i0;have ab:=P.dr;have ad:=P.ob;refine bj ⟨_,A.cell i0,(abL _ m.drives 63 _ Q.drives i4).mono ?_⟩;rintro _ _ ⟨rfl,rfl⟩;refine⟨_,i0,bo (λb=>z n (by unfold bS;rw[F,b];rfl)) λb5=>?_⟩;have W:=bO.len k.aH;refine⟨x.2.2.2.2.2.2.2,A.cell i0,ai (λe=>z n ?_) λam=>?_⟩
 ·unfold bS;rw[F,b5,hU i4];rfl
 have M:ii m.aH<=12:=i4
 refine⟨x.2.2.2.2.2.2.2,A.cell i0,?_⟩;obtain⟨l,B⟩:=bO.fix k.aH;have ah:=B.2.1;refine aA (λi:Nat=>(i:Int)) (λi h'=>i<=ii m.aH/\(∀j,j<i->rh m j=eL)/\Sp h h' [au T 44 (aV x)]) (λi=>ii m.aH-i) 0 i0 ⟨i4,i4,n⟩ ?_;rintro i h3 ⟨hi,o,R⟩;refine ai (λe=>?_) (λe=>?_)
 ·have f:i<ii m.aH:=by have e':(i:Int)<(x.2.2.2.2.2.2.2.len:Int):=e;omega
  have D:=P.nm _ (qg f);have c:rf m.aH i=m.aH[i]:=pk f;have s:∀{h':f8} {As:List HP},Sp h h' As->rh m i=eR->Value.bool eR=xv (bS m)/\Sp h h' []:=λ{h' As} H' r=>z H' (by unfold bS;rw[Hk f r];simp);have F3:=oC.up B R.aj;refine F3.1.eu (g:=bI) i i0 i4 (l[i]'(by omega)) i0 ?_;refine R.alloc af i0 λy h4 H4=>?_;refine H4.storeAll af 1 i0 i0 (bI (l[i]'(by omega))) i0 i0 i0 i0 λZ w=>?_;have w:Sp h Z [au T 44 (aV x),au y 94 (bI (l[i]'(by omega)))]:=w;have X:=oC.up B w.aj;obtain⟨⟨y1,y2,y3⟩,y4⟩:=Fix.row X f;obtain⟨b6,d⟩:∃b,b=(decide (i=0)||ft (rf m.aH (i-1)).name (rf m.aH i).name):=⟨_,rfl⟩
  refine bX (λ_ h'=>ib m m.aH[i]=eL/\b6=eL/\Sp h h' [au T 44 (aV x),au y 94 (bI (l[i]'(by omega)))]) ?_ ?_
  ·refine⟨x,(w.box 0 i0).aU _ i0,l[i]'(by omega),(w.box 1 i0).aU _ i0,?_⟩;refine(Zn x m (l[i]'(by omega)) m.aH[i] Z (k.up w.aj) (Fix.row X f) F D.1 D.2).mono ?_;rintro _ V ⟨rfl,R6⟩;have a:=w.up R6.aj;have G:=oC.up B a.aj;refine⟨_,i0,trivial,bo (λb=>s a (by unfold rh;rw[c,b];rfl)) λb=>ai (λe2=>?_) λe2=>⟨b,by rw[d,g9 (show i=0 by omega)];rfl,a⟩⟩;rw[al ((i:Int)-1)];obtain⟨U,ha,zz,hc,rfl⟩:=G.1.eu (g:=bI) (i:=(i:Int)-1) (i-1) i4 i4 (l[i-1]'(by omega)) rfl (K:=λt=>t=l[i-1]'(by omega)) rfl;refine⟨x.2.2.2.2.2.2.2,(a.box 0 i0).cell i0,U,ha,m.aH[i-1].name,?_,m.aH[i].name,?_,?_⟩
   ·rw[<-(Fix.row G (show i-1<ii m.aH by omega)).1.1];exact hc.1
   ·rw[<-y1];exact(a.box 1 i0).cell0 i0
   ·have q:rf m.aH (i-1)=m.aH[i-1]:=pk;rw[c,q]at d;refine bo (λu=>s a ?_) (λu=>⟨b,?_,a⟩)
    ·unfold rh;rw[c,q,b,hU (show¬i=0 by omega)];unfold ft;rw[u];rfl
    ·rw[d];unfold ft;rw[u];simp
  ·rintro _ V ⟨b,I,a⟩;have G:=oC.up B a.aj;refine⟨x.2.2.2.2.2.2.2,(a.box 0 i0).cell i0,⟨i4,by have:=k.ocap;omega⟩,?_⟩;rw[ql];refine(Ww y (l[i]'(by omega)) ⟨x.2.2.2.2.2.2.2.ptr,i,x.2.2.2.2.2.2.2.cap⟩ (m.aH.take i) V (a.box 1 i0) (bO.take G.elt i i4) i7).mono ?_;rintro _ h7 ⟨rfl,R7⟩;have H7:=a.up R7.aj;rw[y2];refine⟨_,i0,bC (λu=>s H7 ?_) λu=>?_⟩
   ·unfold rh;rw[c,u];simp
   ·refine⟨i+1,js,⟨i4,λj hj=>?_,H7.cG [0]⟩,i4⟩;by_cases J:j=i
    ·subst J;rw[I]at d;unfold rh;rw[<-d,c,b,u];rfl
    ·exact o j i4
 ·have e':¬(i:Int)<(x.2.2.2.2.2.2.2.len:Int):=e;refine⟨?_,.zip R.aj⟩;unfold bS;rw[F,b5,g9 M,uE λj hj=>o j i4];rfl
section
variable {B:aD} {h0 h:f8} {As:List HP}
theorem tO(s:Sl)(l:bf)(n:Int)(k:Nat)(r:k<=4)(w:ii l<=2^20)(H:aa B h0 h (ak 5 s 1 aF l::As)):
  ac xB 169 #[s,xq xx n,xq xx k] h λv h'=>∃b:Sl,v=b/\aa B h0 h' (ak 5 b 1 aF (l++ci n k)::As):=by
 refine Np s n k ?_;unfold Gj;have f:=cI n k;refine aA (λt:Sl×Nat=>(t.1,(k:Int)-1-t.2)) (λt h'=>t.2<=k/\aa B h0 h' (ak 5 t.1 1 aF (l++(ci n k).take t.2)::As)) (λt=>k-t.2) (s,0) (by rw[al _];simp) ⟨i9,l6⟩ ?_;rintro⟨o,j⟩ x ⟨q,a⟩;dsimp only at*;refine ai (λe=>?_) (λe=>?_)
 ·have g:j<k:=i4
  rw[al ((8:Int)*((k:Int)-1-j))];refine⟨i4,?_⟩;have p:((8:Int)*((k:Int)-1-j)).toNat=8*(k-1-j):=i4
  have i:min (8*(k-1-j)) (qk xx)=8*(k-1-j):=by have:qk xx=64:=rfl;omega
  rw[p,i,ey];have m:b8 (qX n (2^(8*(k-1-j))))=(ci n k)[j]'(by omega):=by simp[ci]
  rw[m];refine a.push af 0 i0 hJ i0 i5 (λ_=>rfl) iM ((ci n k)[j]'(by omega)) i0 i5 i7 λd u c=>?_;refine⟨(d,j+1),by dsimp only;rw[al _];congr 1;omega,⟨i6,?_⟩,i6⟩;dsimp only;rw[aK _ _ (show j<ii (ci n k) by omega),<-qp];exact c
 ·rw[qi i4]at a;exact⟨o,i0,a⟩
theorem NG(b:Sl)(l:aC)(o:Sl)(c:bf)(H:aa B h0 h (ak 5 o 1 aF c::As))(r:St B h0 As λh=>Rd h b 1 av l)(D:ii c<=2^30)(F:ii l<=2^30){K:Sl×Int->f8->Prop}
  (x:∀q h',aa B h0 h' (ak 5 q 1 aF (c++l.map b8)::As)->K (q,(ii l:Int)) h'):
  aL (σ:=Sl×Int) (λa w h8=>
 Br (decide (a.2<((b.len:Nat):Int)))
 (∃k:eX,(b.ptr=dB k/\0<=a.2/\a.2<((b.len:Nat):Int))/\
 ∃j:Int,f7 h8 (k.add (a.2.toNat*1))=dB (xq xx j)/\
 aB xB (Instr.buildSlice 34 1 #[(0,(xq xy (qc xy j)))]) (.one (.sc .slc)) h8 λf v=>
 aB xB (Builtin.append_ #[34,34] 34 #[(xr a.1.ptr a.1.len a.1.cap),(xr f.ptr f.len f.cap)]) (.one (.sc .slc)) v λd p=>
 w ((⟨d.ptr,d.len,d.cap⟩:Sl),qc xx (a.2+(1:Int))) p)
 (K a h8)) (o,(0:Int)) h:=by
 have z:b.len=ii l:=(r.at [_] H).len;refine aA (λt:Sl×Nat=>(t.1,(t.2:Int))) (λt h'=>t.2<=ii l/\aa B h0 h' (ak 5 t.1 1 aF (c++(l.take t.2).map b8)::As)) (λt=>ii l-t.2) (o,0) i0 ⟨i9,l6⟩ ?_;rintro⟨u,i⟩ y ⟨G,m⟩;dsimp only at*;refine ai (λe=>?_) (λe=>?_)
 ·have g:i<ii l:=i4
  refine(r.at [_] m).bH i i0 g l[i] i0 ?_;rw[ey];refine m.push af 0 i0 hJ i0 i5 (λ_=>rfl) iM (b8 l[i]) i0 i5 i7 λA E s=>?_;refine⟨(A,i+1),jj,⟨i6,?_⟩,i6⟩;dsimp only;rw[aK _ _ g,qU,<-qp];exact s
 ·have n:i=ii l:=i4
  subst n;rw[qY]at m;exact x u y m
end
theorem ahv{m:aG}(a:bS m=eL){i:Nat}(b:i<ii m.aH):ib m m.aH[i]=eL:=by
 unfold bS at a;simp only[qB]at a;have:=q9.1 a.2.2.2 i (qJ.2 b);unfold rh at this;simp only[qB]at this;have c:=this.1
 rwa [pk b]at c
theorem abM{m:aG}(d:bS m=eL){i:Nat}(f:i<m.aH.length):m.aH[i].name.size<=12/\m.aH[i].tries.length<=3073:=by
 have b:=ahv d f;unfold ib mY at b;simp only[qB,decide_eq_true_eq]at b;obtain⟨⟨_,_,g⟩,_,h3,_,c⟩:=b;refine⟨g,?_⟩;obtain⟨_,_,a,_⟩:=Tq (aaZ d);have e:=(cu m.p).1 a;unfold fq at h3;simp only[qB,decide_eq_true_eq]at h3;have j:m.p.1*m.p.2.2<=16*24:=yw i4 i4 i4 i4;unfold countP at c;split at c
 ·have:(m.aH[i].length-1)/(m.p.1*m.p.2.2)<=m.aH[i].length-1:=Int.ediv_le_self _ (by rename_i h;simp at h;omega);omega
 ·omega
theorem abN{m:aG}(b:bS m=eL){i:Nat}(a:i<ii m.aH):ii (jF m.aH[i])<=4000:=by have:=abM b a;unfold jF;simp[cI];have:m.aH[i].name.data.size=m.aH[i].name.size:=rfl;omega
theorem Iy{m:aG}(a:bS m=eL):∀n,n<=ii m.aH->ii ((m.aH.take n).flatMap jF)<=n*4000
 |0,_=>i9
 |n+1,hn=>by
  rw[aK _ _ (show n<ii m.aH by omega),zd,qx];have c:=Iy a n i4;have b:=abN a (show n<ii m.aH by omega);have h3:ii ([m.aH[n]].flatMap jF)=ii (jF m.aH[n]):=by rw[zk,zZ,qO]
  omega
theorem LN{m:aG}(a:bS m=eL):ii m.aH<=12:=by unfold bS at a;simp only[qB,decide_eq_true_eq]at a;exact a.2.2.1
theorem LO(m:aG)(k:cS m):ii (gW m)<=100000:=by
 unfold gW;split
 ·rename_i f;have d:=f;unfold bS at d;simp only[qB,decide_eq_true_eq]at d;have j:ii m.drives<=64:=by
   have a:=d.2.1;unfold rg at a;rw[q9]at a;by_cases g:ii m.drives<=64
   ·exact g
   ·exfalso;have c:∀i,i<ii m.drives->(i:Int)<=m.drives.getD i 0:=λi=>by
     induction i with
     |zero=>
      intro b;have:=a 0 (qJ.2 b);unfold kl fq at this;simp at this;simpa using this.1
     |succ i ih=>
      intro b;have:=a (i+1) (qJ.2 b);have h3:=ih i4;unfold kl fq at this;simp at this;have e:=this.2;simp only[qe]at h3⊢;omega
    have h3:=c 64 i4;have e:=a 64 (qJ.2 i4);unfold kl fq at e;simp at e;simp only[qe]at h3;omega
  have h:ii (m.aH.flatMap jF)<=12*4000:=by have a:=Iy f m.aH.length (qm _);rw[qY]at a;have:=zH 4000 (LN f);omega
  simp only[qx,zn,yU,qz,cI];omega
 ·simp
theorem abO(x:bU)(m:aG)(h:f8)(d:df h x m)(hz:cS m):ac xB 100 #[fw x] h λv h'=>∃r:Sl,v=r/\Sp h h' [ak 5 r 1 aF (gW m)]:=by
 refine RL x ?_;unfold Kr;refine(Sp.refl h).boxed λa1 h1 U=>?_;refine⟨x,(U.box 0 i0).aU _ i0,(LM x m h1 (d.up U.aj) hz).mono ?_⟩;rintro _ h2 ⟨rfl,R2⟩;have H2:=U.up R2.aj;refine⟨_,i0,bo (λe=>?_) λz=>?_⟩
 ·unfold gW;rw[e];exact⟨⟨eH,0,0⟩,i0,((H2.nil 5 1 aF).cG [1])⟩
 have ab:x.2.2.1=m.p.1:=congrArg (·.1) d.p;have ao:x.2.2.2.1=m.p.2.1:=congrArg (·.2.1) d.p;have ax:x.2.2.2.2.1=m.p.2.2:=congrArg (·.2.2) d.p;have M:=H2.box 0 i0;have b:=LO m hz;unfold gW at b;rw[z,f9 rfl]at b;have hM:∀{h':f8} {As:List HP},Sp h h' As->df h' x m:=λ{h' As} B=>d.up B.aj;refine bj ⟨m.seq,by rw[<-d.seq];exact M.cell0 i0,m.next,by rw[<-d.next];exact M.cell i0,?_⟩;have H3:=(H2.nil 5 1 aF).bA;refine(tO ⟨eH,0,0⟩ [] m.seq 4 i5 i9 H3).mono ?_;rintro _ h4 ⟨s4,rfl,H4⟩;refine⟨s4,i0,⟨by rw[<-d.next];exact(H4.box 1 i0).cell i0,trivial⟩,?_⟩;refine(tO s4 _ m.next 4 i5 o9 H4).mono ?_;rintro _ h5 ⟨s5,rfl,H5⟩;refine⟨s5,i0,trivial,?_⟩;have f:=H5.box 1 i0;refine⟨m.p.1,by rw[<-ab];exact f.cell i0,m.p.2.1,by rw[<-ao];exact f.Cf 2 1 i0,m.p.2.2,by rw[<-ax];exact f.Cf 2 2 i0,m.extra,by rw[<-d.extra];exact f.cell i0,x.2.2.2.2.2.2.1,f.cell i0,?_⟩;have T:=d.drives.len;have ap:=bO.len d.aH;dsimp only;rw[ey,ey,ey,ey,ey,T];refine H5.lit af aF hJ i0 [b8 m.p.1,b8 m.p.2.1,b8 m.p.2.2,b8 m.extra,b8 (m.drives.length:Nat)] i0 (show 5*1<=2^20 by decide) i0 λbb h6 H6=>?_;refine H6.append af 0 i0 hJ ⟨_,_,i0,i0⟩ i0 i5 (λ_=>rfl) (H6.seq 2 i0 λ_=>rfl) iM o9 λs7 h7 R=>?_;have R:=R.cG [0,1];refine⟨x.2.2.2.2.2.2.1,(R.box 1 i0).cell i0,?_⟩;have a2:(([]++ci m.seq 4)++ci m.next 4++[b8 m.p.1,b8 m.p.2.1,b8 m.p.2.2,b8 m.extra,b8 (m.drives.length:Nat)]).length=13:=o9
 have a5:=hz.dr;refine NG x.2.2.2.2.2.2.1 m.drives s7 _ R (St.mk' λh' B=>(hM B).drives) i4 i4 λs8 h8 H8=>?_;dsimp only;refine⟨x.2.2.2.2.2.2.2,(H8.box 1 i0).cell i0,?_⟩;dsimp only;rw[ey,ap];obtain⟨a,c⟩:∃a,a=([]++ci m.seq 4)++ci m.next 4++[b8 m.p.1,b8 m.p.2.1,b8 m.p.2.2,b8 m.extra,b8 (m.drives.length:Nat)]++m.drives.map b8:=⟨_,rfl⟩
 rw[<-c]at H8;have am:a.length=13+m.drives.length:=by rw[c];simp[cI];omega
 simp only[qx,zn,yU,qz,cI]at b;refine H8.push af 0 i0 hJ i0 i5 (λ_=>rfl) iM (b8 (m.aH.length:Nat)) i0 i5 i4 λs9 h9 P=>?_;have P:Sp h h9 [ak 5 s9 1 aF (a++[b8 (m.aH.length:Nat)]),au a1 44 (aV x)]:=P;refine⟨x.2.2.2.2.2.2.2,(P.box 1 i0).cell i0,?_⟩;obtain⟨L,Q⟩:=bO.fix d.aH;have bk:=Q.2.1;refine aA (λt:Sl×Nat=>(t.1,(t.2:Int))) (λt h'=>t.2<=m.aH.length/\Sp h h' [ak 5 t.1 1 aF (a++[b8 (m.aH.length:Nat)]++(m.aH.take t.2).flatMap jF),au a1 44 (aV x)]) (λt=>m.aH.length-t.2) (s9,0) i0 ⟨i9,by simpa using P⟩ ?_;rintro⟨o,i⟩ a8 ⟨hi,l⟩;dsimp only at*;refine ai (λe=>?_) (λe=>?_)
 ·have n:i<m.aH.length:=i4
  have ad:=oC.up Q l.aj;have S:=abM z n;have q:((m.aH.take i).flatMap jF).length<=50000:=by have h1:=Iy z i hi;have:=LN z;have:i*4000<=12*4000:=zH _ i4;omega
  refine ad.1.eu (g:=bI) i i0 i4 (L[i]'(by omega)) i0 ?_;refine l.alloc af i0 λa0 a7 ar=>?_;refine ar.storeAll af 2 i0 i0 (bI (L[i]'(by omega))) i0 i0 i0 i0 λZ k=>?_;have W:=oC.up Q k.aj;obtain⟨⟨w,y2,V⟩,y4⟩:=Fix.row W n;obtain⟨E,hE⟩:∃E,E=m.aH[i]:=⟨_,rfl⟩
  rw[<-hE]at w y2 V y4 S;have u:=k.box 2 i0;refine bj ⟨E.name,nb,E.name,nb,?_⟩;rw[ey];refine k.nQ af aF hJ i0 [b8 (E.name.size:Nat)] i0 (show 1*1<=2^20 by decide) i0 ⟨nb,nb,trivial⟩ ?_;have D:(a++[b8 (m.aH.length:Nat)]++(m.aH.take i).flatMap jF).length<=160000:=by rw[qx,qx,am];simp;simp at q;omega
  obtain⟨j,H⟩:∃j,j=a++[b8 (m.aH.length:Nat)]++(m.aH.take i).flatMap jF:=⟨_,rfl⟩
  rw[<-H]at k D;refine k.push af 0 i0 hJ i0 i5 (λ_=>rfl) iM (b8 (E.name.size:Nat)) i0 i5 i4 λbd a4 I=>?_;have A:=I.box 2 i0;refine⟨⟨by rw[<-w];exact A.cell0 i0,by rw[<-w];exact A.cell0 i0,trivial⟩,?_⟩;refine I.aaY af 0 i0 hJ ⟨_,i0,i0⟩ i0 i5 E.name i7 λF ah s=>?_;have y:=s.box 2 i0;refine⟨⟨by rw[<-w];exact y.cell0 i0,trivial⟩,?_⟩;have s:Sp h ah [ak 5 F 1 aF (j++[b8 (E.name.size:Nat)]++jv E.name),au a1 44 (aV x),au a0 94 (bI (L[i]'(by omega)))]:=s;refine bj ⟨E.object,by rw[<-y2];exact y.cell i0,E.length,by rw[<-V];exact y.cell i0,?_⟩;have a3:=Ew E.name;refine(tO F _ E.object 3 i5 i7 s).mono ?_;rintro _ a9 ⟨K,rfl,O⟩;have Y:=O.box 2 i0;refine⟨K,i0,⟨by rw[<-V];exact Y.cell i0,trivial⟩,?_⟩;refine(tO K _ E.length 2 i5 m0 O).mono ?_;rintro _ a6 ⟨J,rfl,N⟩;have X:=N.box 2 i0;refine⟨J,i0,trivial,(L[i]'(by omega)).2.2.2,X.cell i0,?_⟩;refine NG (L[i]'(by omega)).2.2.2 E.tries J _ N (St.mk' λh' B=>by rw[hE];exact(Fix.row (oC.up Q B.aj) n).2) m0 i4 λay bl G=>?_;dsimp only;have Z:=LN z;refine⟨(ay,i+1),jj,⟨i6,?_⟩,i6⟩;dsimp only;rw[aK _ _ n,zd,<-qp,<-H,zk,zZ,qO,<-hE];have e3:j++[b8 (E.name.size:Nat)]++jv E.name++ci E.object 3++ci E.length 2++E.tries.map b8=j++jF E:=by unfold jF jv;simp[qp]
  rw[e3]at G;exact G.cG [0,1]
 ·rw[qi i4]at l;refine⟨o,i0,?_⟩;have e2:a++[b8 (m.aH.length:Nat)]++m.aH.flatMap jF=gW m:=by rw[c];unfold gW;rw[z,f9 rfl];simp[qp]
  rw[e2]at l;exact l.cG [0]
end Go.Qw
namespace Go.Vc
open Go Wl
def dO{α:Type}(k:Nat)(f:α->bg)(L:List (Sl×List α)):HP:=⟨λh q=>∀y∈L,Seq h q y.1 k f y.2,λa d y b=>(a y b).aj d,λa c y b=>(a y b).mono c⟩
section
variable {α:Type} {B:aD} {h0 h:f8} {As:List HP} {k:Nat} {f:α->bg} {L:List (Sl×List α)} {s:Sl} {l:List α}
theorem aa.XX(H:aa B h0 h As)(k:Nat)(f:α->bg):aa B h0 h (dO k f []::As):=
 (H.comp (.one (A:=dO k f []) (be.refl _ _) λy a=>by cases a)).bA
theorem aa.XY(H:aa B h0 h (dO k f L::uC s k f l::As)):aa B h0 h (dO k f ((s,l)::L)::As):=by
 have g:aa B h0 h ((uC s k f l).sep (dO k f L)::As):=H.mj;refine g.fZ 0 i0 λq ⟨i,j,_,b,c,d,e⟩ y a=>?_;rcases zb.1 a with rfl|a
 ·exact d.mono b
 ·exact(e y a).mono c
end
end Go.Vc
namespace Go.Qw
open Go Go.Vc Go.Proofs Wl
theorem aiT(n:Int):ci n 4=[b8 (qX n (2^24)),b8 (qX n (2^16)),b8 (qX n (2^8)),b8 n]:=by
 have e:qX n (2^0)=n:=i9
 show[b8 (qX n (2^24)),b8 (qX n (2^16)),b8 (qX n (2^8)),b8 (qX n (2^0))]=_;rw[e]
theorem abP(seq a c:Int)(b:Sl)(l:bf)(h:f8)(p:Rd h b 1 aF l)(u:ii l<=2^20):ac xB 101 #[xq xx seq,xq xx a,xq xx c,b] h λv h'=>∃r:Sl,v=r/\Sp h h' [ak 5 r 1 aF (kF seq a c l)]:=by
 refine Uc seq a c b ?_;unfold Nd;refine⟨i5,i5,i5,?_⟩;have i:min (24:Int).toNat (qk xx)=24:=rfl;have j:min (16:Int).toNat (qk xx)=16:=rfl;have t:min (8:Int).toNat (qk xx)=8:=rfl;rw[i,j,t,ey,ey,ey,ey,ey,ey,ey];have d:=aiT seq;generalize b8 (qX seq (2^24))=c1 at d⊢;generalize b8 (qX seq (2^16))=c2 at d⊢;generalize b8 (qX seq (2^8))=c3 at d⊢;generalize b8 seq=c4 at d⊢;have e:kF seq a c l=dX 2 ([c1,c2,c3,c4]++([b8 a,b8 c,b8 (b.len:Nat)]++l)):=by unfold kF;rw[d,p.len]
 generalize b8 a=c5 at e⊢;generalize b8 c=c6 at e⊢;generalize b8 (b.len:Nat)=c7 at e⊢;refine(Sp.refl h).lit af aF hJ i0 [c1,c2,c3,c4,c5,c6,c7] i0 (show 7*1<=2^20 by decide) j1 λx w o=>?_;refine o.append af 0 i0 hJ ⟨_,_,i0,i0⟩ i0 i5 (λ_=>rfl) (Seq.up p o.aj) iM i7 λq m k=>?_;have n:Rd m q 1 aF ([c1,c2,c3,c4,c5,c6,c7]++l):=k.seq 0 i0 λ_=>rfl;have f:ii ([c1,c2,c3,c4,c5,c6,c7]++l)<=2^40:=i7
 rw[e];have g:[c1,c2,c3,c4,c5,c6,c7]++l=[c1,c2,c3,c4]++([c5,c6,c7]++l):=rfl;rw[<-g];generalize [c1,c2,c3,c4,c5,c6,c7]++l=ll at n f⊢;refine(Ix 2 q ll m n f).mono ?_;rintro _ h3 ⟨r,rfl,s⟩;exact⟨r,i0,r,i0,(aa.comp (Sp.zip k.aj) s)⟩
theorem nX(x:bU)(m:aG)(h:f8)(B:df h x m)(z:cS m):ac xB 42 #[fw x] h λv h'=>∃r:Sl,v=r/\Sp h h' [eE r (bu m)]:=by
 refine Pk x ?_;unfold HM;refine(Sp.refl h).boxed λA P q=>?_;refine⟨x,(q.box 0 i0).aU _ i0,(abO x m P (B.up q.aj) z).mono ?_⟩;rintro _ L ⟨b,rfl,M⟩;have j:=q.comp M;have k:=LO m z;obtain⟨l,s⟩:∃l,l=gW m:=⟨_,rfl⟩
 rw[<-s]at j k;have H:=(j.own 1 i0).len;have u:=(j.own 1 i0).cap;refine⟨b,i0,i5,?_⟩;have f:qc xx (wy (qc xx ((qc xx (((b.len:Nat):Int)+(48:Int)))-(1:Int))) (48:Int))=(iI l:Int):=by rw[al ((b.len:Int)+48),al ((b.len:Int)+48-1),Int.tdiv_eq_ediv_of_nonneg i4];unfold iI;rw[al (((b.len:Int)+48-1)/48)];omega
 have I:iI l<=3000:=by unfold iI;omega
 rw[f];obtain⟨d,a⟩:∃d:cL,d=bu m:=⟨_,rfl⟩
 have D:ii d=iI l:=by rw[a,s];simp[bu]
 have g:Sp h L [eE ⟨eH,0,0⟩ (d.take 0),au A 44 (aV x),ak 5 b 1 aF l]:=j.Cz 34 5 1 aF;refine aA (λt:Sl×Nat=>(t.1,(t.2:Int))) (λt h'=>t.2<=iI l/\Sp h h' [eE t.1 (d.take t.2),au A 44 (aV x),ak 5 b 1 aF l]) (λt=>iI l-t.2) (⟨eH,0,0⟩,0) i0 ⟨i9,g⟩ ?_;rintro⟨o,i⟩ h3 ⟨R,g⟩;dsimp only at*;refine ai (λe=>?_) (λe=>?_)
 ·have n:i<iI l:=i4
  have y:48*i<ii l:=by unfold iI at n;omega
  rw[al ((i:Int)*48),al ((i:Int)+1),al (((i:Int)+1)*48)];obtain⟨c,J⟩:∃c:Nat,c=min (48*i+48) l.length:=⟨_,rfl⟩
  have p:(if((i:Int)+1)*48<((b.len:Nat):Int)then((i:Int)+1)*48 else((b.len:Nat):Int))=(c:Int):=by split<;>omega
  rw[p];refine⟨m.seq,by rw[<-B.seq];exact(g.box 1 i0).cell0 i0,⟨i4,i4,i4⟩,?_⟩;have F:((i:Int)*48).toNat=48*i:=i4
  rw[F,ql];have w:=((g.seq 2 i0 λ_=>rfl).drop (48*i) u).take (c-48*i) l4;have e2:(l.drop (48*i)).take (c-48*i)=(l.drop (48*i)).take 48:=by
   by_cases S:48*i+48<=ii l
   ·rw[show c-48*i=48 by omega]
   ·rw[qi l4,qi l4]
  rw[e2,z6]at w;refine(abP m.seq i (iI l) ⟨_,c-48*i,b.cap-48*i⟩ _ h3 (by rw[z6];exact w) i7).mono ?_;rintro _ Q ⟨r,rfl,O⟩;have E:=(g.co O).aX 4 [1,0,2,3];refine⟨r,i0,trivial,?_⟩;refine E.nQ af bw fL i0 [r] i0 (show 1*1<=2^20 by decide) i0 trivial ?_;refine E.Jr af fL i7 λG T N=>⟨trivial,?_⟩
  refine⟨(G,i+1),i0,⟨i6,?_⟩,i6⟩;dsimp only;rw[aK _ _ (show i<ii d by omega)];have K:d[i]'(by omega)=kF m.seq i (iI l) ((l.drop (48*i)).take 48):=by subst a;subst s;simp[bu]
  rw[K];exact N
 ·rw[qi i4,a]at g;exact⟨o,i0,g.cG [0]⟩
theorem Wx(s:Sl)(a:List dU)(h:f8)(b:Rd h s 4 bI a)(g:ii a<=2^30):ac xB 129 #[s] h λv h'=>∃r:Sl,v=r/\Sp h h' [ak 94 r 4 bI a]:=by
 refine nz s ?_;unfold jz;refine bC (λe=>?_) (λe=>?_)
 ·have:=b.isNil e;subst this;exact⟨⟨eH,0,0⟩,i0,(Sp.refl h).nil 94 4 bI⟩
 ·refine(Sp.refl h).lit af bI PJ i0 ([]:List dU) i0 i5 i0 λj k c=>?_;refine c.append af 0 i0 PJ ⟨_,_,i0,i0⟩ i0 i5 (λ_=>rfl) (Seq.up b c.aj) PI i7 λf i d=>?_;exact⟨f,i0,d⟩
def Fc(pool:List (Sl×aC))(p:dU×Wl.cv):Prop:=(p.1.1=p.2.name/\p.1.2.1=p.2.object/\p.1.2.2.1=p.2.length)/\(p.1.2.2.2,p.2.tries)∈pool
theorem aa.Fe{B:aD}{l h:f8}{As:List HP}{y:bU}{m:aG}{L:List (dU×Wl.cv)}{pool:List (Sl×aC)}(d:y.1=m.seq/\y.2.1=m.next/\(y.2.2.1,y.2.2.2.1,y.2.2.2.2.1)=m.p/\y.2.2.2.2.2.1=m.extra)(n:L.map zJ=m.aH)(v:∀p∈L,Fc pool p)
  (H:aa B l h (dO 1 av pool::ak 3 y.2.2.2.2.2.2.1 1 av m.drives::ak 94 y.2.2.2.2.2.2.2 4 bI (L.map qH)::As)):aa B l h (cj y m::As):=by
 have i:=(H.own 2 i0)
 have g:=(H.own 1 i0)
 have u:=((H.freeze 1 i0 λ_=>rfl).freeze 2 i0 λ_=>rfl).mj.mj;refine u.fZ 0 i0 λq ⟨E,F,_,b,c,A,w⟩=>?_;obtain⟨G,I,_,t,z,z3,z4⟩:=w;refine⟨d.1,d.2.1,d.2.2.1,d.2.2.2,z3.mono λx k=>c x (t x k),⟨L.map qH,A.mono b,by rw[<-n];simp,λj r e a f=>?_⟩,g.cap,i.cap⟩;rw[<-n]at f;rw[qT]at a f;cases hj:L[j]? with
 |none=>rw[hj]at a;cases a
 |some p=>
  rw[hj]at a f;have o:=zR.inj (show dB p.1=dB r from a);have e2:=zR.inj (show dB p.2=dB e from f);subst o;subst e2;obtain⟨D,s⟩:=v p (ya hj);exact⟨D,(z4 _ s).mono λx k=>c x (z x k)⟩
theorem nY(x:bU)(m:aG)(h:f8)(z:df h x m)(N:cS m):ac xB 61 #[fw x] h λv h'=>∃(y:bU) (L:List (dU×Wl.cv)) (pool:List (Sl×aC)),v=fw y/\(y.1=m.seq/\y.2.1=m.next/\(y.2.2.1,y.2.2.2.1,y.2.2.2.2.1)=m.p/\y.2.2.2.2.2.1=m.extra)/\L.map zJ=m.aH/\(∀p∈L,Fc pool p)/\
  Sp h h' [dO 1 av pool,ak 3 y.2.2.2.2.2.2.1 1 av m.drives,ak 94 y.2.2.2.2.2.2.2 4 bI (L.map qH)]:=by
 refine TU x ?_;unfold MR;refine(Sp.refl h).boxed λS k U=>?_;refine U.alloc af i0 λR q Q=>?_;have D:=Q.box 0 i0;have hM:∀{h':f8} {As:List HP},Sp h h' As->df h' x m:=λ{h' As} H'=>z.up H'.aj;obtain⟨b,M⟩:=bO.fix z.aH;have am:=M.2.1;have ab:=N.dr;have V:=N.ob;refine bj ⟨x.2.2.2.2.2.2.1,D.cell i0,x.2.2.2.2.2.2.2,D.cell i0,?_⟩;refine(ka _ m.drives q (hM Q).drives i4).mono ?_;rintro _ h3 ⟨d,rfl,R3⟩;have P:=Q.comp R3;refine⟨d,i0,⟨(P.box 0 i0).cell i0,trivial⟩,?_⟩;refine(Wx _ b h3 (oC.up M P.aj).1 i4).mono ?_;rintro _ h4 ⟨o,rfl,W⟩;have Y:=P.comp W;refine⟨o,i0,trivial,?_⟩;refine Y.store af 0 i0 i0 6 [d] i0 i0 i0 j9 λh5 H5=>⟨trivial,?_⟩
 refine H5.store af 0 i0 i0 7 [o] i0 i0 i0 j9 λT n=>⟨trivial,?_⟩
 obtain⟨y,u⟩:∃y:bU,y=(x.1,x.2.1,x.2.2.1,x.2.2.2.1,x.2.2.2.2.1,x.2.2.2.2.2.1,d,o):=⟨_,rfl⟩
 have n:Sp h T [au S 44 (aV y),au R 44 [xq xx 0,xq xx 0,xq xx 0,xq xx 0,xq xx 0,xq xx 0,xr eH 0 0,xr eH 0 0],ak 3 d 1 av m.drives,ak 94 o 4 bI b]:=by rw[u];exact n
 have c:y.2.2.2.2.2.2.2=o:=by rw[u]
 have H:y.2.2.2.2.2.2.1=d:=by rw[u]
 refine⟨o,by rw[<-c];exact(n.box 0 i0).cell i0,?_⟩;have ad:=(n.own 3 i0).len;have n:=n.XX 1 av;refine aA (λt:List dU×List (Sl×aC)=>(t.1.length:Int)) (λt h'=>t.1.length<=m.aH.length/\(∀(j:Nat) r e,t.1[j]?=dB r->m.aH[j]?=dB e->(r.1=e.name/\r.2.1=e.object/\r.2.2.1=e.length)/\(r.2.2.2,e.tries)∈t.2)/\Sp h h' [dO 1 av t.2,au S 44 (aV y),au R 44 [xq xx 0,xq xx 0,xq xx 0,xq xx 0,xq xx 0,xq xx 0,xr eH 0 0,xr eH 0 0],ak 3 d 1 av m.drives,ak 94 o 4 bI (t.1++b.drop t.1.length)]) (λt=>m.aH.length-t.1.length) ([],[]) i0 ⟨i9,λj r e k=>by simp at k,n⟩ ?_;rintro⟨a,pool⟩ Z ⟨hi,E,l⟩;dsimp only at*;refine ai (λe=>?_) (λe=>?_)
 ·have s:a.length<m.aH.length:=i4
  have F7:=oC.up M l.aj;obtain⟨⟨y1,y2,X⟩,y4⟩:=Fix.row F7 s;have f:(a++b.drop a.length)[a.length]'(by simp;omega)=b[a.length]'(by omega):=i9
  obtain⟨I,ha,zz,hc,rfl⟩:=(l.seq 4 rfl λ_=>rfl).eu (g:=bI) (i:=(a.length:Int)) a.length rfl i7 (b[a.length]'(by omega)) (by rw[f]) (K:=λt=>t=b[a.length]'(by omega)) i0;refine⟨o,by rw[<-c];exact(l.box 1 i0).cell i0,o,by rw[<-c];exact(l.box 1 i0).cell i0,I,ha,_,hc.2.2.2.1,?_⟩;have ah:=(N.nm _ (qg s)).2;refine(ka _ m.aH[a.length].tries Z y4 i4).mono ?_;rintro _ h8 ⟨t,rfl,R8⟩;have w:=l.co R8;refine⟨t,i0,⟨by rw[<-c];exact(w.box 2 i0).cell i0,by rw[<-c];exact(w.box 2 i0).cell i0,trivial⟩,?_⟩;refine w.aed af 5 i0 (λ_=>rfl) i0 a.length i0 i7 3 [t] i9 ((b[a.length]'(by omega)).1,(b[a.length]'(by omega)).2.1,(b[a.length]'(by omega)).2.2.1,t) i0 i0 i0 (by rw[f];simp[bI]) λh9 A=>⟨trivial,?_⟩
  have A:=(A.freeze 0 i0 λ_=>rfl).aX 6 [1,0,2,3,4,5];have A:=A.XY;refine⟨(a++[((b[a.length]'(by omega)).1,(b[a.length]'(by omega)).2.1,(b[a.length]'(by omega)).2.2.1,t)],(t,m.aH[a.length].tries)::pool),by simp only[qx,List.length_singleton];rw[al _];rfl,⟨i7,λj r e k q=>?_,?_⟩,i7⟩
  ·dsimp only at k⊢;by_cases F:j<a.length
   ·rw[qo F]at k;obtain⟨g1,g2⟩:=E j r e k q;exact⟨g1,List.mem_cons_of_mem _ g2⟩
   ·have J:j=a.length:=by have:=(qn.1 k).1;simp at this;omega
    subst J;rw[qj (qm _),zc]at k;simp at k;rw[qd s]at q;injection q with q
    subst k;subst q;exact⟨⟨y1,y2,X⟩,List.mem_cons_self⟩
  ·dsimp only;have e4:(a++b.drop a.length).set a.length ((b[a.length]'(by omega)).1,(b[a.length]'(by omega)).2.1,(b[a.length]'(by omega)).2.2.1,t)=a++[((b[a.length]'(by omega)).1,(b[a.length]'(by omega)).2.1,(b[a.length]'(by omega)).2.2.1,t)]++b.drop (a++[((b[a.length]'(by omega)).1,(b[a.length]'(by omega)).2.1,(b[a.length]'(by omega)).2.2.1,t)]).length:=by rw[qV _ _ (qm _),zc,qP (show a.length<b.length by omega),zo];simp
   rw[<-e4];exact A
 ·have ao:a.length=m.aH.length:=i4
  rw[zg i4,qO]at l;refine⟨y,(l.box 1 i0).aU _ i0,?_⟩;refine l.storeAll af 2 i0 i0 (aV y) i0 i0 i0 i0 λh8 w=>?_;have G:(a.zip m.aH).map qH=a:=List.map_fst_zip i4;have O:(a.zip m.aH).map zJ=m.aH:=List.map_snd_zip i4;refine⟨y,(w.box 2 i0).aU _ i0,y,a.zip m.aH,pool,i0,⟨by rw[u];exact z.seq,by rw[u];exact z.next,by rw[u];exact z.p,by rw[u];exact z.extra⟩,O,λp hp=>?_,?_⟩
  ·obtain⟨j,F,rfl⟩:=qK hp;have B:j<a.length/\j<m.aH.length:=by simp at F;omega
   have:=E j _ _ (qd B.1) (qd B.2);rw[y9];exact this
  ·rw[G,H,c];exact w.cG [0,3,4]
theorem NH(x:bU)(m:aG)(h:f8)(c:df h x m)(e:cS m):ac xB 61 #[fw x] h λv h'=>∃y:bU,v=fw y/\Sp h h' [cj y m]:=by refine(nY x m h c e).mono ?_;rintro _ h' ⟨y,L,pool,rfl,b,d,a,H⟩;exact⟨y,i0,aa.Fe b d a H⟩
end Go.Qw
namespace Go.Vc
open Go Wl
abbrev bJ:=Int×Int×Int×Int×Int×Int×Int×Sl
abbrev bT(x:bJ):bg:=[xq xx x.1,xq xx x.2.1,xq xx x.2.2.1,xq xx x.2.2.2.1,xq xx x.2.2.2.2.1,xq xx x.2.2.2.2.2.1,xq xz x.2.2.2.2.2.2.1,x.2.2.2.2.2.2.2]
abbrev recv(x:bJ):Value:=xw #[xq xx x.1,xq xx x.2.1,xq xx x.2.2.1,xq xx x.2.2.2.1,xq xx x.2.2.2.2.1,xq xx x.2.2.2.2.2.1,xq xz x.2.2.2.2.2.2.1,x.2.2.2.2.2.2.2]
theorem ahw:∀x,∀c∈bT x,c.oneCell'=eL:=by intro x c a;simp[bT]at a;rcases a with rfl|rfl|rfl|rfl|rfl|rfl|rfl|rfl<;>rfl
def iU(x y:Int):Int:=if x<y then-1 else if x>y then 1 else 0
def mA(a b:bJ):Int:=if iU a.1 b.1≠0 then iU a.1 b.1 else if iU a.2.1 b.2.1≠0 then iU a.2.1 b.2.1 else iU a.2.2.1 b.2.2.1
def cE(a b:bJ):Bool:=decide (mA a b<=0)
theorem jH(x y:Int):(x<y/\iU x y=-1)∨(x>y/\iU x y=1)∨(x=y/\iU x y=0):=by
 unfold iU;by_cases a:x<y
 ·exact .inl ⟨a,f9 a⟩
 ·by_cases b:x>y
  ·exact .inr (.inl ⟨b,by rw[g0 a,f9 b]⟩)
  ·exact .inr (.inr ⟨i4,by rw[g0 a,g0 b]⟩)
theorem DT(a b:bJ):mA a b<=0↔a.1<b.1∨(a.1=b.1/\(a.2.1<b.2.1∨(a.2.1=b.2.1/\a.2.2.1<=b.2.2.1))):=by
 unfold mA;rcases jH a.1 b.1 with⟨h1,e1⟩|⟨h1,e1⟩|⟨h1,e1⟩
 ·rw[e1,f9 i5];omega
 ·rw[e1,f9 i5];omega
 ·rw[e1,g0 i5];rcases jH a.2.1 b.2.1 with⟨h2,e2⟩|⟨h2,e2⟩|⟨h2,e2⟩
  ·rw[e2,f9 i5];omega
  ·rw[e2,f9 i5];omega
  ·rw[e2,g0 i5];rcases jH a.2.2.1 b.2.2.1 with⟨h3,e3⟩|⟨h3,e3⟩|⟨h3,e3⟩<;>rw[e3]<;>omega
theorem ta(a b:bJ):mA a b<0↔¬cE b a=eL:=by
 unfold cE;rw[decide_eq_true_eq,DT];unfold mA;rcases jH a.1 b.1 with⟨h1,e1⟩|⟨h1,e1⟩|⟨h1,e1⟩
 ·rw[e1,f9 i5];omega
 ·rw[e1,f9 i5];omega
 ·rw[e1,g0 i5];rcases jH a.2.1 b.2.1 with⟨h2,e2⟩|⟨h2,e2⟩|⟨h2,e2⟩
  ·rw[e2,f9 i5];omega
  ·rw[e2,f9 i5];omega
  ·rw[e2,g0 i5];rcases jH a.2.2.1 b.2.2.1 with⟨h3,e3⟩|⟨h3,e3⟩|⟨h3,e3⟩<;>rw[e3]<;>omega
theorem abQ(a b:bJ):mA a b=0↔(a.1=b.1/\a.2.1=b.2.1/\a.2.2.1=b.2.2.1):=by
 unfold mA;rcases jH a.1 b.1 with⟨h1,e1⟩|⟨h1,e1⟩|⟨h1,e1⟩
 ·rw[e1,f9 i5];omega
 ·rw[e1,f9 i5];omega
 ·rw[e1,g0 i5];rcases jH a.2.1 b.2.1 with⟨h2,e2⟩|⟨h2,e2⟩|⟨h2,e2⟩
  ·rw[e2,f9 i5];omega
  ·rw[e2,f9 i5];omega
  ·rw[e2,g0 i5];rcases jH a.2.2.1 b.2.2.1 with⟨h3,e3⟩|⟨h3,e3⟩|⟨h3,e3⟩<;>rw[e3]<;>omega
theorem dZ:Ord cE:=⟨λa b c e d=>by
 unfold cE at*;rw[decide_eq_true_eq,DT]at*;omega,λa b=>by
 unfold cE;rw[Bool.or_eq_true,decide_eq_true_eq,decide_eq_true_eq,DT,DT];omega⟩
theorem Uq{α:Type}(A B C:List α)(x y:α){i j:Nat}(c:i=ii A)(b:j=ii A+1+ii B):
  (A++x::(B++y::C))[i]?=dB x/\(A++x::(B++y::C))[j]?=dB y/\((A++x::(B++y::C)).set i y).set j x=A++y::(B++x::C)/\((A++x::(B++y::C)).set j x).set i y=A++y::(B++x::C):=by
 subst c;subst b;have a:ii A+1+ii B-ii A=ii B+1:=i4
 refine⟨by rw[qj (qm _),zc];rfl,?_,?_,?_⟩
 ·rw[qj i4,a,qw,qj (qm _),zc];rfl
 ·rw[qV _ _ (qm _),zc,zo,qV _ _ i4,a,zw,qV _ _ (qm _),zc,zo]
 ·rw[qV _ _ (show A.length<=ii A+1+ii B by omega),a,zw,qV _ _ (qm _),zc,zo,qV _ _ (qm _),zc,zo]
end Go.Vc
namespace Go.Qw
open Go Go.Vc Go.Proofs Wl
abbrev aiU:bY C.toDi 189 170 8 [xq xx 0,xq xx 0,xq xx 0,xq xx 0,xq xx 0,xq xx 0,xq xz 0,xr eH 0 0] 80:=⟨_,_,i0,i0,i0,i0,i0,i0⟩
theorem uK(x y:Int)(h:f8):ac xB 183 #[xq xx x,xq xx y] h λv h'=>v=xq xx (iU x y)/\h'=h:=by
 refine sF x y ?_;unfold ou;have a:∀z:Int,ac xB 233 #[xq xx z] h λv h'=>v=xv eR/\h'=h:=λz=>by
  refine vn z ?_;unfold rO;exact⟨i9,i0⟩
 refine(a x).mono ?_;rintro _ _ ⟨rfl,rfl⟩;refine⟨_,i0,(a y).mono ?_⟩;rintro _ _ ⟨rfl,rfl⟩;refine⟨_,i0,bC (λe=>j0) λ_=>bC (λe=>j0) λ_=>?_⟩;refine ai (λe=>⟨by rw[iU,f9 e],i0⟩) λe=>ai (λe2=>⟨by rw[iU,g0 e,f9 e2],i0⟩) λe2=>⟨by rw[iU,g0 e,g0 e2],i0⟩
theorem rT(a b:bJ)(h:f8):ac xB 197 #[recv a,recv b] h λv h'=>v=xq xx (mA a b)/\Sp h h' []:=by
 refine Pz a b ?_;unfold If;refine(Sp.refl h).boxed λu K F=>F.boxed λt k f=>?_;have f:Sp h k [au u 170 (bT a),au t 170 (bT b)]:=f;have x:=f.box 0 i0;have s:=f.box 1 i0;have z:f7 k (u.add 1)=dB (xq xx a.2.1):=x.cell i0;have B:f7 k (t.add 1)=dB (xq xx b.2.1):=s.cell i0;have c3:f7 k (u.add 2)=dB (xq xx a.2.2.1):=x.cell i0;have w:f7 k (t.add 2)=dB (xq xx b.2.2.1):=s.cell i0;refine⟨a.1,x.cell0 i0,b.1,s.cell0 i0,a.2.1,z,b.2.1,B,a.2.2.1,c3,b.2.2.1,w,(uK _ _ k).mono ?_⟩;rintro _ _ ⟨rfl,rfl⟩;refine⟨_,i0,⟨w,c3,B,z,trivial⟩,(uK _ _ _).mono ?_⟩;rintro _ _ ⟨rfl,rfl⟩;refine⟨_,i0,⟨w,c3,trivial⟩,(uK _ _ _).mono ?_⟩;rintro _ M ⟨rfl,rfl⟩;refine⟨_,i0,trivial,?_⟩;refine f.nQ af av ⟨_,_,i0,i0,i0,i0,i0,i0⟩ i0 [iU a.1 b.1,iU a.2.1 b.2.1,iU a.2.2.1 b.2.2.1] i0 (show 3*1<=2^20 by decide) i0 trivial ?_;refine f.lit af av ⟨_,_,i0,i0,i0,i0,i0,i0⟩ i0 [iU a.1 b.1,iU a.2.1 b.2.1,iU a.2.2.1 b.2.2.1] i0 (show 3*1<=2^20 by decide) i0 λc y q=>?_;refine(DG c (R:=λv h'=>v=xq xx (mA a b)/\h'=y) ?_).mono ?_
 ·unfold AL;have A:=q.seq 2 i0 λ_=>rfl;have G:=(q.own 2 i0).len;obtain⟨L,g⟩:∃L,L=[iU a.1 b.1,iU a.2.1 b.2.1,iU a.2.2.1 b.2.2.1]:=⟨_,rfl⟩
  rw[<-g]at A G;have E:ii L=3:=by rw[g];rfl
  refine aA (λi:Nat=>(i:Int)) (λi h'=>i<=3/\(∀j,j<i->L[j]?=dB 0)/\h'=y) (λi=>3-i) 0 i0 ⟨i4,i4,i0⟩ ?_;rintro i D ⟨J,n,rfl⟩;have d:0<i->iU a.1 b.1=0:=λh0=>by have:=n 0 h0;rw[g]at this;simpa using this
  have l:1<i->iU a.2.1 b.2.1=0:=λh0=>by have:=n 1 h0;rw[g]at this;simpa using this
  have p:2<i->iU a.2.2.1 b.2.2.1=0:=λh0=>by have:=n 2 h0;rw[g]at this;simpa using this
  refine ai (λe=>?_) (λe=>?_)
  ·have m:i<ii L:=by have H:(i:Int)<(c.len:Int):=e;omega
   refine A.bH i i0 m L[i] i0 ?_;refine cb (λe2=>⟨?_,i0⟩) (λe2=>?_)
   ·congr 1;unfold mA;have:i=0∨i=1∨i=2:=i4
    subst g;rcases this with rfl|rfl|rfl
    ·exact(f9 (show iU a.1 b.1≠0 from e2)).symm
    ·rw[g0 (by rw[d i4];simp)];exact(f9 (show iU a.2.1 b.2.1≠0 from e2)).symm
    ·rw[g0 (by rw[d i4];simp),g0 (by rw[l i4];simp)];rfl
   ·refine⟨i+1,js,⟨i4,λj I=>?_,i0⟩,i4⟩;by_cases o:j=i
    ·subst o;rw[qd m,e2]
    ·exact n j i4
  ·have r:i=3:=by have H:¬(i:Int)<(c.len:Int):=e;omega
   subst r;refine⟨?_,i0⟩;unfold mA;rw[d i4,l i4,p i4];rfl
 ·rintro _ D ⟨rfl,rfl⟩;exact⟨_,i0,trivial,i0,.zip q.aj⟩
abbrev cR(s:Sl)(d:List bJ):HP:=ak 170 s 8 bT d
section
variable {B:aD} {h0 h h':f8} {As:List HP} {s:Sl} {d:List bJ}
theorem td(X U M V Y:List bJ)(n:Nat)(a b:Int)(R:ii U=n)(T:ii V=n)(F:a=(ii X:Int))(I:b=(ii X+n+ii M:Nat))(J:ii X+n+ii M+n+ii Y<=2^40)(H:aa B h0 h (cR s (X++(U++(M++(V++Y))))::As)):
  ac xB 329 #[s,xq xx a,xq xx b,xq xx n,.func (.func 197) #[] #[]] h λv h'=>v=.tuple #[]/\aa B h0 h' (cR s (X++(V++(M++(U++Y))))::As):=by
 refine mW s a b n (197,#[],#[]) ?_;unfold jh;subst F;subst I;refine aA (λk:Nat=>(k:Int)) (λk h'=>k<=n/\aa B h0 h' (cR s (X++(V.take k++U.drop k++(M++(U.take k++V.drop k++Y))))::As)) (λk=>n-k) 0 i0 ⟨i4,l6⟩ ?_;rintro k S ⟨P,f⟩;refine ai (λe=>?_) (λe=>?_)
 ·have G:k<n:=i4
  have q:k<ii U:=i4
  have m:k<ii V:=i4
  have d:X++(V.take k++U.drop k++(M++(U.take k++V.drop k++Y)))=(X++V.take k)++U[k]::((U.drop (k+1)++(M++U.take k))++V[k]::(V.drop (k+1)++Y)):=by rw[qP q,qP m];simp only[qp,zy,wv]
  have c:X++(V.take (k+1)++U.drop (k+1)++(M++(U.take (k+1)++V.drop (k+1)++Y)))=(X++V.take k)++V[k]::((U.drop (k+1)++(M++U.take k))++U[k]::(V.drop (k+1)++Y)):=by rw[aK V k m,aK U k q];simp only[qp,zy,wv]
  rw[d]at f;obtain⟨x,y,z,K⟩:=Uq (X++V.take k) (U.drop (k+1)++(M++U.take k)) (V.drop (k+1)++Y) U[k] V[k] (i:=ii X+k) (j:=ii X+n+ii M+k) i7 i7;obtain⟨D,N⟩:∃D,D=(X++V.take k)++U[k]::((U.drop (k+1)++(M++U.take k))++V[k]::(V.drop (k+1)++Y)):=⟨_,rfl⟩
  rw[<-N]at f x y z K;have w:=(qn.1 x)
  have r:=(qn.1 y)
  obtain⟨p,u⟩:=w;obtain⟨o,t⟩:=r;have L:qc xx ((ii X:Int)+k)=((ii X+k:Nat):Int):=j3
  have E:qc xx (((ii X+n+ii M:Nat):Int)+k)=((ii X+n+ii M+k:Nat):Int):=j3
  rw[L,E];refine(f.seq 0 i0 λ_=>rfl).eu (g:=bT) _ i0 o V[k] (by rw[t]) ?_;refine(f.seq 0 i0 λ_=>rfl).eu (g:=bT) _ i0 p U[k] (by rw[u]) ?_;refine f.set af 0 i0 (λ_=>rfl) i0 (ii X+k) i0 p V[k] i0 i0 i0 λQ A=>⟨trivial,?_⟩
  refine A.set af 0 i0 (λ_=>rfl) i0 (ii X+n+ii M+k) i0 m5 U[k] i0 i0 i0 λh3 O=>⟨trivial,?_⟩
  refine⟨k+1,js,⟨i4,?_⟩,i4⟩;rw[c,<-z];exact O
 ·have:k=n:=i4
  subst this;rw[qi (l:=V) i4,zg (l:=U) i4,qi (l:=U) i4,zg (l:=V) i4]at f;refine⟨i0,?_⟩;simpa using f
theorem Wy(X U V Y:List bJ)(a m b:Int)(F:0<ii U)(K:0<ii V)(D:a=(ii X:Int))(x:m=(ii X+ii U:Nat))(G:b=(ii X+ii U+ii V:Nat))(J:ii X+ii U+ii V+ii Y<=2^40)(H:aa B h0 h (cR s (X++(U++(V++Y)))::As)):
  ac xB 322 #[s,xq xx a,xq xx m,xq xx b,.func (.func 197) #[] #[]] h λv h'=>v=.tuple #[]/\aa B h0 h' (cR s (X++(V++(U++Y)))::As):=by
 refine nW s a m b (197,#[],#[]) ?_;unfold jU;subst D;subst x;subst G;have y:qc xx (((ii X+ii U:Nat):Int)-ii X)=(ii U:Int):=j3
 have e2:qc xx (((ii X+ii U+ii V:Nat):Int)-(ii X+ii U:Nat))=(ii V:Int):=j3
 rw[y,e2];refine aA (λt:List bJ×List bJ×List bJ×List bJ=>((ii t.2.1:Int),(ii t.2.2.1:Int))) (λt h'=>0<ii t.2.1/\0<ii t.2.2.1/\X.length+ii t.1+ii t.2.1=ii X+ii U/\V++U=t.1++((t.2.2.1++t.2.1)++t.2.2.2)/\aa B h0 h' (cR s (X++(t.1++(t.2.1++(t.2.2.1++(t.2.2.2++Y)))))::As)) (λt=>ii t.2.1+ii t.2.2.1) ([],U,V,[]) i0 ⟨F,K,i9,i9,l6⟩ ?_;rintro⟨P,A,c,Q⟩ u ⟨N,O,x,o,p⟩;dsimp only at*;have k:=congrArg vV o;simp only[qx]at k;refine cb (λe=>ai (λE=>?_) λE=>?_) (λe=>?_)
 ·--the left one is longer
  have q:ii c<ii A:=i4
  have L:A=A.take c.length++A.drop c.length:=(qE _ _).symm;have g:ii (A.take c.length)=ii c:=i7
  have n:qc xx (((ii X+ii U:Nat):Int)-ii A)=(ii (X++P):Int):=by rw[al _];simp;omega
  rw[n];have d:aa B h0 u (cR s ((X++P)++(A.take c.length++(A.drop c.length++(c++(Q++Y)))))::As):=by
   have:(X++P)++(A.take c.length++(A.drop c.length++(c++(Q++Y))))=X++(P++(A++(c++(Q++Y)))):=by
    conv=>rhs;rw[L]
    simp only[qp,zy,wv]
   rw[this];exact p
  refine(td (X++P) (A.take c.length) (A.drop c.length) c (Q++Y) c.length _ _ g i0 i0 i7 i7 d).mono ?_;rintro _ w ⟨rfl,f⟩;refine⟨(),i0,(P++c,A.drop c.length,A.take c.length,Q),?_,⟨lz,i6,lz,?_,?_⟩,lz⟩
  ·dsimp only;rw[g,al _];simp;omega
  ·dsimp only;rw[o,qE];simp
  ·dsimp only;have:X++((P++c)++(A.drop c.length++(A.take c.length++(Q++Y))))=(X++P)++(c++(A.drop c.length++(A.take c.length++(Q++Y)))):=i9
   rw[this];exact f
 ·have q:ii A<ii c:=i4
  obtain⟨j,M⟩:∃j,j=ii c-ii A:=⟨_,rfl⟩
  have I:c=c.take j++c.drop j:=(qE _ _).symm;have l:ii (c.drop j)=ii A:=i7
  have i:ii (c.take j)=j:=i7
  have n:qc xx (((ii X+ii U:Nat):Int)-ii A)=(ii (X++P):Int):=by rw[al _];simp;omega
  have z:qc xx ((qc xx (((ii X+ii U:Nat):Int)+ii c))-ii A)=((ii (X++P)+ii A+ii (c.take j):Nat):Int):=by rw[al (((ii X+ii U:Nat):Int)+ii c),al _,i];simp;omega
  rw[n,z];have d:aa B h0 u (cR s ((X++P)++(A++(c.take j++(c.drop j++(Q++Y)))))::As):=by
   have:(X++P)++(A++(c.take j++(c.drop j++(Q++Y))))=X++(P++(A++(c++(Q++Y)))):=by
    conv=>rhs;rw[I]
    simp only[qp,zy,wv]
   rw[this];exact p
  refine(td (X++P) A (c.take j) (c.drop j) (Q++Y) A.length _ _ i0 l i0 i0 i7 d).mono ?_;rintro _ w ⟨rfl,f⟩;refine⟨(),i0,(P,c.drop j,c.take j,A++Q),?_,⟨i6,i6,i6,?_,?_⟩,i6⟩
  ·dsimp only;rw[i,l,al _];congr 1;omega
  ·dsimp only;rw[o,qE];simp
  ·dsimp only;have:X++(P++(c.drop j++(c.take j++((A++Q)++Y))))=(X++P)++(c.drop j++(c.take j++(A++(Q++Y)))):=i9
   rw[this];exact f
 ·have r:ii A=ii c:=i4
  have n:qc xx (((ii X+ii U:Nat):Int)-ii A)=(ii (X++P):Int):=by rw[al _];simp;omega
  rw[n];have d:aa B h0 u (cR s ((X++P)++(A++([]++(c++(Q++Y)))))::As):=by
   have:(X++P)++(A++([]++(c++(Q++Y))))=X++(P++(A++(c++(Q++Y)))):=i9
   rw[this];exact p
  refine(td (X++P) A [] c (Q++Y) A.length _ _ i0 r.symm i0 i7 i7 d).mono ?_;rintro _ w ⟨rfl,f⟩;refine⟨(),i0,i0,?_⟩;have:X++(V++(U++Y))=(X++P)++(c++([]++(A++(Q++Y)))):=by
   have:V++(U++Y)=(V++U)++Y:=i9
   rw[this,o];simp
  rw[this];exact f
end
end Go.Qw
namespace Wl
open Go
theorem Zo(l:bf)(x:UInt8):dC (l++[x])=dC l*256+x.toNat:=by unfold dC;rw[List.foldl_append];rfl
theorem Ur:∀l:bf,ii l<=4->0<=dC l/\dC l<4294967296/\(ii l<=3->dC l<16777216)
 |[],_=>by simp[dC]
 |[a],_=>by have:=a.toNat_lt;simp only[dC,zB,wu];omega
 |[a,b],_=>by have:=a.toNat_lt;have:=b.toNat_lt;simp only[dC,zB,wu];omega
 |[a,b,c],_=>by have:=a.toNat_lt;have:=b.toNat_lt;have:=c.toNat_lt;simp only[dC,zB,wu];omega
 |[a,b,c,d],_=>by have:=a.toNat_lt;have:=b.toNat_lt;have:=c.toNat_lt;have:=d.toNat_lt;simp only[dC,zB,wu,zn,yU];omega
 |_::_::_::_::_::_,h=>m8
theorem aiV(n x:Nat)(f:n<2^32)(e:x<256):qc xx (((qD (qk xx) (qc xx ((n:Int)*2^min (8:Int).toNat (qk xx)))|||qD (qk xx) (qc xx (x:Int))).toNat:Nat):Int)=(n:Int)*256+x:=by
 have d:min (8:Int).toNat (qk xx)=8:=rfl;rw[d];have a:qc xx ((n:Int)*2^8)=((n*256:Nat):Int):=by rw[Go.Vc.al _];omega
 have e2:qc xx (x:Int)=((x:Nat):Int):=Go.Vc.al _;rw[a,e2];have c:(qD (qk xx) ((n*256:Nat):Int)|||qD (qk xx) ((x:Nat):Int)).toNat=n*256+x:=by show((qD 64 ((n*256:Nat):Int)|||qD 64 ((x:Nat):Int):BitVec 64)).toNat=n*256+x;rw[BitVec.toNat_or,w8,w8,wK,wK,wc i4,wc i4];have:=Nat.shiftLeft_add_eq_or_of_lt (b:=x) (i:=8) i4 n;rw[Nat.shiftLeft_eq,show(2:Nat)^8=256 from rfl]at this;omega
 rw[c,Go.Vc.al _];omega
end Wl
namespace Go.Vc
open Go Wl
def fx:jn bJ dm:=⟨λh q a b=>(a.1=b.object/\a.2.1=b.block/\a.2.2.1=b.id/\(a.2.2.2.1,a.2.2.2.2.1,a.2.2.2.2.2.1)=b.p/\a.2.2.2.2.2.2.1=b.seed/\0<=b.seed/\b.seed<4294967296)/\Seq h q a.2.2.2.2.2.2.2 1 aF b.data,λa d=>⟨a.1,a.2.aj d⟩,λa c=>⟨a.1,a.2.mono c⟩⟩
end Go.Vc
namespace Go.Qw
open Go Go.Vc Go.Proofs Wl
theorem rU{p q:aD}(a b:Sl)(d c:bf)(h:f8)(f:Seq h p a 1 aF d)(e:Seq h q b 1 aF c):
  ac xB 99 #[a,b] h λv h'=>v=xv (decide (d=c))/\h'=h:=by
 refine Nc a b ?_;unfold Ga;refine XK af ⟨_,i0,i0⟩ ⟨_,i0,i0⟩ ⟨_,i0,i0⟩ f (XK af ⟨_,i0,i0⟩ ⟨_,i0,i0⟩ ⟨_,i0,i0⟩ e ⟨?_,i0⟩);rw[ByteArray.toList_mk,ByteArray.toList_mk];have:(d==c)=decide (d=c):=by rw[Bool.eq_iff_iff];simp
 rw[this]
theorem Ff(b:Sl)(c:bf)(h:f8)(i:Rd h b 1 aF c)(A:ii c<=2^30)(f:b.len<=b.cap):
  ac xB 76 #[b] h λv h'=>(fz c=eH->v=.tuple #[xq xx 0,xr eH 0 0,xv eR]/\Sp h h' [])/\
   ∀k x,fz c=dB (k,x)->∃r:Sl,v=.tuple #[xq xx k,r,xv eL]/\Sp h h' [ak 5 r 1 aF x]:=by
 refine RI b ?_;unfold Ko;have y:=i.len;refine cb (λe=>?_) (λe=>?_)
 ·have:fz c=eH:=by unfold fz;rw[g0 λa=>e i4]
  rw[this];exact⟨λ_=>⟨i0,Sp.refl h⟩,λk x h=>j6⟩
 have o:ii c=64:=i4
 have h3:3<ii c:=i4
 refine i.Sx 3 i0 h3 ((c.getD 3 0).toNat:Int) (by rw[getD_lt h3];rfl) λz j=>⟨⟨i5,i5,i4⟩,?_⟩
 have d:=(i.drop 4 f).take 55 i7;have p:ii ((c.drop 4).take 55)=55:=i7
 refine(fa ⟨_,55,b.cap-4⟩ ((c.drop 4).take 55) h d i4).mono ?_;rintro _ u ⟨r,rfl,n⟩;refine⟨r,i0,kL n.aj ⟨j,trivial⟩,?_⟩;have w:=(c.getD 3 0).toNat_lt;rw[al ((c.getD 3 0).toNat:Int)];refine(Ix ((c.getD 3 0).toNat:Int) r ((c.drop 4).take 55) u (n.seq 0 i0 λ_=>rfl)).mono ?_;rintro _ s ⟨q,rfl,t⟩;have g:=n.comp t;refine⟨q,i0,(rU b q c _ s (i.up g.aj) (g.seq 1 i0 λ_=>rfl)).mono ?_⟩;rintro _ h3 ⟨rfl,rfl⟩;refine⟨_,i0,bo (λe2=>?_) λe2=>?_⟩
 ·have l:c≠dX ((c.getD 3 0).toNat:Int) ((c.drop 4).take 55):=of_decide_eq_false e2;have:fz c=eH:=by unfold fz;rw[g0 λa=>l a.2.symm]
  rw[this];exact⟨λ_=>⟨i0,.zip g.aj⟩,λk x h=>j6⟩
 ·have m:c=dX ((c.getD 3 0).toNat:Int) ((c.drop 4).take 55):=hZ e2;have:fz c=dB (((c.getD 3 0).toNat:Int),(c.drop 4).take 55):=by unfold fz;rw[f9 ⟨o,m.symm⟩]
  rw[this];refine⟨λh=>j6,λk x a=>?_⟩;injection a with a
  injection a with hh1 hh2
  subst hh1;subst hh2;exact⟨r,i0,g.cG [0]⟩
theorem QP(b:Sl)(l:bf)(h:f8)(d:Rd h b 1 aF l)(k:ii l<=4):ac xB 246 #[b] h λv h'=>v=xq xx (dC l)/\h'=h:=by
 refine NA b ?_;unfold Gr;have f:=d.len;refine aA (λi:Nat=>(dC (l.take i),(i:Int))) (λi h'=>i<=ii l/\h'=h) (λi=>ii l-i) 0 i0 ⟨i4,i0⟩ ?_;rintro i p ⟨m,rfl⟩;dsimp only;refine ai (λe=>?_) (λe=>?_)
 ·have a:i<ii l:=i4
  refine d.bH i i0 a (l[i].toNat:Int) i0 ⟨i5,?_⟩;have c:=(Ur (l.take i) i7)
  have j:=c.2.2 i7;have o:=l[i].toNat_lt;obtain⟨n,g⟩:∃n:Nat,dC (l.take i)=(n:Int):=⟨(dC (l.take i)).toNat,i4⟩
  refine⟨i+1,?_,⟨i4,i0⟩,i4⟩;rw[aK _ _ a,Zo,g,aiV n _ i4 i4,al ((i:Int)+1)];rfl
 ·rw[qi i4];exact⟨i0,i0⟩
theorem KE(x:bJ)(r:dm)(h:f8)(G:dW fx h x r):ac xB 184 #[recv x] h λv h'=>v=xv (jw r)/\Sp h h' []:=by
 refine Px x ?_;unfold Ic;obtain⟨⟨A,e2,D,m,J,_⟩,B⟩:=G;have o:x.2.2.2.1=r.p.1:=congrArg (·.1) m;have n:x.2.2.2.2.1=r.p.2.1:=congrArg (·.2.1) m;have e:x.2.2.2.2.2.1=r.p.2.2:=congrArg (·.2.2) m;have d:=Seq.len B;refine(Sp.refl h).boxed λa i f=>?_;have f:Sp h i [au a 170 (bT x)]:=f;have l:=f.box 0 i0;have t:f7 i a=dB (xq xx r.object):=by rw[<-A];exact l.cell0 i0
 have u:f7 i (a.add 1)=dB (xq xx r.block):=by rw[<-e2];exact l.cell i0
 have w:f7 i (a.add 2)=dB (xq xx r.id):=by rw[<-D];exact l.cell i0
 have y:∀{h':f8},Sp h h' [au a 170 (bT x)]->(jw r=eL->False)->Value.bool eR=xv (jw r)/\Sp h h' []:=λ{h'} H' hn=>⟨by cases hq:jw r with|false=>rfl|true=>exact absurd hq hn,.zip H'.aj⟩
 refine bX (λb h'=>b=decide ((0<=r.object/\r.object<=16777215)/\(0<=r.block/\r.block<=7)/\(0<=r.id/\r.id<=65535))/\h'=i) ?_ ?_
 ·refine⟨_,t,ai (λI=>⟨_,t,ai (λc=>⟨_,u,ai (λF=>⟨_,u,ai (λz=>⟨_,w,ai (λE=>⟨_,w,?_,i0⟩) λE=>⟨?_,i0⟩⟩) λz=>⟨?_,i0⟩⟩) λF=>⟨?_,i0⟩⟩) λc=>⟨?_,i0⟩⟩) λI=>⟨?_,i0⟩⟩
  ·rw[decide_eq_decide];omega
  all_goals (symm;rw[decide_eq_false_iff_not];omega)
 ·rintro _ _ ⟨rfl,rfl⟩;refine ai (λg=>?_) λg=>y f λq=>g (by have:=(lm r).1 q;omega);refine⟨r.p,by rw[<-o,<-n,<-e];exact l.JI 3 i0 i0 i0,(eN r.p _).mono ?_⟩;rintro _ h3 ⟨rfl,H⟩;have s:Sp h h3 [au a 170 (bT x)]:=f.up H.aj;have j:=s.box 0 i0;refine⟨_,i0,bC (λc=>?_) λc=>y s λq=>by have:=((lm r).1 q).2.2.2.1;rw[c]at this;cases this⟩;refine⟨x.2.2.2.2.2.2.2,j.cell i0,r.p.2.2,by rw[<-e];exact j.Cf 3 2 i0,?_,.zip s.aj⟩;congr 1;by_cases k:(r.data.length:Int)=r.p.2.2
  ·have:jw r=eL:=(lm r).2 ⟨i4,i4,i4,c,k⟩;rw[this,d];simpa using k
  ·have:jw r=eR:=by
    cases hq:jw r with
    |false=>rfl
    |true=>exact absurd ((lm r).1 hq).2.2.2.2 k
   rw[this,d];simpa using k
section
variable {B:aD} {h0 h h':f8} {As:List HP}
theorem nZ(s:Sl)(l:bf)(n:Int)(k:Nat)(j:k<=4)(o:ii l<=2^30)(H:aa B h0 h (ak 5 s 1 aF l::As)):
  ac xB 185 #[s,xq xx n,xq xx k] h λv h'=>∃r:Sl,v=r/\aa B h0 h' (ak 5 r 1 aF (l++ci n k)::As):=by
 refine JX s n k ?_;unfold Cc;rw[al ((k:Int)-1)];refine aA (λt:Sl×Nat=>(t.1,(k:Int)-1-t.2)) (λt h'=>t.2<=k/\aa B h0 h' (ak 5 t.1 1 aF (l++(ci n k).take t.2)::As)) (λt=>k-t.2) (s,0) i9 ⟨i9,l6⟩ ?_;rintro⟨r,t⟩ p ⟨q,a⟩;dsimp only at*;refine ai (λe=>?_) (λe=>?_)
 ·have b:t<k:=i4
  have d:qc xx ((8:Int)*((k:Int)-1-t))=((8*(k-1-t):Nat):Int):=by rw[al _];omega
  rw[d,ql];have e2:min (8*(k-1-t)) (qk xx)=8*(k-1-t):=by have:qk xx=64:=rfl;omega
  rw[e2,ey];refine⟨i4,?_⟩;refine a.push af 0 i0 hJ i0 i5 (λ_=>rfl) iM (b8 (qX n (2^(8*(k-1-t))))) i0 i5 m0 λi m c=>?_;refine⟨(i,t+1),?_,⟨i6,?_⟩,i6⟩
  ·dsimp only;have g:qc xx ((k:Int)-1-t-1)=(k:Int)-1-((t+1:Nat):Int):=by rw[al _];omega
   rw[g]
  ·dsimp only;have f:(ci n k).take t++[b8 (qX n (2^(8*(k-1-t))))]=(ci n k).take (t+1):=by rw[aK _ _ (by rw[cI];exact b)];congr 2;simp[ci]
   rw[<-f,<-qp];exact c
 ·have:t=k:=i4
  subst this;rw[qi (by rw[cI];omega)]at a;exact⟨r,i0,a⟩
end
theorem tQ(x:bJ)(r:dm)(h:f8)(E:dW fx h x r):ac xB 112 #[recv x] h λv h'=>∃s:Sl,v=s/\Sp h h' [ak 5 s 1 aF (dG r)]:=by
 refine Pq x ?_;unfold HR;obtain⟨⟨M,e2,P,l,W,e7,e8⟩,O⟩:=id E;have t:x.2.2.2.1=r.p.1:=congrArg (·.1) l;have m:x.2.2.2.2.1=r.p.2.1:=congrArg (·.2.1) l;have n:x.2.2.2.2.2.1=r.p.2.2:=congrArg (·.2.2) l;refine(Sp.refl h).boxed λf H b=>?_;have b:Sp h H [au f 170 (bT x)]:=b;refine⟨x,(b.box 0 i0).aU _ i0,(KE x r H (fx.mono (fx.loc E b.aj) λ_ T=>qW T b.aj.1)).mono ?_⟩;rintro _ Q ⟨rfl,R⟩;have i:Sp h Q [au f 170 (bT x)]:=b.up R.aj;refine⟨_,i0,bo (λg=>?_) λg=>?_⟩
 ·unfold dG;rw[g];exact⟨⟨eH,0,0⟩,i0,(i.nil 5 1 aF).cG [1]⟩
 have N:=px g;have j:=i.box 0 i0;refine⟨r.object,by rw[<-M];exact j.cell0 i0,(nZ ⟨eH,0,0⟩ [] r.object 3 i5 i9 (i.nil 5 1 aF).bA).mono ?_⟩;rintro _ h3 ⟨I,rfl,K⟩;have u:=K.box 1 i0;refine⟨I,i0,r.block,by rw[<-e2];exact u.cell i0,(nZ I _ r.block 1 i5 o9 K).mono ?_⟩;rintro _ h4 ⟨F,rfl,J⟩;have y:=J.box 1 i0;refine⟨F,i0,r.id,by rw[<-P];exact y.cell i0,(nZ F _ r.id 2 i5 o9 J).mono ?_⟩;rintro _ h5 ⟨U,rfl,D⟩;have a:=D.box 1 i0;refine⟨U,i0,r.p.1,by rw[<-t];exact a.cell i0,r.p.2.1,by rw[<-m];exact a.Cf 3 1 i0,r.p.2.2,by rw[<-n];exact a.Cf 3 2 i0,?_⟩;dsimp only;rw[ey,ey,ey];refine D.lit af aF hJ i0 [b8 r.p.1,b8 r.p.2.1,b8 r.p.2.2] i0 (show 3*1<=2^20 by decide) i0 λV Z A=>?_;refine A.append af 0 i0 hJ ⟨_,_,i0,i0⟩ i0 i5 (λ_=>rfl) (A.seq 2 i0 λ_=>rfl) iM o9 λG L e=>?_;have e:Sp h L [ak 5 G 1 aF ([]++ci r.object 3++ci r.block 1++ci r.id 2++[b8 r.p.1,b8 r.p.2.1,b8 r.p.2.2]),au f 170 (bT x)]:=e.cG [0,1];have w:=e.box 1 i0;refine⟨r.seed,by rw[<-W];exact w.cell i0,?_⟩;dsimp only;rw[al r.seed];refine(nZ G _ r.seed 4 i5 o9 e).mono ?_;rintro _ h8 ⟨Y,rfl,q⟩;have o:=q.box 1 i0;refine⟨Y,i0,x.2.2.2.2.2.2.2,o.cell i0,?_⟩;refine q.append af 0 i0 hJ ⟨_,_,i0,i0⟩ i0 i5 (λ_=>rfl) (Seq.up O q.aj) iM m0 λB z d=>?_;have S:[]++ci r.object 3++ci r.block 1++ci r.id 2++[b8 r.p.1,b8 r.p.2.1,b8 r.p.2.2]++ci r.seed 4++r.data=jp r:=by unfold jp;simp[qp]
 have d:Sp h z [ak 5 B 1 aF (jp r),au f 170 (bT x)]:=by rw[<-S];exact d
 refine(Ix 1 B (jp r) z (d.seq 0 i0 λ_=>rfl)).mono ?_;rintro _ X ⟨c,rfl,k⟩;refine⟨c,i0,c,i0,?_⟩;unfold dG;rw[g,f9 rfl];exact(d.comp k).cG [2]
theorem Us(b:Sl)(c:bf)(h:f8)(hb:Rd h b 1 aF c)(hc:c.length<=2^30)(ab:b.len<=b.cap):
  ac xB 194 #[b] h λv h'=>∃x:bJ,v=.tuple #[recv x,xv (eC c).isSome]/\(eC c=eH->Sp h h' [])/\∀r,eC c=dB r->Sp h h' [EA fx x r]:=by
 refine Ns b ?_;unfold Gm;refine(Sp.refl h).alloc af i0 λf h1 Q=>?_;have Q:Sp h h1 [au f 170 (bT (0,0,0,0,0,0,0,⟨eH,0,0⟩))]:=Q;have B:∀{h':f8} {Bs:List HP},Sp h h' (au f 170 (bT (0,0,0,0,0,0,0,⟨eH,0,0⟩))::Bs)->eC c=eH->
   ag xB (qf 170 (xt (dB f)) (recv (0,0,0,0,0,0,0,⟨eH,0,0⟩))) h' λ_ G=>∃W:bJ,aq G f 0 (bT W)/\∃x:bJ,Value.tuple #[recv W,xv eR]=.tuple #[recv x,xv (eC c).isSome]/\(eC c=eH->Sp h G [])/\∀r,eC c=dB r->Sp h G [EA fx x r]:=λ{h' Bs} H' H=>by
  refine H'.storeAll af 0 i0 i0 (bT (0,0,0,0,0,0,0,⟨eH,0,0⟩)) i0 i0 i0 i0 λG H4=>?_;exact⟨(0,0,0,0,0,0,0,⟨eH,0,0⟩),(H4.box 0 i0).aU _ i0,(0,0,0,0,0,0,0,⟨eH,0,0⟩),by rw[H];rfl,λ_=>.zip H4.aj,λr O=>by rw[H]at O;cases O⟩
 refine(Ff b c h1 (hb.up Q.aj) hc ab).mono ?_;rintro _ h2 ⟨Q0,Q1⟩;cases htc:fz c with
 |none=>
  obtain⟨rfl,R2⟩:=Q0 htc;have H:eC c=eH:=by unfold eC;rw[htc]
  exact⟨(0,⟨eH,0,0⟩,eR),i0,bj (bo (λ_=>B (Q.up R2.aj) H) λe=>j0)⟩
 |some kx=>
  obtain⟨k,x⟩:=kx;obtain⟨r,rfl,R2⟩:=Q1 k x htc;have s:Sp h h2 [au f 170 (bT (0,0,0,0,0,0,0,⟨eH,0,0⟩)),ak 5 r 1 aF x]:=Q.comp R2;have a2:x.length=55:=by
   unfold fz at htc;split at htc
   ·rename_i m;injection htc with htc
    injection htc with _ htc
    rw[<-htc];simp;omega
   ·cases htc
  have a8:=(s.own 1 i0).len;have S:=(s.own 1 i0).cap;refine⟨(k,r,eL),i0,bj (bo (λe=>j0) λ_=>cb (λe=>B s ?_) λL=>?_)⟩
  ·unfold eC;rw[htc];exact g0 λm=>e m.1
  dsimp only;have L:k=1:=L;obtain⟨R,t⟩:∃R,R=xC x:=⟨_,rfl⟩
  have M:eC c=if bP R.p=eL/\dG R=c then dB R else eH:=by
   unfold eC;rw[htc];dsimp only;rw[<-t];by_cases m:bP R.p=eL/\dG R=c
   ·rw[f9 m];exact f9 ⟨L,m⟩
   ·rw[g0 m];exact g0 λh=>m h.2
  have tA:∀{h':f8},Rd h' r 1 aF x->ac xB 246 #[xr r.ptr 3 r.cap] h' λv J=>v=xq xx R.object/\J=h':=λ{h'} O=>by
   rw[t];exact QP ⟨r.ptr,3,r.cap⟩ (x.take 3) h' (O.take 3 i4) i7
  have N:∀{h':f8} (j n:Nat),j+n<=55->n<=4->Rd h' r 1 aF x->ac xB 246 #[.slice (if r.cap=j then r.ptr else r.ptr.map (·.add (j*1))) n (r.cap-j)] h' λv J=>v=xq xx (dC ((x.drop j).take n))/\J=h':=λ{h'} j n hjn H O=>
   QP ⟨if r.cap=j then r.ptr else r.ptr.map (·.add (j*1)),n,r.cap-j⟩ ((x.drop j).take n) h' ((O.drop j S).take n l4) i7
  have rd:∀{h':f8} {A:HP} {Bs:List HP},Sp h h' (A::ak 5 r 1 aF x::Bs)->Rd h' r 1 aF x:=λ{h' A Bs} H'=>H'.seq 1 i0 λ_=>rfl;have GX:∀{h':f8} {A A2:HP} {Bs:List HP},Sp h h' (A::A2::ak 5 r 1 aF x::Bs)->Rd h' r 1 aF x:=λ{h' A A2 Bs} H'=>H'.seq 2 i0 λ_=>rfl;refine bX (λ(a:eX) h'=>Sp h h' [au a 170 (bT (R.object,R.block,R.id,0,0,0,0,⟨eH,0,0⟩)),au f 170 (bT (0,0,0,0,0,0,0,⟨eH,0,0⟩)),ak 5 r 1 aF x]) ?_ ?_
  ·have eb:dC ((x.drop 3).take 1)=R.block:=pt
   have ei:dC ((x.drop 4).take 2)=R.id:=pt
   have fin:∀{h':f8} {a:eX},Sp h h' [au f 170 (bT (0,0,0,0,0,0,0,⟨eH,0,0⟩)),ak 5 r 1 aF x,au a 170 (bT (0,0,0,0,0,0,0,⟨eH,0,0⟩))]->
     ag xB (qf 170 (xt (dB a)) (recv (R.object,R.block,R.id,0,0,0,0,⟨eH,0,0⟩))) h' λ_ G=>az.ok [] G/\Sp h G [au a 170 (bT (R.object,R.block,R.id,0,0,0,0,⟨eH,0,0⟩)),au f 170 (bT (0,0,0,0,0,0,0,⟨eH,0,0⟩)),ak 5 r 1 aF x]:=λ{h' a} H'=>
    H'.storeAll af 2 i0 i0 (bT (R.object,R.block,R.id,0,0,0,0,⟨eH,0,0⟩)) i0 i0 i0 i0 λG H4=>⟨trivial,H4.cG [2,0,1]⟩
   have A_:∀{h':f8} {Bs:List HP} {K:Int->f8->Prop},Sp h h' (au f 170 (bT (0,0,0,0,0,0,0,⟨eH,0,0⟩))::ak 5 r 1 aF x::Bs)->K R.object h'->ae xB 246 #[xr r.ptr 3 r.cap] (.one (.sc (.int .i64))) h' K:=λ{h' Bs K} H' hK=>by
    refine(tA (rd H')).mono ?_;rintro _ _ ⟨rfl,rfl⟩;exact⟨_,i0,hK⟩
   have B_:∀{h':f8} {Bs:List HP} {K:Int->f8->Prop},Sp h h' (au f 170 (bT (0,0,0,0,0,0,0,⟨eH,0,0⟩))::ak 5 r 1 aF x::Bs)->K R.block h'->ae xB 246 #[.slice (if r.cap=3 then r.ptr else r.ptr.map (·.add (3*1))) 1 (r.cap-3)] (.one (.sc (.int .i64))) h' K:=λ{h' Bs K} H' hK=>by
    refine(N 3 1 i5 i5 (rd H')).mono ?_;rintro _ _ ⟨rfl,rfl⟩;exact⟨_,i0,by rw[eb];exact hK⟩
   have C_:∀{h':f8} {Bs:List HP} {K:Int->f8->Prop},Sp h h' (au f 170 (bT (0,0,0,0,0,0,0,⟨eH,0,0⟩))::ak 5 r 1 aF x::Bs)->K R.id h'->ae xB 246 #[.slice (if r.cap=4 then r.ptr else r.ptr.map (·.add (4*1))) 2 (r.cap-4)] (.one (.sc (.int .i64))) h' K:=λ{h' Bs K} H' hK=>by
    refine(N 4 2 i5 i5 (rd H')).mono ?_;rintro _ _ ⟨rfl,rfl⟩;exact⟨_,i0,by rw[ei];exact hK⟩
   refine⟨⟨i5,i4⟩,⟨i5,i5,i4⟩,⟨i5,i5,i4⟩,A_ s ⟨trivial,B_ s ⟨trivial,C_ s ⟨trivial,?_⟩,?_⟩,?_⟩,?_⟩
   ·refine s.alloc af i0 λa9 h9 i=>⟨trivial,?_⟩
    exact fin i
   ·refine s.alloc af i0 λa9 h9 i=>⟨trivial,?_⟩
    exact C_ i ⟨trivial,fin i⟩
   ·refine s.alloc af i0 λa9 h9 i=>⟨trivial,?_⟩
    exact B_ i ⟨trivial,C_ i ⟨trivial,fin i⟩⟩
   ·refine s.alloc af i0 λa9 h9 i=>⟨trivial,?_⟩
    exact A_ i ⟨trivial,B_ i ⟨trivial,C_ i ⟨trivial,fin i⟩⟩⟩
  ·rintro a9 h5 H5;have I:0<=R.seed/\R.seed<4294967296:=by have:=Ur ((x.drop 9).take 4) i7;rw[t];exact⟨this.1,this.2.1⟩
   have e6:dC ((x.drop 6).take 1)=R.p.1:=pt
   have e7:dC ((x.drop 7).take 1)=R.p.2.1:=pt
   have e8:dC ((x.drop 8).take 1)=R.p.2.2:=pt
   have e9:dC ((x.drop 9).take 4)=R.seed:=pt
   refine bj ⟨⟨i5,i5,i4⟩,⟨i5,i5,i4⟩,⟨i5,i5,i4⟩,(N 6 1 i5 i5 (GX H5)).mono ?_⟩;rintro _ _ ⟨rfl,rfl⟩;refine⟨_,i0,trivial,(N 7 1 i5 i5 (GX H5)).mono ?_⟩;rintro _ _ ⟨rfl,rfl⟩;refine⟨_,i0,trivial,(N 8 1 i5 i5 (GX H5)).mono ?_⟩;rintro _ a7 ⟨rfl,rfl⟩;refine⟨_,i0,trivial,?_⟩;dsimp only;rw[e6,e7,e8];refine H5.store af 0 i0 i0 3 [xq xx R.p.1,xq xx R.p.2.1,xq xx R.p.2.2] i0 i0 i0 i9 λao y=>⟨trivial,?_⟩
   have y:Sp h ao [au a9 170 (bT (R.object,R.block,R.id,R.p.1,R.p.2.1,R.p.2.2,0,⟨eH,0,0⟩)),au f 170 (bT (0,0,0,0,0,0,0,⟨eH,0,0⟩)),ak 5 r 1 aF x]:=y;refine⟨⟨i5,i5,i4⟩,(N 9 4 i5 i5 (GX y)).mono ?_⟩;rintro _ a5 ⟨rfl,rfl⟩;refine⟨_,i0,?_⟩;dsimp only;have ew:qc xz (dC ((x.drop 9).take 4))=R.seed:=by rw[e9];unfold qc;simp[qk,y7];omega
   rw[ew];refine y.store af 0 i0 i0 6 [xq xz R.seed] i0 i0 i0 i9 λU D=>?_;have D:Sp h U [au a9 170 (bT (R.object,R.block,R.id,R.p.1,R.p.2.1,R.p.2.2,R.seed,⟨eH,0,0⟩)),au f 170 (bT (0,0,0,0,0,0,0,⟨eH,0,0⟩)),ak 5 r 1 aF x]:=D;refine⟨R.p,(D.box 0 i0).JI 3 i0 i0 i0,(eN R.p U).mono ?_⟩;rintro _ P ⟨rfl,am⟩;have z:Sp h P [au a9 170 (bT (R.object,R.block,R.id,R.p.1,R.p.2.1,R.p.2.2,R.seed,⟨eH,0,0⟩)),au f 170 (bT (0,0,0,0,0,0,0,⟨eH,0,0⟩)),ak 5 r 1 aF x]:=D.up am.aj;refine⟨_,i0,bo (λg=>B (z.aX 2 [1,0]) (by rw[M,g0 λm=>by rw[g]at m;cases m.1])) λg=>?_⟩;have bb:=(cu R.p).1 g;refine⟨R.p.2.2,(z.box 0 i0).Cf 3 2 i0,?_⟩;dsimp only;rw[al ((13:Int)+R.p.2.2)];refine⟨⟨i5,i4,i4⟩,?_⟩;have a0:((13:Int)+R.p.2.2).toNat-(13:Int).toNat=R.p.2.2.toNat:=i4
   rw[a0];have E:(x.drop 13).take R.p.2.2.toNat=R.data:=pt
   have F:=((GX z).drop 13 S).take R.p.2.2.toNat l4;rw[E]at F;have a3:R.data.length=R.p.2.2.toNat:=by rw[<-E];simp;omega
   refine(fa ⟨if r.cap=13 then r.ptr else r.ptr.map (·.add (13*1)),R.p.2.2.toNat,r.cap-13⟩ R.data P F i4).mono ?_;rintro _ a4 ⟨u,rfl,ap⟩;have ax:=z.comp ap;refine⟨u,i0,?_⟩;refine ax.store af 0 i0 i0 7 [u] i0 i0 i0 i9 λY l=>?_;have l:Sp h Y [au a9 170 (bT (R.object,R.block,R.id,R.p.1,R.p.2.1,R.p.2.2,R.seed,u)),au f 170 (bT (0,0,0,0,0,0,0,⟨eH,0,0⟩)),ak 5 r 1 aF x,ak 5 u 1 aF R.data]:=l;obtain⟨X,hX⟩:∃X:bJ,X=(R.object,R.block,R.id,R.p.1,R.p.2.1,R.p.2.2,R.seed,u):=⟨_,rfl⟩
   rw[<-hX]at l;have Z:∀{h':f8} {q:aD},Seq h' q u 1 aF R.data->fx.p h' q X R:=λ{h' q} hs=>by rw[hX];exact⟨⟨i0,i0,i0,i0,i0,I⟩,hs⟩
   refine⟨X,(l.box 0 i0).aU _ i0,(tQ X R Y (Z (l.seq 3 i0 λ_=>rfl))).mono ?_⟩;rintro _ ay ⟨s5,rfl,ar⟩;have o:=l.comp ar;refine⟨s5,i0,(rU b s5 c (dG R) ay (hb.up o.aj) (o.seq 4 i0 λ_=>rfl)).mono ?_⟩;rintro _ a6 ⟨rfl,rfl⟩;refine⟨_,i0,bo (λT=>B (o.aX 2 [1,0]) (by rw[M,g0 λm=>(of_decide_eq_false T) m.2.symm])) λT=>?_⟩;have T:c=dG R:=hZ T;refine⟨X,(o.box 0 i0).aU _ i0,?_⟩;refine o.storeAll af 1 i0 i0 (bT X) i0 i0 i0 i0 λad V=>?_;have d:eC c=dB R:=by rw[M,f9 ⟨g,T.symm⟩]
   refine⟨X,(V.box 1 i0).aU _ i0,X,by rw[d];rfl,λH=>(by rw[d]at H;cases H),λr' w=>?_⟩;rw[d]at w;injection w with w
   subst w;have ah:Sp h ad [ak 5 u 1 aF R.data]:=V.cG [3];exact ah.fZ 0 i0 λq hq=>Z (hq.1.seq (λ_=>rfl) hq.2)
end Go.Qw
namespace Go.Vc
open Go Wl Go.Qw
section
variable {B:aD} {h0 h h':f8} {As L:List HP} {X Y Z:HP}
theorem aa.ajR(H:aa B h0 h (X::Y::(L++As))):aa B h0 h (L++(X::Y::As)):=
 H.pick (λi=>if i<ii L then i+2 else if i=ii L then 0 else if i=ii L+1 then 1 else i) (λa b c=>by(try dsimp only at c);split at c<;>split at c<;>(try split at c)<;>(try split at c)<;>(try split at c)<;>(try split at c)<;>omega) λi A d=>by
  try dsimp only
  by_cases g:i<ii L
  ·rw[qo g]at d;rw[f9 g,qw,qw,qo g];exact d
  ·rw[qj i4]at d;rw[g0 g];by_cases e:i=ii L
   ·subst e;rw[f9 rfl];rw[zc]at d;exact d
   ·rw[g0 e];by_cases f:i=ii L+1
    ·subst f;rw[f9 rfl];rw[show L.length+1-ii L=1 by omega]at d;exact d
    ·rw[g0 f];obtain⟨j,rfl⟩:∃j,i=ii L+(j+2):=⟨i-ii L-2,i4⟩
     rw[zp,qw,qw]at d;rw[show L.length+(j+2)=(ii L+j)+1+1 by omega,qw,qw,qj i4,zp];exact d
theorem aa.XZ(n:Nat)(c:L[n]?=dB X)(H:aa B h0 h (Y::Z::(L++As))):aa B h0 h (X::Z::Y::(L.set n emp++As)):=by
 have a:=(qn.1 c).1;have b:=H.cons (n+2) (A:=X) (by rw[qw,qw,qo a];exact c);have e:(Y::Z::(L++As)).set (n+2) emp=Y::Z::(L.set n emp++As):=by rw[zw,zw,List.set_append_left _ _ a]
 rw[e]at b;exact b.aX 3 [0,2,1]
theorem aa.JJ(n:Nat)(g:n<ii L)(H:aa B h0 h (X::Z::Y::(L.set n emp++As))):aa B h0 h (Y::Z::(L.set n X++As)):=
 H.pick (λi=>if i=0 then 2 else if i=1 then 1 else if i=n+2 then 0 else i+1) (λa b c=>by(try dsimp only at c);split at c<;>split at c<;>(try split at c)<;>(try split at c)<;>(try split at c)<;>(try split at c)<;>omega) λi A d=>by
  try dsimp only
  match i,d with
  |0,d=>exact d
  |1,d=>exact d
  |i+2,d=>
   rw[g0 i4,g0 i4];rw[qw,qw]at d;by_cases e:i=n
   ·subst e;rw[qo m4,zl g]at d;rw[f9 rfl];exact d
   ·rw[g0 i4,qw,qw,qw];by_cases f:i<ii L
    ·rw[qo p7,zD i4]at d;rw[qo p7,zD i4];exact d
    ·rw[qj i7,zh]at d;rw[qj i7,zh];exact d
end
structure Kit where
 tS:Nat
 tP:Nat
 tD:Nat
 f:eX->bt->Sl->Sl->bg
def aiW(k:Kit)(pw:eX)(a:aO)(d:Option bt):HP:=match a,d with
 |some a,dB d=>iG k.tD (k.f pw) a d
 |_,_=>emp
abbrev cT(b:bg)(pw:eX)(offs:Int)(a:List aO):bg:=b++(xt (dB pw)::xq xx offs::a.map .pointer)
structure gh (mc:bg) (da:List aO) (ds:aJ):Prop where
 l8:ii mc=8
 la:ii da=64
 ls:ii ds=64
 same:∀i:Nat,(da.getD i eH).isSome=(ds.getD i eH).isSome
abbrev gc(k:Kit)(pw:eX)(a:List aO)(ds:aJ):List HP:=List.zipWith (aiW k pw) a ds
def bp(k:Kit)(a pw:eX)(c:bg)(offs:Int)(b:List aO)(w:Pow)(ds:aJ):HP:=
 (HP.all (au a k.tS (cT c pw offs b)::dn k.tP pw w::gc k pw b ds)).and (gh c b ds)
section
variable {k:Kit} {B:aD} {h0 h h':f8} {As:List HP} {a pw:eX} {mc:bg} {offs:Int} {da:List aO} {w w':Pow} {ds:aJ} {d d':bt} {n:Nat}
theorem Fg(ok:gh mc da ds):ii (gc k pw da ds)=64:=by simp[gc,ok.la,ok.ls]
theorem aa.pq(H:aa B h0 h (bp k a pw mc offs da w ds::As)):gh mc da ds/\aa B h0 h (au a k.tS (cT mc pw offs da)::dn k.tP pw w::(gc k pw da ds++As)):=by obtain⟨H,ok⟩:=H.Lc;exact⟨ok,H.pu⟩
theorem aa.pT(ok:gh mc da ds)(H:aa B h0 h (au a k.tS (cT mc pw offs da)::dn k.tP pw w::(gc k pw da ds++As))):aa B h0 h (bp k a pw mc offs da w ds::As):=
 (aa.closeAll (au a k.tS (cT mc pw offs da)::dn k.tP pw w::gc k pw da ds) H).toLc ok
theorem gh.addr(ok:gh mc da ds)(c:ds[n]?=dB (dB d)):∃b,da[n]?=dB (dB b):=by
 have g:n<64:=by have:=(qn.1 c).1;rw[ok.ls]at this;exact this
 have a:=ok.same n;rw[qe,qe,c]at a;have e:n<ii da:=by rw[ok.la];exact g
 rw[qd e]at a⊢;simp at a;obtain⟨b,f⟩:=vz.1 a;exact⟨b,by rw[f]⟩
theorem gh.abR(ok:gh mc da ds)(d:n<64)(b:ds[n]?=dB eH):da[n]?=dB eH:=by
 have a:=ok.same n;rw[qe,qe,b]at a;have c:n<ii da:=by rw[ok.la];exact d
 rw[qd c]at a⊢;simp at a;rw[a]
theorem gh.set(ok:gh mc da ds){b:eX}(c:da[n]?=dB (dB b)):gh mc da (ds.set n (dB d')):=by
 refine⟨ok.l8,ok.la,by rw[zh];exact ok.ls,λi=>?_⟩;by_cases a:n=i
 ·subst a;have d:n<ii ds:=by have:=(qn.1 c).1;rw[ok.la]at this;rw[ok.ls];exact this
  rw[qe,c,qe,zl d];rfl
 ·rw[qe (l:=ds.set n _),zD a,<-qe];exact ok.same i
theorem aeJ{b:eX}(c:da[n]?=dB (dB b))(e:n<ii ds):(gc k pw da ds).set n (iG k.tD (k.f pw) b d')=gc k pw da (ds.set n (dB d')):=by
 apply zG;intro j;have d:n<ii da:=(qn.1 c).1;simp only[gc,q7,wb,y6];by_cases a:n=j
 ·subst a;rw[f9 i0,f9 i4,f9 i0,f9 e,c];rfl
 ·simp[a]
def SD(k:Kit)(a pw:eX)(c:bg)(offs:Int)(b:List aO)(ds:aJ)(n:Nat):HP:=
 (HP.all (au a k.tS (cT c pw offs b)::(gc k pw b ds).set n emp)).and (gh c b ds)
theorem aa.jV(H:aa B h0 h (bp k a pw mc offs da w ds::As))(c:ds[n]?=dB (dB d)):∃b,da[n]?=dB (dB b)/\aa B h0 h (iG k.tD (k.f pw) b d::dn k.tP pw w::SD k a pw mc offs da ds n::As):=by
 obtain⟨ok,j⟩:=H.pq;obtain⟨b,e⟩:=ok.addr c;refine⟨b,e,?_⟩;have i:(gc k pw da ds)[n]?=dB (iG k.tD (k.f pw) b d):=by simp only[gc,wb,e,c];rfl
 have g:=j.XZ n i;have l:aa B h0 h (iG k.tD (k.f pw) b d::dn k.tP pw w::((au a k.tS (cT mc pw offs da)::(gc k pw da ds).set n emp)++As)):=g;exact(((aa.closeAll _ l.ajR).toLc ok).aX 3 [1,2,0]:aa B h0 h (iG k.tD (k.f pw) b d::dn k.tP pw w::SD k a pw mc offs da ds n::As))
theorem aa.te{b:eX}(l:da[n]?=dB (dB b))(H:aa B h0 h (iG k.tD (k.f pw) b d'::dn k.tP pw w'::SD k a pw mc offs da ds n::As)):aa B h0 h (bp k a pw mc offs da w' (ds.set n (dB d'))::As):=by
 have j:aa B h0 h (SD k a pw mc offs da ds n::dn k.tP pw w'::iG k.tD (k.f pw) b d'::As):=H.aX 3 [2,1,0];obtain⟨j,ok⟩:=j.Lc;have o:=j.pu;have p:n<ii ds:=by have:=(qn.1 l).1;rw[ok.la]at this;rw[ok.ls];exact this
 have s:=Fg (k:=k) (pw:=pw) ok;have g:n<ii (gc k pw da ds):=by rw[s,<-ok.ls];exact p
 obtain⟨L,q⟩:∃L,L=gc k pw da ds:=⟨_,rfl⟩
 rw[<-q]at o g;have t:aa B h0 h (iG k.tD (k.f pw) b d'::dn k.tP pw w'::au a k.tS (cT mc pw offs da)::(L.set n emp++As)):=by
  refine o.pick (λi=>if i=0 then 1+ii L+1 else if i=1 then 1+ii L else if i=2 then 0 else if i<3+ii L then i-2 else i) (λx y c=>by(try dsimp only at c);split at c<;>split at c<;>(try split at c)<;>(try split at c)<;>(try split at c)<;>(try split at c)<;>(try split at c)<;>(try split at c)<;>omega) λi A e=>?_
  try dsimp only
  have d:ii (au a k.tS (cT mc pw offs da)::L.set n emp)=1+ii L:=i7
  match i,e with
  |0,e=>rw[f9 i0,qj i4,d,show 1+ii L+1-(1+ii L)=1 by omega];exact e
  |1,e=>rw[g0 i4,f9 i0,qj i4,d,zc];exact e
  |2,e=>rw[g0 i4,g0 i4,f9 rfl];exact e
  |i+3,e=>
   rw[g0 i4,g0 i4,g0 i4];rw[qw,qw,qw]at e;by_cases m:i<ii L
   ·rw[f9 i4,show i+3-2=i+1 by omega,qo (by rw[d];omega),qw];rw[qo qa]at e;exact e
   ·rw[g0 i4,qj (by rw[d];omega),d,show i+3-(1+ii L)=(i-ii L)+2 by omega,qw,qw];rw[qj i7,zh]at e;exact e
 have r:=aa.JJ n g t;rw[q,aeJ l p]at r;exact r.pT (ok.set l)
end
def jI:jn (Int×Sl) (Int×bf):=⟨λh q a b=>a.1=b.1/\Seq h q a.2 1 aF b.2,λa d=>⟨a.1,a.2.aj d⟩,λa c=>⟨a.1,a.2.mono c⟩⟩
def piv(x:Int×Sl):bg:=[xq xx x.1,x.2]
theorem PK:∀x,∀c∈piv x,c.oneCell'=eL:=by intro x c a;simp[piv]at a;rcases a with rfl|rfl<;>rfl
def gr(a:List aO)(slot:Int):aO:=if 0<=slot/\slot<64 then(a[slot.toNat]?).join else eH
theorem nD{g:bg}{c:List aO}{ds:aJ}(ok:gh g c ds)(slot:Int):
  (bh ds slot=eH/\gr c slot=eH)∨∃(n:Nat) (d:bt) (b:eX),slot=n/\n<64/\ds[n]?=dB (dB d)/\bh ds slot=dB d/\c[n]?=dB (dB b)/\gr c slot=dB b:=by
 unfold bh gr;by_cases h:0<=slot/\slot<64
 ·rw[f9 h,f9 h];have f:slot.toNat<ii ds:=by rw[ok.ls];omega
  cases hd:ds[slot.toNat]with
  |none=>
   have a:ds[slot.toNat]?=dB eH:=by rw[qd f,hd]
   exact .inl ⟨by rw[a];rfl,by rw[ok.abR i4 a];rfl⟩
  |some d=>
   have a:ds[slot.toNat]?=dB (dB d):=by rw[qd f,hd]
   obtain⟨b,e⟩:=ok.addr a;exact .inr ⟨slot.toNat,d,b,i4,i4,a,by rw[a];rfl,e,n0⟩
 ·rw[g0 h,g0 h];exact .inl ⟨i0,i0⟩
theorem Cg{a:bg}{pw:eX}{offs:Int}{b:List aO}(h8:ii a=8)(n:Nat):(cT a pw offs b)[10+n]?=(b[n]?).map .pointer:=by unfold cT;rw[qj i4,h8,show 10+n-8=n+1+1 by omega,qw,qw,qT]
theorem Ut{a:bg}{pw:eX}{offs:Int}{b:List aO}(h8:ii a=8):(cT a pw offs b)[8]?=dB (xt (dB pw)):=by unfold cT;rw[qj i4,h8];rfl
theorem Zp{a:bg}{pw:eX}{offs:Int}{b:List aO}(h8:ii a=8):(cT a pw offs b)[9]?=dB (xq xx offs):=by unfold cT;rw[qj i4,h8];rfl
end Go.Vc
namespace Go.Qw
open Go Go.Vc Go.Proofs Wl
abbrev bz:Go.Vc.Kit:=⟨84,92,156,λpw=>fo pw⟩
theorem Uu{e:TypeId}(s:Sl)(l:aC)(h:f8)(c:Own h e s 1 av l)(a:ii l<2^40):ac xB 172 #[s] h λv h'=>v=xr s.ptr (Lib.compact l).length s.cap/\Own h' e ⟨s.ptr,ii (Lib.compact l),s.cap⟩ 1 av (Lib.compact l)/\be (λb=>¬s.on b) h h':=
 MC Tryz.slices_Compact_int Tryz.slices_Compact_int_empty c a
section
variable {B:aD} {h0 h h':f8} {As:List HP} {a pw:eX} {mc:bg} {offs:Int} {da:List aO} {w:Pow} {ds:aJ}
theorem mS(slot:Int)(ok:gh mc da ds)(d:cx h a 84 (cT mc pw offs da)):ac xB 35 #[xt (dB a),xq xx slot] h λv h'=>v=.pointer (gr da slot)/\h'=h:=by
 refine Dr (dB a) slot ?_;unfold sw;have b:¬(0<=slot/\slot<64)->Value.pointer eH=.pointer (gr da slot)/\h=h:=λe=>by unfold gr;rw[g0 e];exact⟨i0,i0⟩
 refine bj (bC (λe=>j0) λ_=>ai (λe=>b i4) λf=>ai (λe=>b i4) λe2=>?_);have c:slot.toNat<ii da:=by rw[ok.la];omega
 refine⟨a,i0,⟨i4,i4⟩,da[slot.toNat],?_,?_,i0⟩
 ·rw[z6];refine d.Cf 10 slot.toNat ?_;rw[Cg ok.l8,qd c];rfl
 ·unfold gr;rw[f9 i4,qd c];rfl
theorem aa.dh(H:aa B h0 h (bp bz a pw mc offs da w ds::As)):gh mc da ds/\cx h a 84 (cT mc pw offs da):=by obtain⟨ok,b⟩:=Go.Vc.aa.pq H;exact⟨ok,b.box 0 i0⟩
theorem NI(s:Sl)(l:aC)(x:Rd h s 1 av l)(J:ii l<=2^30)(H:aa B h0 h (bp bz a pw mc offs da w ds::As)):
  ac xB 80 #[.func (.func 35) #[xt (dB a)] #[],s] h λv h'=>∃r:Sl,v=r/\Sp h h' [ak 3 r 1 av (aT ds l)]:=by
 refine Ua (35,#[xt (dB a)],#[]) s ?_;unfold MZ;have F:=x.len;obtain⟨ok,u⟩:=aa.dh H;refine aA (λt:Sl×Nat=>(t.1,(t.2:Int))) (λt h'=>t.2<=ii l/\Sp h h' [ak 3 t.1 1 av (aT ds (l.take t.2))]) (λt=>ii l-t.2) (⟨eH,0,0⟩,0) i0 ⟨i9,by simpa[aT]using(Sp.refl h).nil 3 1 av⟩ ?_;rintro⟨o,i⟩ M ⟨L,j⟩;dsimp only at*;refine ai (λe=>?_) (λe=>?_)
 ·have p:i<ii l:=i4
  have c:aT ds (l.take (i+1))=aT ds (l.take i)++(if isLive ds l[i]then[l[i]]else[]):=by unfold aT;rw[aK _ _ p,zm,zq,vf]
  have A:ii (aT ds (l.take i))<=ii l:=by have:=qR (isLive ds) (l.take i);unfold aT;simp at this⊢;omega
  have next:∀{h':f8} {k:Sl},Sp h h' [ak 3 k 1 av (aT ds (l.take (i+1)))]->∃m:Sl×Nat,((⟨k.ptr,k.len,k.cap⟩:Sl),qc xx ((i:Int)+1))=(m.1,(m.2:Int))/\(m.2<=ii l/\Sp h h' [ak 3 m.1 1 av (aT ds (l.take m.2))])/\l.length-m.2<ii l-i:=λ{h' k} H'=>
   ⟨(k,i+1),jj,⟨i6,H'⟩,i6⟩
  refine(Seq.up x j.aj).bH i i0 p l[i] i0 (ff ld ?_);refine(mS l[i] ok (u.aj j.aj u.lt)).mono ?_;rintro _ I ⟨rfl,rfl⟩;refine⟨_,i0,?_⟩;rcases nD ok l[i]with⟨c1,c2⟩|⟨n,d,b,c0,c1,c2,c3,c4,c5⟩
  ·rw[c2];have g:isLive ds l[i]=eR:=by unfold isLive;rw[c1]
   rw[g]at c;refine bo (λe=>j0) λ_=>next (by rw[c];simpa using j)
  ·rw[c5];have g:isLive ds l[i]=!d.lost:=by unfold isLive;rw[c3]
   refine bo (λ_=>?_) λe=>j0
   obtain⟨G,f,y⟩:=Go.Vc.aa.jV (aa.up H j.aj) c2;rw[c4]at f;injection f with f
   injection f with f
   subst f;obtain⟨E,z,q,_,_⟩:=ji.box y;refine(Iw E z q).mono ?_;rintro _ h3 ⟨rfl,rfl⟩;refine⟨_,i0,bo (λe=>?_) λe=>?_⟩
   ·rw[g,e]at c;refine j.push af 0 i0 gN i0 i5 (λ_=>rfl) fD l[i] i0 i5 i4 λk K D=>next ?_
    rw[c];exact D
   ·rw[g,e]at c;exact next (by rw[c];simpa using j)
 ·rw[qi i4]at j;exact⟨o,i0,j⟩
theorem NJ(s:Sl)(l:aC)(V:St B h0 As λh=>Rd h s 1 av l)(hl:ii l<=2^30)(E:∀x∈l,0<=x/\x<64)(H:aa B h0 h (bp bz a pw mc offs da w ds::As)):
  ac xB 103 #[.func (.func 35) #[xt (dB a)] #[],s] h λv h'=>v=xq xx (eW (cM l) w ds).1/\aa B h0 h' (bp bz a pw mc offs da (eW (cM l) w ds).2.1 (eW (cM l) w ds).2.2::As):=by
 refine Ud (35,#[xt (dB a)],#[]) s ?_;unfold Nf;refine(ka s l h (V.at [_] H) i4).mono ?_;rintro _ U ⟨r,rfl,X⟩;have J:=H.co X;refine⟨r,i0,(Iu r l U (J.own 0 i0) i4).mono ?_⟩;rintro _ R ⟨rfl,L,Y⟩;have N:=J.nP 0 i0 Y L;refine⟨(),i0,(Uu r (ia l) R L (by rw[Hg];omega)).mono ?_⟩;rintro _ h3 ⟨rfl,P,M⟩;have y:=N.step (D:=ak 3 ⟨r.ptr,ii (Lib.compact (ia l)),r.cap⟩ 1 av (Lib.compact (ia l))) 0 i0 λq z A=>⟨M.mono λb _ m G=>m (z.2 b G),P,λb m=>⟨qW (A b (z.2 b m)) M.1,.inl (z.2 b m)⟩⟩
 rw[YQ l E]at y⊢;obtain⟨u,K⟩:∃u,u=cM l:=⟨_,rfl⟩
 rw[<-K]at y⊢;have y:aa B h0 h3 (ak 3 ⟨r.ptr,ii u,r.cap⟩ 1 av u::bp bz a pw mc offs da w ds::As):=y;have T:ii u<=64:=by have:=qR (λi=>decide (i∈l)) ((qy 64).map λi:Nat=>(i:Int));rw[K];unfold cM;simpa using this
 refine⟨⟨r.ptr,ii u,r.cap⟩,i0,?_⟩;refine aA (λt:Nat×Pow×aJ=>(t.1:Int)) (λt h'=>t.1<=ii u/\eW u w ds=eW (u.drop t.1) t.2.1 t.2.2/\aa B h0 h' (ak 3 ⟨r.ptr,ii u,r.cap⟩ 1 av u::bp bz a pw mc offs da t.2.1 t.2.2::As)) (λt=>ii u-t.1) (0,w,ds) i0 ⟨i9,i0,y⟩ ?_;rintro⟨i,j,f⟩ h4 ⟨hi,c,p⟩;dsimp only at*;refine ai (λe=>?_) (λe=>?_)
 ·have o:i<ii u:=i4
  obtain⟨ok,m⟩:=aa.dh p.rest;rw[qP o,wn]at c;refine(p.seq 0 i0 λ_=>rfl).bH i i0 o u[i] i0 (ff ld ?_);refine(mS u[i] ok m).mono ?_;rintro _ W ⟨rfl,rfl⟩;refine⟨_,i0,?_⟩;rcases nD ok u[i]with⟨c1,c2⟩|⟨n,d,b,c0,c1,c2,c3,c4,c5⟩
  ·rw[c2];refine(Up W).mono ?_;rintro _ Q ⟨rfl,rfl⟩;have F:gQ j f u[i]=(5,j,f):=by unfold gQ;rw[c1]
   rw[F]at c;refine⟨5,i0,cb (λ_=>?_) λe=>absurd e i5⟩;have:eW u w ds=(5,j,f):=c;rw[this];exact⟨i0,p.rest⟩
  ·rw[c5];obtain⟨Z,g,S⟩:=Go.Vc.aa.jV (p.aX 2 [1,0]) c2;rw[c4]at g;injection g with g
   injection g with g
   subst g;refine(abH S).mono ?_;rintro _ Q ⟨rfl,O⟩;have I:=Go.Vc.aa.te (k:=bz) (n:=n) c4 O;have F:gQ j f u[i]=((d.sync j).1,(d.sync j).2.1,f.set n (dB (d.sync j).2.2)):=by unfold gQ;rw[c3];simp only[bQ,c0,ql]
   rw[F]at c;refine⟨_,i0,cb (λe2=>?_) λe2=>?_⟩
   ·have:eW u w ds=((d.sync j).1,(d.sync j).2.1,f.set n (dB (d.sync j).2.2)):=by rw[c];exact g0 e2
    rw[this];exact⟨i0,I.re⟩
   ·refine⟨(i+1,(d.sync j).2.1,f.set n (dB (d.sync j).2.2)),jj,⟨i6,?_,I.aX 2 [1,0]⟩,i6⟩;rw[c];exact f9 e2
 ·rw[zg i4]at c;rw[c];exact⟨i0,p.rest⟩
end
end Go.Qw
namespace Go.Vc
open Go Wl
theorem HP.DU{h:f8}:∀{L:List HP} {q:aD} {i:Nat} {A:HP},(HP.all L).p h q->L[i]?=dB A->A.p h q
 |A::L,q,0,A',⟨q1,q2,_,b,_,d,_⟩,hi=>by simp at hi;subst hi;exact A.mono d b
 |A::L,q,i+1,A',⟨q1,q2,_,_,c,_,e⟩,hi=>A'.mono (HP.DU e (by simpa using hi)) c
 |[],_,i,_,_,hi=>by simp at hi
section
variable {α β:Type} {B:aD} {h0 h:f8} {As:List HP} {e e2 k:Nat} {s:Sl} {f:α->bg} {ll:List (List α)}
theorem aa.Zq(H:aa B h0 h (dK e s e2 k f ll::As))(m:∀x,ii (f x)=k):∃rs,aa B h0 h (cO (cF k f) 1 bw s rs ll::As):=by
 obtain⟨rs,H⟩:=H.tG;obtain⟨H,c⟩:=H.Lc;refine⟨rs,H.fZ 0 i0 λq b=>⟨?_,c,λi r l g a=>?_⟩⟩
 ·have:=HP.DU (i:=0) b i0;exact this.1.seq (λ_=>rfl) this.2
 ·have d:i<ii ll:=(qn.1 a).1;have n:=fX (e:=e2) (k:=k) (f:=f) c i d;have:=HP.DU (i:=i+1) b l9;have j:rs[i]'(by omega)=r:=by rw[qd i4]at g;simpa using g
  have e2:ll[i]=l:=by rw[qd d]at a;simpa using a
  rw[j,e2]at this;exact this.1.seq m this.2
end
end Go.Vc
namespace Wl
def bM(m:aG)(bV:aC):List (Int×bf):=bV.flatMap λn=>(bu m).map λc=>(n,c)
theorem lA{m:aG}{bV:aC}{x:Int×bf}(h:x∈bM m bV):x.1∈bV/\x.2.length=64:=by unfold bM at h;obtain⟨n,d,a⟩:=zP.1 h;obtain⟨c,b,rfl⟩:=qu.1 a;exact⟨d,ww b⟩
end Wl
namespace Go.Qw
open Go Go.Vc Go.Proofs Wl
theorem jW(m:aG)(a:cS m):ii (bu m)<=3000:=by have:=LO m a;unfold bu iI;simp;omega
abbrev Uv:bY C.toDi 89 101 2 [xq xx 0,xr eH 0 0] 32:=⟨_,_,i0,i0,i0,i0,i0,i0⟩
section
variable {B:aD} {h0 h h':f8} {As:List HP} {a pw:eX} {mc:bg} {offs:Int} {da:List aO} {w:Pow} {ds:aJ}
theorem Iz(s:Sl)(r:List (Int×Sl))(P:List (Int×bf))(I:St B h0 As λh=>oC jI 2 piv h s r P)(hl:ii P<=2^30)(A:∀x∈P,(0<=x.1/\x.1<64)/\x.2.length<=2^20)(H:aa B h0 h (bp bz a pw mc offs da w ds::As)):
  ac xB 44 #[.func (.func 35) #[xt (dB a)] #[],s] h λv h'=>v=xq xx (layAll P w ds).1/\aa B h0 h' (bp bz a pw mc offs da (layAll P w ds).2.1 (layAll P w ds).2.2::As):=by
 refine Wm (35,#[xt (dB a)],#[]) s ?_;unfold QD;have ab:=(I.at [_] H).1.len;have U:=(I.at [_] H).2.1;have S:=(H.nil 3 1 av).bA;refine aA (λt:Sl×Nat×Pow×aJ=>(t.1,(t.2.1:Int))) (λt h'=>t.2.1<=ii P/\lM P w ds=lM (P.drop t.2.1) t.2.2.1 t.2.2.2/\aa B h0 h' (ak 3 t.1 1 av ((P.take t.2.1).map qH)::bp bz a pw mc offs da t.2.2.1 t.2.2.2::As)) (λt=>ii P-t.2.1) (⟨eH,0,0⟩,0,w,ds) i0 ⟨i9,i0,by simpa using S⟩ ?_;rintro⟨o,i,u,m⟩ h1 ⟨hi,f,G⟩;dsimp only at*;refine ai (λe=>?_) (λe=>?_)
 ·have q:i<ii P:=i4
  rw[qP q,Ak]at f;have Y:=I.at [_,_] G;have M:=A _ (qg q);refine Y.1.eu (g:=piv) i i0 i4 (r[i]'(by omega)) i0 ?_;refine G.alloc af i0 λa4 V z=>?_;have z:=z.bA;refine z.storeAll af 0 i0 i0 (piv (r[i]'(by omega))) i0 i0 i0 i0 λh3 l=>?_;obtain⟨N,O⟩:=Fix.row (I.at [_,_,_] l) q;have l:aa B h0 h3 (au a4 101 (piv (r[i]'(by omega)))::ak 3 o 1 av ((P.take i).map qH)::bp bz a pw mc offs da u m::As):=l;have l:=l.aX 3 [2,0,1];obtain⟨ok,W⟩:=aa.dh l;obtain⟨c,p⟩:∃c,c=fT u m P[i].1 P[i].2:=⟨_,rfl⟩
  rw[<-p]at f;refine bX (λ_ h'=>c.1=0/\aa B h0 h' (bp bz a pw mc offs da c.2.1 c.2.2::au a4 101 (piv (r[i]'(by omega)))::ak 3 o 1 av ((P.take i).map qH)::As)) ?_ ?_
  ·refine bX (λe h'=>e=c.1/\aa B h0 h' (bp bz a pw mc offs da c.2.1 c.2.2::au a4 101 (piv (r[i]'(by omega)))::ak 3 o 1 av ((P.take i).map qH)::As)) ?_ ?_
   ·refine⟨P[i].1,by rw[<-N];exact(l.box 1 i0).cell0 i0,(r[i]'(by omega)).2,(l.box 1 i0).cell i0,ff ld ?_⟩;refine(mS P[i].1 ok W).mono ?_;rintro _ K ⟨rfl,rfl⟩;refine⟨_,i0,⟨(l.box 1 i0).cell i0,trivial⟩,?_⟩;rcases nD ok P[i].1 with⟨c1,c2⟩|⟨n,d,b,c0,c1,c2,c3,c4,c5⟩
    ·rw[c2];refine(PH (r[i]'(by omega)).2 P[i].2 K O).mono ?_;rintro _ h5 ⟨rfl,rfl⟩;have D:c=(if P[i].2.length≠64 then 1 else 5,u,m):=by rw[p];unfold fT;rw[c1]
     refine⟨_,i0,trivial,by rw[D],?_⟩;rw[D];exact l
    ·rw[c5];obtain⟨b',j,L⟩:=Go.Vc.aa.jV l c2;rw[c4]at j;injection j with j
     injection j with j
     subst j;refine(KD (r[i]'(by omega)).2 P[i].2 L O M.2).mono ?_;rintro _ h6 ⟨rfl,Q⟩;have T:=Go.Vc.aa.te (k:=bz) (n:=n) c4 Q;have D:c=((d.append u P[i].2).1,(d.append u P[i].2).2.1,m.set n (dB (d.append u P[i].2).2.2)):=by rw[p];unfold fT;rw[c3];simp only[bQ,c0,ql]
     refine⟨_,i0,trivial,by rw[D],?_⟩;rw[D];exact T
   ·rintro e4 K ⟨rfl,F⟩;refine cb (λe2=>?_) λe2=>⟨e2,F⟩
    rw[g0 e2]at f;have:layAll P w ds=c:=by unfold layAll;rw[f];exact g0 e2
    rw[this];exact⟨i0,F.re.re⟩
  ·rintro _ K ⟨e2,F⟩;rw[f9 e2]at f;refine⟨P[i].1,by rw[<-N];exact(F.box 1 i0).cell0 i0,?_⟩;refine F.push af 2 i0 gN i0 i5 (λ_=>rfl) fD P[i].1 i0 i5 i7 λR h5 L=>?_;refine⟨(R,i+1,c.2.1,c.2.2),jj,⟨i6,f,?_⟩,i6⟩;dsimp only;rw[aK _ _ q,qU];exact L.aX 3 [2,0]
 ·have J:i=ii P:=i4
  subst J;rw[List.drop_length]at f;rw[qY]at G;have z:=(G.freeze 0 i0 λ_=>rfl).aX 2 [1,0];have E:layAll P w ds=eW (cM (P.map qH)) u m:=by unfold layAll;rw[f];rfl
  refine(NJ o (P.map qH) (St.dS 0 i0 λh' Z=>Z) i7 (λx X=>?_) z).mono ?_
  ·obtain⟨y,hy,rfl⟩:=qu.1 X;exact(A y hy).1
  ·rintro _ V ⟨rfl,l⟩;refine⟨_,i0,by rw[E],?_⟩;rw[E];exact l.re
theorem KF(x:bU)(m:aG)(s:Sl)(bV:aC)(h:f8)(hx:df h x m)(H:cS m)(R:Rd h s 1 av bV)(ad:ii bV<=2^10):
  ac xB 45 #[fw x,s] h λv h'=>∃(r:Sl) (ys:List (Int×Sl)),v=r/\Sp h h' [cO jI 2 piv r ys (bM m bV)]:=by
 refine RG x s ?_;unfold Km;refine(Sp.refl h).boxed λa1 U J=>?_;refine⟨x,(J.box 0 i0).aU _ i0,(nX x m U (hx.up J.aj) H).mono ?_⟩;rintro _ Q ⟨r,rfl,Y⟩;have D:=J.co Y;refine⟨r,i0,?_⟩;obtain⟨rs,D⟩:=D.Zq λ_=>rfl;have I:=jW m H;obtain⟨a,E⟩:∃a,a=bu m:=⟨_,rfl⟩
 rw[<-E]at D I;have V:=D.eV 0 i0;have ab:=V.1.len;have Z:=V.2.1;have ah:=R.len;obtain⟨T,F⟩:∃T:Int->List ((Int×Sl)×(Int×bf)),T=λn=>(rs.zip a).map λz=>((n,z.1),(n,z.2)):=⟨_,rfl⟩
 have d:∀n,ii (T n)=ii a:=λn=>by rw[F];simp;omega
 have N:∀n,(T n).map zJ=a.map λc=>(n,c):=λn=>by
  have H:=List.map_snd_zip (l₁:=rs) (l₂:=a) i4
  conv=>rhs;rw[<-H]
  rw[F];simp[w6,Function.comp_def]
 have L:∀n j (K:j<ii a),(T n)[j]'(by rw[d];exact K)=((n,rs[j]'(by omega)),(n,a[j])):=λn j K=>by subst F;simp
 have p:Sp h Q [ak 101 ⟨eH,0,0⟩ 2 piv (((bV.take 0).flatMap T).map qH),cO (cF 1 aF) 1 bw r rs a]:=(D.nil 101 2 piv).cG [2,0];have y:∀i,i<=ii bV->ii ((bV.take i).flatMap T)<=i*3000:=λi=>by
  induction i with
  |zero=>simp
  |succ i ih=>
   intro S;rw[aK _ _ (show i<ii bV by omega),zd,qx];have U:=ih i4;have Q:ii ([bV[i]].flatMap T)=ii a:=by rw[zk,zZ,qO,d]
   omega
 refine aA (λt:Sl×Nat=>(t.1,(t.2:Int))) (λt h'=>t.2<=ii bV/\Sp h h' [ak 101 t.1 2 piv (((bV.take t.2).flatMap T).map qH),cO (cF 1 aF) 1 bw r rs a]) (λt=>ii bV-t.2) (⟨eH,0,0⟩,0) i0 ⟨i9,p⟩ ?_;rintro⟨o,i⟩ h3 ⟨S,p⟩;dsimp only at*;refine ai (λe=>?_) (λe=>?_)
 ·have B:i<ii bV:=i4
  have ht:=y i S;have hb:i*3000<=2^10*3000:=zH _ i4;refine(Seq.up R p.aj).bH i i0 B bV[i] i0 ?_;refine aA (λt:Sl×Nat=>(t.1,(t.2:Int))) (λt h'=>t.2<=ii a/\Sp h h' [ak 101 t.1 2 piv (((bV.take i).flatMap T).map qH++((T bV[i]).take t.2).map qH),cO (cF 1 aF) 1 bw r rs a]) (λt=>ii a-t.2) (o,0) i0 ⟨i9,o8⟩ ?_;rintro⟨u,j⟩ h4 ⟨K,f⟩;dsimp only at*;refine ai (λe2=>?_) (λe2=>?_)
  ·have A:j<ii a:=i4
   refine(f.eV 1 i0).1.mq j i0 i4 ?_;refine f.push af 0 i0 Uv i0 i5 (λ_=>rfl) PK (bV[i],rs[j]'(by omega)) i0 i5 (by simp only[qx,qz,q8,d];omega) λu' h5 H5=>?_;refine⟨(u',j+1),jj,⟨i6,?_⟩,i6⟩;dsimp only;rw[aK (T bV[i]) j (by rw[d];exact A),qU,L _ _ A,<-qp];exact H5
  ·have O:j=ii a:=i4
   subst O;rw[qi (l:=T bV[i]) (by rw[d];exact qm _)]at f;refine⟨(u,i+1),jj,⟨i6,?_⟩,i6⟩;dsimp only;rw[aK _ _ B,zd,qU,zk,zZ,qO];exact f
 ·have P:i=ii bV:=i4
  subst P;rw[qY]at p;refine⟨o,(bV.flatMap T).map qH,i0,?_⟩;have f:=(p.freeze 0 i0 λ_=>rfl).mj;refine f.fZ 0 i0 λq ⟨q1,q2,_,b,c,z1,X⟩=>?_;have w:(bV.flatMap T).map zJ=bM m bV:=by unfold bM;rw[List.map_flatMap,<-E];congr 1;funext n;exact N n
  rw[<-w];refine⟨X.mono c,i9,λj r' l' g G=>?_⟩;rw[qT]at g G;cases g3:(bV.flatMap T)[j]? with
  |none=>rw[g3]at g;cases g
  |some t=>
   rw[g3]at g G;simp at g G;subst g;subst G;obtain⟨n,_,W⟩:=zP.1 (ya g3);rw[F]at W;obtain⟨z,M,rfl⟩:=qu.1 W;obtain⟨k,hk,rfl⟩:=List.mem_iff_getElem.1 M;rw[y9];exact⟨i0,(z1.2.2 k _ _ (qd _) (qd _)).mono b⟩
end
section
variable {B:aD} {h0 h h':f8} {As:List HP} {s:Sl} {d:List bJ}
theorem Zr{c d:List bJ}{y:bJ}(b:Sd cE (c++d))(g:∀z∈c,cE z y=eL)(f:∀z∈d,¬cE z y=eL):Sd cE (c++y::d):=
 Sd.app dZ b.left (zF.2 ⟨λz a=>dZ.Hm (f z a),b.right⟩) λx e z a=>by
  rcases zb.1 a with rfl|a
  ·exact g x e
  ·exact b.Jw x e z a
theorem DV(X M Y:List bJ)(a b:Int)(ha:a=(ii X:Int))(hb:b=(ii X+ii M:Nat))(ad:ii X+ii M+ii Y<=2^40)(H:aa B h0 h (cR s (X++(M++Y))::As)):
  ac xB 300 #[s,xq xx a,xq xx b,.func (.func 197) #[] #[]] h λv h'=>v=.tuple #[]/\∃W,Sd cE W/\cJ cE M W/\aa B h0 h' (cR s (X++(W++Y))::As):=by
 refine lV s a b (197,#[],#[]) ?_;unfold iq;subst ha;subst hb;rw[al ((ii X:Int)+1)];refine aA (λt:Nat×List bJ=>((ii X+1+t.1:Nat):Int)) (λt h'=>(t.1+1<=ii M∨t.1=0)/\Sd cE t.2/\cJ cE (M.take (t.1+1)) t.2/\t.2.length=ii (M.take (t.1+1))/\aa B h0 h' (cR s (X++(t.2++(M.drop (t.1+1)++Y)))::As)) (λt=>ii M-t.1) (0,M.take 1) i0 ?_ ?_
 ·refine⟨.inr i0,?_,cJ.refl _,i0,?_⟩
  ·cases M with
   |nil=>exact List.Pairwise.nil
   |cons x M=>exact zF.2 ⟨λ_ h=>m8,i9⟩
  ·rw[<-qp (M.take (0+1)),qE];exact H
 rintro⟨t,P⟩ h1 ⟨ht,E,A,ab,N⟩;dsimp only at*;refine ai (λe=>?_) (λe=>?_)
 ·have I:t+1<ii M:=i4
  obtain⟨y,hy⟩:∃y,y=M[t+1]:=⟨_,rfl⟩
  have J:ii P=t+1:=by rw[ab];simp;omega
  have eD:M.drop (t+1)=y::M.drop (t+1+1):=by rw[qP I,hy]
  rw[eD]at N;refine aA (λu:List bJ×List bJ=>((ii X+ii u.1:Nat):Int)) (λu h'=>u.1++u.2=P/\(∀z∈u.2,¬cE z y=eL)/\aa B h0 h' (cR s (X++(u.1++(y::(u.2++(M.drop (t+1+1)++Y)))))::As)) (λu=>ii u.1) (P,[]) (by dsimp only;rw[J];congr 1;omega) ⟨i9,i9,by simpa using N⟩ ?_;rintro⟨c,d⟩ U ⟨G,k,L⟩;dsimp only at*;have ah:ii c+ii d=t+1:=by rw[<-J,<-G,qx]
  have l:∀{h':f8},(∀z∈c,cE z y=eL)->aa B h0 h' (cR s (X++(c++(y::(d++(M.drop (t+1+1)++Y)))))::As)->
    ∃f:Nat×List bJ,qc xx (((ii X+1+t:Nat):Int)+1)=((ii X+1+f.1:Nat):Int)/\((f.1+1<=ii M∨f.1=0)/\Sd cE f.2/\cJ cE (M.take (f.1+1)) f.2/\f.2.length=ii (M.take (f.1+1))/\aa B h0 h' (cR s (X++(f.2++(M.drop (f.1+1)++Y)))::As))/\M.length-f.1<ii M-t:=λ{h'} hle H'=>by
   refine⟨(t+1,c++y::d),by dsimp only;rw[al _];omega,⟨.inl i6,?_,?_,?_,?_⟩,i6⟩
   ·exact Zr p9 hle k
   ·dsimp only;rw[aK M (t+1) I,<-hy];have h1:cJ cE (M.take (t+1)++[y]) (P++[y]):=A.app (cJ.refl _);refine h1.trans ?_;rw[<-G,qp];have U:cJ cE (d++[y]) ([y]++d):=cJ.rot dZ λx hx z R=>by rw[qC.1 R];exact k x hx
    exact(cJ.refl _).app U
   ·dsimp only;simp;omega
   ·dsimp only;have:X++((c++y::d)++(M.drop (t+1+1)++Y))=X++(c++(y::(d++(M.drop (t+1+1)++Y)))):=i9
    rw[this];exact H'
  obtain⟨D,O⟩:∃D,D=X++(c++(y::(d++(M.drop (t+1+1)++Y)))):=⟨_,rfl⟩
  refine bX (λ_ h'=>∃(Q:List bJ) (z:bJ),c=Q++[z]/\¬cE z y=eL/\aa B h0 h' (cR s D::As)) ?_ ?_
  ·rw[<-O]at L l;refine ai (λe2=>?_) (λe2=>⟨trivial,l (λz R=>?_) L⟩)
   ·have K:c≠[]:=λh=>by rw[h]at e2;simp at e2
    obtain⟨Q,z,n⟩:∃(Q:List bJ) (z:bJ),c=Q++[z]:=⟨c.dropLast,c.getLast K,(List.dropLast_concat_getLast K).symm⟩
    have Z:ii c=ii Q+1:=p6
    have g1:D[ii X+ii c]?=dB y:=by rw[O,qj i4,show X.length+ii c-ii X=ii c by omega,qj i4,zc];rfl
    have g2:D[ii X+ii c-1]?=dB z:=by rw[O,qj i4,show X.length+ii c-1-ii X=ii Q by omega,n,qp,qj (qm _),zc];rfl
    obtain⟨S,q⟩:=qn.1 g1;obtain⟨T,r⟩:=qn.1 g2;refine(L.seq 0 i0 λ_=>rfl).eu (g:=bT) _ i0 S y (by rw[q]) ?_;have V:qc xx (((ii X+ii c:Nat):Int)-1)=((ii X+ii c-1:Nat):Int):=j3
    rw[V];refine(L.seq 0 i0 λ_=>rfl).eu (g:=bT) _ i0 T z sL (ff ld ?_);refine(rT y z U).mono ?_;rintro _ h3 ⟨rfl,R3⟩;have F:=L.up R3.aj;refine⟨_,i0,trivial,ai (λe3=>⟨Q,z,n,(ta y z).1 e3,F⟩) λe3=>l (λw m=>?_) F⟩;have o:cE z y=eL:=by
     by_cases hc:cE z y=eL
     ·exact hc
     ·exact absurd ((ta y z).2 hc) e3
    rw[n]at m;rcases qA.1 m with m|m
    ·refine dZ.trans _ _ _ ?_ o;have:Sd cE (Q++[z]):=by rw[<-n];exact Sd.left (v:=d) p9
     exact this.Jw w m z i9
    ·rw[qC.1 m];exact o
   ·have:c=[]:=by
     cases c with
     |nil=>rfl
     |cons x P=>exfalso;simp only[zn]at e2;omega
    rw[this]at R;cases R
  ·rintro _ h3 ⟨Q,z,n,o,F⟩;have Z:ii c=ii Q+1:=p6
   have p:D=(X++Q)++z::([]++y::(d++(M.drop (t+1+1)++Y))):=by rw[O,n];simp
   obtain⟨q1,q2,q3,q4⟩:=Uq (X++Q) [] (d++(M.drop (t+1+1)++Y)) z y (i:=ii X+ii c-1) (j:=ii X+ii c) i7 i7;rw[<-p]at q1 q2 q3 q4;obtain⟨T,r⟩:=qn.1 q1;obtain⟨S,q⟩:=qn.1 q2;have V:qc xx (((ii X+ii c:Nat):Int)-1)=((ii X+ii c-1:Nat):Int):=j3
   rw[V];refine(F.seq 0 i0 λ_=>rfl).eu (g:=bT) _ i0 T z sL ?_;refine(F.seq 0 i0 λ_=>rfl).eu (g:=bT) _ i0 S y (by rw[q]) ?_;refine F.set af 0 i0 (λ_=>rfl) i0 (ii X+ii c) i0 S z i0 i0 i0 λh4 H4=>⟨trivial,?_⟩
   refine H4.set af 0 i0 (λ_=>rfl) i0 (ii X+ii c-1) i0 (by simpa using T) y i0 i0 i0 λh5 H5=>⟨trivial,?_⟩
   refine⟨(Q,z::d),by dsimp only;congr 1;omega,⟨by dsimp only;rw[<-G,n];simp,?_,?_⟩,i6⟩
   ·dsimp only;intro w m;rcases zb.1 m with rfl|m
    ·exact o
    ·exact k w m
   ·dsimp only;have:X++(Q++(y::(z::d++(M.drop (t+1+1)++Y))))=(X++Q)++y::([]++z::(d++(M.drop (t+1+1)++Y))):=i9
    rw[this,<-q4];exact H5
 ·refine⟨i0,P,E,?_,?_⟩
  ·rw[qi i4]at A;exact A
  ·rw[zg i4]at N;simpa using N
end
theorem JK(x y:Nat)(h:x+y<=2^62:=by omega):qc xx (qX (qc xA (qc xx ((x:Int)+(y:Int)))) (2^min (1:Int).toNat (qk xA)))=(((x+y)/2:Nat):Int):=by
 rw[al ((x:Int)+y)];have e:qc xA ((x:Int)+(y:Int))=(x:Int)+y:=by unfold qc;simp[qk,y7];omega
 rw[e,show min (1:Int).toNat (qk xA)=1 from i0,Int.fdiv_eq_ediv_of_nonneg _ i5,al _];omega
section
variable {B:aD} {h0 h h':f8} {As:List HP} {s:Sl} {d:List bJ}
theorem CT{x y:bJ}(h:¬mA x y<0):cE y x=eL:=by
 by_cases a:cE y x=eL
 ·exact a
 ·exact absurd ((ta x y).2 a) h
theorem kH{K:bJ->Prop}(H:aa B h0 h (cR s d::As)){i:Int}(n:Nat)(b:i=n){x:bJ}(c:d[n]?=dB x)(f:K x):
  ∃a:eX,(s.ptr=dB a/\0<=i/\i<((s.len:Nat):Int))/\∃x:bJ,aq h (a.add (i.toNat*8)) 0 (bT x)/\K x:=by
 obtain⟨j,e⟩:=qn.1 c;exact(H.seq 0 i0 λ_=>rfl).eu (g:=bT) n b j x (by rw[e]) f
theorem PL(x:bJ)(X R Y:List bJ)(ab:ii X+1+ii R+ii Y<=2^40)(I:Sd cE R)(H:aa B h0 h (cR s (X++(x::(R++Y)))::As)){K:KZ}
  (d:∀h',(∃M,Sd cE M/\cJ cE (x::R) M/\aa B h0 h' (cR s (X++(M++Y))::As))->K (.tuple #[]) h') (a m b:Int) (ha:a=(ii X:Int)) (hm:m=(ii X+1:Nat)) (hb:b=(ii X+1+ii R:Nat)):
  aL (σ:=Int×Int) (λc K1 g=>
   Br (decide (c.1<c.2))
   ((0<=(1:Int))/\
   ∃a2:eX,(s.ptr=dB a2/\0<=(qc xx (qX (qc xA (qc xx (c.1+c.2))) (2^min (1:Int).toNat (qk xA))))/\(qc xx (qX (qc xA (qc xx (c.1+c.2))) (2^min (1:Int).toNat (qk xA))))<((s.len:Nat):Int))/\
   ∃x3:bJ,aq g (a2.add ((qc xx (qX (qc xA (qc xx (c.1+c.2))) (2^min (1:Int).toNat (qk xA)))).toNat*8)) 0 (bT x3)/\
   ∃a4:eX,(s.ptr=dB a4/\0<=a/\a<((s.len:Nat):Int))/\
   ∃x5:bJ,aq g (a4.add (a.toNat*8)) 0 (bT x5)/\
   iC C 197 ((#[]:Array Value).toList++[recv x3,recv x5]++(#[]:Array Value).toList) (.one (.sc (.int .i64))) g λr6 n=>
   (az.ok [] n)/\
   Br (decide (r6<(0:Int)))
   (K1 (qc xx ((qc xx (qX (qc xA (qc xx (c.1+c.2))) (2^min (1:Int).toNat (qk xA))))+(1:Int)),c.2) n)
   (K1 (c.1,qc xx (qX (qc xA (qc xx (c.1+c.2))) (2^min (1:Int).toNat (qk xA)))) n))
   (aL (σ:=Int) (λf K2 h3=>
   Br (decide (f<(qc xx (c.1-(1:Int)))))
   (∃a8:eX,(s.ptr=dB a8/\0<=(qc xx (f+(1:Int)))/\(qc xx (f+(1:Int)))<((s.len:Nat):Int))/\
   ∃x9:bJ,aq h3 (a8.add ((qc xx (f+(1:Int))).toNat*8)) 0 (bT x9)/\
   ∃y:eX,(s.ptr=dB y/\0<=f/\f<((s.len:Nat):Int))/\
   ∃r:bJ,aq h3 (y.add (f.toNat*8)) 0 (bT r)/\
   ∃D:eX,(s.ptr=dB D/\0<=f/\f<((s.len:Nat):Int))/\
   ag xB (qf 170 (xt (dB (D.add (f.toNat*8)))) (recv x9)) h3 λ_ U=>
   (az.ok [] U)/\
   ∃G:eX,(s.ptr=dB G/\0<=(qc xx (f+(1:Int)))/\(qc xx (f+(1:Int)))<((s.len:Nat):Int))/\
   ag xB (qf 170 (xt (dB (G.add ((qc xx (f+(1:Int))).toNat*8)))) (recv r)) U λ_ W=>
   (az.ok [] W)/\
   K2 (qc xx (f+(1:Int))) W)
   (K (.tuple #[]) h3)) a g)) (m,b) h:=by
 subst ha;subst hm;subst hb;refine aA (λt:Nat×Nat=>(((ii X+1+t.1:Nat):Int),((ii X+1+t.2:Nat):Int))) (λt h'=>t.1<=t.2/\t.2<=ii R/\(∀k (d:k<ii R),k<t.1->¬cE x R[k]=eL)/\(∀k (d:k<ii R),t.2<=k->cE x R[k]=eL)/\aa B h0 h' (cR s (X++(x::(R++Y)))::As)) (λt=>t.2-t.1) (0,ii R) i0 ⟨i9,i9,λ_ _ h=>m8,λ_ g n=>absurd g l9,H⟩ ?_;rintro⟨i,j⟩ g ⟨ah,hj,q,L,N⟩;dsimp only at*;refine ai (λe=>?_) (λe=>?_)
 ·have o:i<j:=i4
  rw[JK _ _];have eh:((ii X+1+i)+(ii X+1+j))/2=ii X+1+(i+j)/2:=i4
  rw[eh];have d:(i+j)/2<ii R:=i4
  refine⟨i5,kH N _ i0 (x:=R[(i+j)/2]) ?_ (kH N X.length i0 (x:=x) ?_ (ff ld ?_))⟩
  ·rw[qj i4,show X.length+1+(i+j)/2-ii X=(i+j)/2+1 by omega,qw,qo d,qd d]
  ·rw[qj (qm _),zc];rfl
  refine(rT R[(i+j)/2] x g).mono ?_;rintro _ n ⟨rfl,R2⟩;have H2:=N.up R2.aj;refine⟨_,i0,trivial,ai (λe2=>?_) λe2=>?_⟩
  ·have V:=(ta _ _).1 e2;refine⟨((i+j)/2+1,j),jj,⟨i6,hj,λk A S=>?_,L,H2⟩,i6⟩;intro hc;exact V (dZ.trans _ _ _ hc (I.at_ dZ (i:=k) (j:=(i+j)/2) (by dsimp only at S;omega) d))
  ·refine⟨(i,(i+j)/2),i0,⟨i6,i6,q,λk A P=>?_,H2⟩,i6⟩;exact dZ.trans _ _ _ (CT e2) (I.at_ dZ (by dsimp only at P;omega) A)
 ·have o:i=j:=i4
  subst o;have hM:Sd cE (R.take i++x::R.drop i):=by
   refine Sd.app dZ (Sd.left (v:=R.drop i) (by rw[qE];exact I)) (zF.2 ⟨λz E=>?_,Sd.right (u:=R.take i) (by rw[qE];exact I)⟩) λz E w F=>?_
   ·obtain⟨k,d,rfl⟩:=qK E;rw[wh];exact L _ _ i4
   ·obtain⟨k,d,rfl⟩:=qK E;rw[yg];have T:k<i:=k7
    have g:=dZ.Hm (q k k7 T);rcases zb.1 F with rfl|F
    ·exact g
    ·obtain⟨l,hl,rfl⟩:=qK F;rw[wh];exact I.at_ dZ i4 (by simp at hl;omega)
  have hE:cJ cE (x::R) (R.take i++x::R.drop i):=by
   have g:cJ cE ([x]++R.take i) (R.take i++[x]):=cJ.rot dZ λz E w F=>by
    rw[qC.1 E];obtain⟨k,d,rfl⟩:=qK F;rw[yg];exact q k k7 k7
   have n:=g.app (cJ.refl (le:=cE) (R.drop i));have e1:([x]++R.take i)++R.drop i=x::R:=by rw[qp,qE];rfl
   have e2:(R.take i++[x])++R.drop i=R.take i++x::R.drop i:=i9
   rw[e1,e2]at n;exact n
  have el:qc xx (((ii X+1+i:Nat):Int)-1)=((ii X+i:Nat):Int):=j3
  rw[el];refine aA (λt:Nat=>((ii X+t:Nat):Int)) (λt h'=>t<=i/\aa B h0 h' (cR s (X++(R.take t++(x::(R.drop t++Y))))::As)) (λt=>i-t) 0 i0 ⟨i4,by simpa using N⟩ ?_;rintro t h3 ⟨ht,O⟩;refine ai (λe2=>?_) (λe2=>?_)
  ·have ad:t<i:=i4
   have J:t<ii R:=i4
   have p:X++(R.take t++(x::(R.drop t++Y)))=(X++R.take t)++x::([]++R[t]::(R.drop (t+1)++Y)):=by rw[qP J];simp only[qp,zy,wv]
   obtain⟨Q,Z,q3,q4⟩:=Uq (X++R.take t) [] (R.drop (t+1)++Y) x R[t] (i:=ii X+t) (j:=ii X+t+1) i7 i7;rw[<-p]at Q Z q3 q4;have ek:qc xx (((ii X+t:Nat):Int)+1)=((ii X+t+1:Nat):Int):=j3
   rw[ek];refine kH O _ i0 Z (kH O _ i0 Q ?_);refine O.set af 0 i0 (λ_=>rfl) i0 (ii X+t) i0 (qn.1 Q).1 R[t] i0 i0 i0 λU H4=>⟨trivial,?_⟩
   refine H4.set af 0 i0 (λ_=>rfl) i0 (ii X+t+1) i0 (by rw[zh];exact(qn.1 Z).1) x i0 i0 i0 λW H5=>⟨trivial,?_⟩
   refine⟨t+1,i0,⟨i4,?_⟩,i4⟩;have e3:X++(R.take (t+1)++(x::(R.drop (t+1)++Y)))=(X++R.take t)++R[t]::([]++x::(R.drop (t+1)++Y)):=by rw[aK R t J];simp only[qp,zy,wv]
   rw[e3,<-q3];exact H5
  ·have:t=i:=i4
   subst this;refine d h3 ⟨R.take t++x::R.drop t,hM,hE,?_⟩;have:X++((R.take t++x::R.drop t)++Y)=X++(R.take t++(x::(R.drop t++Y))):=i9
   rw[this];exact O
end
section
variable {B:aD} {h0 h h':f8} {As:List HP} {s:Sl} {d:List bJ}
theorem NK(y:bJ)(X L Y:List bJ)(ap:ii X+ii L+1+ii Y<=2^40)(E:Sd cE L)(H:aa B h0 h (cR s (X++(L++(y::Y)))::As)){K:KZ}
  (d:∀h',(∃M,Sd cE M/\cJ cE (L++[y]) M/\aa B h0 h' (cR s (X++(M++Y))::As))->K (.tuple #[]) h') (a m:Int) (ha:a=(ii X:Int)) (hm:m=(ii X+ii L:Nat)):
  aL (σ:=Int×Int) (λb K3 V=>
   Br (decide (b.1<b.2))
   ((0<=(1:Int))/\
   ∃P:eX,(s.ptr=dB P/\0<=m/\m<((s.len:Nat):Int))/\
   ∃U:bJ,aq V (P.add (m.toNat*8)) 0 (bT U)/\
   ∃F:eX,(s.ptr=dB F/\0<=(qc xx (qX (qc xA (qc xx (b.1+b.2))) (2^min (1:Int).toNat (qk xA))))/\(qc xx (qX (qc xA (qc xx (b.1+b.2))) (2^min (1:Int).toNat (qk xA))))<((s.len:Nat):Int))/\
   ∃r:bJ,aq V (F.add ((qc xx (qX (qc xA (qc xx (b.1+b.2))) (2^min (1:Int).toNat (qk xA)))).toNat*8)) 0 (bT r)/\
   iC C 197 ((#[]:Array Value).toList++[recv U,recv r]++(#[]:Array Value).toList) (.one (.sc (.int .i64))) V λao h7=>
   (az.ok [] h7)/\
   Br (!(decide (ao<(0:Int))))
   (K3 (qc xx ((qc xx (qX (qc xA (qc xx (b.1+b.2))) (2^min (1:Int).toNat (qk xA))))+(1:Int)),b.2) h7)
   (K3 (b.1,qc xx (qX (qc xA (qc xx (b.1+b.2))) (2^min (1:Int).toNat (qk xA)))) h7))
   (aL (σ:=Int) (λc K4 h8=>
   Br (decide (c>b.1))
   (∃q:eX,(s.ptr=dB q/\0<=(qc xx (c-(1:Int)))/\(qc xx (c-(1:Int)))<((s.len:Nat):Int))/\
   ∃O:bJ,aq h8 (q.add ((qc xx (c-(1:Int))).toNat*8)) 0 (bT O)/\
   ∃S:eX,(s.ptr=dB S/\0<=c/\c<((s.len:Nat):Int))/\
   ∃Q:bJ,aq h8 (S.add (c.toNat*8)) 0 (bT Q)/\
   ∃a25:eX,(s.ptr=dB a25/\0<=c/\c<((s.len:Nat):Int))/\
   ag xB (qf 170 (xt (dB (a25.add (c.toNat*8)))) (recv O)) h8 λ_ h9=>
   (az.ok [] h9)/\
   ∃R:eX,(s.ptr=dB R/\0<=(qc xx (c-(1:Int)))/\(qc xx (c-(1:Int)))<((s.len:Nat):Int))/\
   ag xB (qf 170 (xt (dB (R.add ((qc xx (c-(1:Int))).toNat*8)))) (recv Q)) h9 λ_ G=>
   (az.ok [] G)/\
   K4 (qc xx (c-(1:Int))) G)
   (K (.tuple #[]) h8)) m V)) (a,m) h:=by
 subst ha;subst hm;refine aA (λt:Nat×Nat=>(((ii X+t.1:Nat):Int),((ii X+t.2:Nat):Int))) (λt h'=>t.1<=t.2/\t.2<=ii L/\(∀k (d:k<ii L),k<t.1->cE L[k] y=eL)/\(∀k (d:k<ii L),t.2<=k->¬cE L[k] y=eL)/\aa B h0 h' (cR s (X++(L++(y::Y)))::As)) (λt=>t.2-t.1) (0,ii L) i0 ⟨i9,i9,λ_ _ h=>m8,λ_ n p=>absurd n o8,H⟩ ?_;rintro⟨i,j⟩ n ⟨ax,hj,A,o,W⟩;dsimp only at*;refine ai (λe=>?_) (λe=>?_)
 ·have f:i<j:=i4
  rw[JK _ _];have eh:((ii X+i)+(ii X+j))/2=ii X+(i+j)/2:=i4
  rw[eh];have d:(i+j)/2<ii L:=i4
  refine⟨i5,kH W (ii X+ii L) i0 (x:=y) ?_ (kH W _ i0 (x:=L[(i+j)/2]) ?_ (ff ld ?_))⟩
  ·rw[qj i4,show X.length+ii L-ii X=ii L by omega,qj (qm _),zc];rfl
  ·rw[qj i4,show X.length+(i+j)/2-ii X=(i+j)/2 by omega,qo d,qd d]
  refine(rT y L[(i+j)/2] n).mono ?_;rintro _ p ⟨rfl,R2⟩;have H2:=W.up R2.aj;refine⟨_,i0,trivial,?_⟩;by_cases e2:mA y L[(i+j)/2]<0
  ·have am:=(ta _ _).1 e2;refine bo (λI=>absurd I nq) λ_=>?_;refine⟨(i,(i+j)/2),i0,⟨i6,i6,A,λk D ab=>?_,H2⟩,i6⟩;intro hc;exact am (dZ.trans _ _ _ (E.at_ dZ (i:=(i+j)/2) (j:=k) (by dsimp only at ab;omega) D) hc)
  ·refine bo (λ_=>?_) λI=>absurd I nq;refine⟨((i+j)/2+1,j),jj,⟨i6,hj,λk D ad=>?_,o,H2⟩,i6⟩;exact dZ.trans _ _ _ (E.at_ dZ (by dsimp only at ad;omega) d) (CT e2)
 ·have f:i=j:=i4
  subst f;have hM:Sd cE (L.take i++y::L.drop i):=by
   refine Sd.app dZ (Sd.left (v:=L.drop i) (by rw[qE];exact E)) (zF.2 ⟨λz J=>?_,Sd.right (u:=L.take i) (by rw[qE];exact E)⟩) λz J w N=>?_
   ·obtain⟨k,d,rfl⟩:=qK J;rw[wh];exact dZ.Hm (o _ k7 i4)
   ·obtain⟨k,d,rfl⟩:=qK J;rw[yg];have ah:k<i:=k7
    have n:=A k k7 ah;rcases zb.1 N with rfl|N
    ·exact n
    ·obtain⟨l,hl,rfl⟩:=qK N;rw[wh];exact E.at_ dZ i4 (by simp at hl;omega)
  have hE:cJ cE (L++[y]) (L.take i++y::L.drop i):=by
   have n:cJ cE (L.drop i++[y]) ([y]++L.drop i):=cJ.rot dZ λz J w N=>by
    rw[qC.1 N];obtain⟨k,d,rfl⟩:=qK J;rw[wh];exact o _ k7 i4
   have p:=(cJ.refl (le:=cE) (L.take i)).app n;have e1:L.take i++(L.drop i++[y])=L++[y]:=by rw[<-qp,qE]
   rw[e1]at p;exact p
  refine aA (λt:Nat=>((ii X+t:Nat):Int)) (λt h'=>i<=t/\t<=ii L/\aa B h0 h' (cR s (X++(L.take t++(y::(L.drop t++Y))))::As)) (λt=>t-i) L.length i0 ⟨i4,i4,by simpa using W⟩ ?_;rintro t h3 ⟨ht,ar,Z⟩;refine ai (λe2=>?_) (λe2=>?_)
  ·obtain⟨u,rfl⟩:∃u,t=u+1:=⟨t-1,i4⟩
   have T:u<ii L:=i4
   have g:X++(L.take (u+1)++(y::(L.drop (u+1)++Y)))=(X++L.take u)++L[u]::([]++y::(L.drop (u+1)++Y)):=by rw[aK L u T];simp only[qp,zy,wv]
   obtain⟨q1,q2,q3,q4⟩:=Uq (X++L.take u) [] (L.drop (u+1)++Y) L[u] y (i:=ii X+u) (j:=ii X+(u+1)) i7 i7;rw[<-g]at q1 q2 q3 q4;have ek:qc xx (((ii X+(u+1):Nat):Int)-1)=((ii X+u:Nat):Int):=j3
   rw[ek];refine kH Z _ i0 q1 (kH Z _ i0 q2 ?_);refine Z.set af 0 i0 (λ_=>rfl) i0 (ii X+(u+1)) i0 (qn.1 q2).1 L[u] i0 i0 i0 λh4 H4=>⟨trivial,?_⟩
   refine H4.set af 0 i0 (λ_=>rfl) i0 (ii X+u) i0 (by rw[zh];exact(qn.1 q1).1) y i0 i0 i0 λh5 H5=>⟨trivial,?_⟩
   refine⟨u,i0,⟨i4,i4,?_⟩,i4⟩;have I:X++(L.take u++(y::(L.drop u++Y)))=(X++L.take u)++y::([]++L[u]::(L.drop (u+1)++Y)):=by rw[qP T];simp only[qp,zy,wv]
   rw[I,<-q4];exact H5
  ·have:t=i:=i4
   subst this;refine d h3 ⟨L.take t++y::L.drop t,hM,hE,?_⟩;have:X++((L.take t++y::L.drop t)++Y)=X++(L.take t++(y::(L.drop t++Y))):=i9
   rw[this];exact Z
end
end Go.Qw
namespace Wl
open Go Go.Vc
theorem abS{L R:List bJ}(h:Sd cE L)(k:Sd cE R)(p q:Nat)(s:p<=ii L)(r:q<=ii R)
  (n:∀i j (d:i<ii L) (a:j<ii R),i+1=p->j=q->cE L[i] R[j]=eL)
  (o:∀i j (d:i<ii L) (a:j<ii R),i=p->j+1=q->¬cE L[i] R[j]=eL):
  (∀x∈L.take p,∀y∈R.drop q,cE x y=eL)/\(∀x∈L.drop p,∀y∈R.take q,¬cE x y=eL):=by
 constructor
 ·intro x e y g;obtain⟨i,d,rfl⟩:=qK e;obtain⟨j,a,rfl⟩:=qK g;rw[yg,wh];have b:i<p:=k7
  have c:q+j<ii R:=by simp at a;omega
  have f:=h.at_ dZ (i:=i) (j:=p-1) i4 i4;have m:=n (p-1) q i4 i4 i4 i0;have h3:=k.at_ dZ (i:=q) (j:=q+j) i4 c;exact dZ.trans _ _ _ f (dZ.trans _ _ _ m h3)
 ·intro x e y g l;obtain⟨i,d,rfl⟩:=qK e;obtain⟨j,a,rfl⟩:=qK g;rw[yg,wh]at l;have c:j<q:=by simp at a;omega
  have b:p+i<ii L:=k7
  have f:=h.at_ dZ (i:=p) (j:=p+i) i4 b;have h3:=k.at_ dZ (i:=j) (j:=q-1) i4 i4;exact o p (q-1) i4 i4 i0 i4 (dZ.trans _ _ _ f (dZ.trans _ _ _ l h3))
end Wl
namespace Go.Qw
open Go Go.Vc Go.Proofs Wl
theorem Gu:∀(N:Nat) {B:aD} {h0 h:f8} {As:List HP} {s:Sl} (X L R Y:List bJ) (a m b:Int),0<ii L->0<ii R->ii L+ii R<=N->a=(ii X:Int)->m=(ii X+ii L:Nat)->b=(ii X+ii L+ii R:Nat)->ii X+ii L+ii R+ii Y<=2^40->Sd cE L->Sd cE R->
  aa B h0 h (cR s (X++(L++(R++Y)))::As)->
  ac xB 301 #[s,xq xx a,xq xx m,xq xx b,.func (.func 197) #[] #[]] h λv h'=>v=.tuple #[]/\∃M,Sd cE M/\cJ cE (L++R) M/\aa B h0 h' (cR s (X++(M++Y))::As):=by
 intro N
 induction N with
 |zero=>intro B h0 h As s X L R Y a m b hL hR hN;omega
 |succ N ih=>
  intro B h0 h As s X L R Y a m b hL hR hN ha hm hb ab Z sR H;refine ng s a m b (197,#[],#[]) ?_;unfold jt;have e1:qc xx (m-a)=(ii L:Int):=j3
  have e2:qc xx (b-m)=(ii R:Int):=j3
  rw[e1,e2];refine cy (λc=>?_) λc=>cy (λc2=>?_) λc2=>?_
  ·obtain⟨x,hx⟩:∃x,L=[x]:=by
    match L,hL,c with
    |[x],_,_=>exact⟨x,i0⟩
    |x::y::L,_,c=>simp at c;omega
   subst hx;exact PL (K:=λv h'=>v=.tuple #[]/\∃M,Sd cE M/\cJ cE ([x]++R) M/\aa B h0 h' (cR s (X++(M++Y))::As)) x X R Y (by simp at ab⊢;omega) sR H (λh' ⟨M,Q,P,q3⟩=>⟨i0,M,Q,P,q3⟩) a m b ha (by rw[hm];simp) (by rw[hb];simp)
  ·obtain⟨y,hy⟩:∃y,R=[y]:=by
    match R,hR,c2 with
    |[x],_,_=>exact⟨x,i0⟩
    |x::y::L,_,c=>simp at c;omega
   subst hy;exact NK (K:=λv h'=>v=.tuple #[]/\∃M,Sd cE M/\cJ cE (L++[y]) M/\aa B h0 h' (cR s (X++(M++Y))::As)) y X L Y (by simp at ab⊢;omega) Z H (λh' ⟨M,Q,P,q3⟩=>⟨i0,M,Q,P,q3⟩) a m ha hm
  ·refine⟨i5,?_⟩;subst ha;subst hm;subst hb;have c':ii L≠1:=λE=>c i4;have bl:ii R≠1:=λE=>c2 i4;rw[JK X.length (ii X+ii L+ii R)];obtain⟨FK,am⟩:∃FK,FK=(ii X+(ii X+ii L+ii R))/2:=⟨_,rfl⟩
   rw[<-am];have en:qc xx ((FK:Int)+((ii X+ii L:Nat):Int))=((FK+(ii X+ii L):Nat):Int):=j3
   rw[en];obtain⟨n,hn⟩:∃n,n=FK+(ii X+ii L):=⟨_,rfl⟩
   rw[<-hn];have ep:qc xx ((n:Int)-1)=((n-1:Nat):Int):=j3
   rw[ep];obtain⟨D,hD⟩:∃D,D=X++(L++(R++Y)):=⟨_,rfl⟩
   have gL:∀i (f:i<ii L),D[ii X+i]?=dB L[i]:=λi f=>by
    rw[hD,qj i4,zp,qo f,qd f]
   have gR:∀i (f:i<ii R),D[ii X+ii L+i]?=dB R[i]:=λi f=>by
    rw[hD,qj i4,show X.length+ii L+i-ii X=ii L+i by omega,qj i4,zp,qo f,qd f]
   rw[<-hD]at H;refine bX (λ(k:Int×Int) h'=>h'=h/\∃o f:Nat,k=((o:Int),(f:Int))/\o<=f/\X.length<=o/\f<=ii X+ii L/\f<=FK/\n<=o+(ii X+ii L+ii R)/\(o=ii X∨n=o+(ii X+ii L+ii R))/\(f=ii X+ii L∨f=FK)) ?_ ?_
   ·refine ai (λe=>⟨i0,n-(ii X+ii L+ii R),FK,?_,i4,i4,i4,i4,i4,i4,i4⟩) λe=>⟨i0,ii X,ii X+ii L,i0,i4,i4,i4,i4,i4,i4,i4⟩
    have:qc xx ((n:Int)-((ii X+ii L+ii R:Nat):Int))=((n-(ii X+ii L+ii R):Nat):Int):=j3
    rw[this]
   ·rintro⟨bq,br⟩ _ ⟨rfl,o,f,a9,b1,b2,b3,b4,b5,b6,b7⟩;injection a9 with est1 est2
    subst est1;subst est2;dsimp only;refine aA (λt:Nat×Nat=>((t.1:Int),(t.2:Int))) (λt h'=>o<=t.1/\t.1<=t.2/\t.2<=f/\
     (∀i j (l:i<ii L) (U:j<ii R),ii X+i+1=t.1->ii X+i+(ii X+ii L+j)=n-1->o<t.1->cE L[i] R[j]=eL)/\
     (∀i j (l:i<ii L) (U:j<ii R),ii X+i=t.2->ii X+i+(ii X+ii L+j)=n-1->t.2<f->¬cE L[i] R[j]=eL)/\
     aa B h0 h' (cR s D::As)) (λt=>t.2-t.1) (o,f) i0 ⟨i9,by simpa using b1,i9,λ_ _ _ _ _ _ A=>absurd A i9,λ_ _ _ _ _ _ A=>absurd A i9,H⟩ ?_
    rintro⟨k,r⟩ h1 ⟨t1,t2,t3,F1,F2,H1⟩;dsimp only at*;refine ai (λe=>?_) (λe=>?_)
    ·have A:k<r:=i4
     rw[JK _ _];obtain⟨I,a1⟩:∃I,I=(k+r)/2:=⟨_,rfl⟩
     rw[<-a1];have a2:qc xx (((n-1:Nat):Int)-(I:Int))=((n-1-I:Nat):Int):=j3
     rw[a2];obtain⟨i,l⟩:∃i,I=ii X+i:=⟨I-ii X,i4⟩
     obtain⟨j,ar⟩:∃j,n-1-I=ii X+ii L+j:=⟨n-1-I-(ii X+ii L),i4⟩
     have ap:i<ii L:=i4
     have ao:j<ii R:=i4
     rw[ar,l];refine⟨i5,kH H1 _ i0 (gR j ao) (kH H1 _ i0 (gL i ap) (ff ld ?_))⟩;refine(rT R[j] L[i] h1).mono ?_;rintro _ h2 ⟨rfl,R2⟩;have G:=H1.up R2.aj;refine⟨_,i0,trivial,?_⟩;by_cases e2:mA R[j] L[i]<0
     ·have a4:=(ta _ _).1 e2;refine bo (λe3=>absurd e3 nq) λ_=>?_;refine⟨(k,ii X+i),i0,⟨t1,i6,i6,F1,λi2 j2 ax a8 z F _=>?_,G⟩,i6⟩;dsimp only at z;have:i2=i:=i4
      subst this;have:j2=j:=i4
      subst this;exact a4
     ·refine bo (λ_=>?_) λe3=>absurd e3 nq;refine⟨(ii X+i+1,r),jj,⟨i6,i6,t3,λi2 j2 ax a8 z F _=>?_,F2,G⟩,i6⟩;dsimp only at z;have:i2=i:=i4
      subst this;have:j2=j:=i4
      subst this;exact CT e2
    ·have a7:k=r:=i4
     subst a7;have a5:qc xx ((n:Int)-(k:Int))=((n-k:Nat):Int):=j3
     rw[a5];obtain⟨p,hp⟩:∃p,k=ii X+p:=⟨k-ii X,i4⟩
     obtain⟨q,hq⟩:∃q,n-k=ii X+ii L+q:=⟨n-k-(ii X+ii L),i4⟩
     have ay:p<=ii L:=i4
     have a6:q<=ii R:=i4
     obtain⟨a3,bk⟩:=abS Z sR p q ay a6 (λi j l U z F=>F1 i j l U i4 i4 (by
      by_cases a0:o<k
      ·exact a0
      ·exfalso;have:k=o:=i4
       omega)) (λi j l U z F=>F2 i j l U i4 i4 (by
      by_cases bd:k<f
      ·exact bd
      ·exfalso;have:k=f:=i4
       omega))
     have T:L.take p++L.drop p=L:=qE _ _;have V:R.take q++R.drop q=R:=qE _ _;have l1:ii (L.take p)=p:=i7
     have l2:ii (L.drop p)=ii L-p:=i9
     have r1:ii (R.take q)=q:=i7
     have r2:ii (R.drop q)=ii R-q:=i9
     have ad:Sd cE (L.take p):=Sd.left (v:=L.drop p) (by rw[T];exact Z);have ah:Sd cE (L.drop p):=Sd.right (u:=L.take p) (by rw[T];exact Z);have W:Sd cE (R.take q):=Sd.left (v:=R.drop q) (by rw[V];exact sR);have S:Sd cE (R.drop q):=Sd.right (u:=R.take q) (by rw[V];exact sR);rw[hq,hp];refine bX (λ_ h'=>aa B h0 h' (cR s (X++(L.take p++(R.take q++(L.drop p++(R.drop q++Y)))))::As)) ?_ ?_
     ·have w:aa B h0 h1 (cR s ((X++L.take p)++(L.drop p++(R.take q++(R.drop q++Y))))::As):=by
       have:(X++L.take p)++(L.drop p++(R.take q++(R.drop q++Y)))=D:=by
        rw[hD]
        conv=>rhs;rw[<-T,<-V]
        simp only[qp,zy,wv]
       rw[this];exact H1
      refine ai (λz=>ai (λF=>?_) λF=>?_) λz=>?_
      ·refine(Wy (X++L.take p) (L.drop p) (R.take q) (R.drop q++Y) _ _ _ i4 i4 i7 i7 i7 i7 w).mono ?_;rintro _ h2 ⟨rfl,G⟩;refine⟨(),i0,?_⟩;rw[qp]at G;exact G
      ·have:R.take q=[]:=za i4;rw[this]at w⊢;simpa using w
      ·have:L.drop p=[]:=za i4;rw[this]at w⊢;simpa using w
     ·rintro _ h2 G;refine bX (λ_ h'=>∃g,Sd cE g/\cJ cE (L.take p++R.take q) g/\g.length=p+q/\aa B h0 h' (cR s (X++(g++(L.drop p++(R.drop q++Y))))::As)) ?_ ?_
      ·have d:(L.take p=[]∨R.take q=[])->∃g,Sd cE g/\cJ cE (L.take p++R.take q) g/\g.length=p+q/\aa B h0 h2 (cR s (X++(g++(L.drop p++(R.drop q++Y))))::As):=λO=>by
        refine⟨L.take p++R.take q,?_,cJ.refl _,i7,by rw[qp];exact G⟩;rcases O with E|E
        ·rw[E];exact W
        ·rw[E,qO];exact ad
       refine ai (λz=>ai (λF=>?_) λF=>d (.inr (za i4))) λz=>d (.inl (za i4));refine(ih X (L.take p) (R.take q) (L.drop p++(R.drop q++Y)) _ _ _ i4 i4 i4 i0 (by rw[l1]) (by rw[l1,r1];omega) i7 ad W G).mono ?_;rintro _ h3 ⟨rfl,g,Q,P,q3⟩;refine⟨(),i0,g,Q,P,?_,q3⟩;have J:=xW dZ P;rw[<-J];simp;omega
      ·rintro _ h3 ⟨g,m1,m2,m3,H3⟩;have fin:∀{h':f8} {M2:List bJ},Sd cE M2->cJ cE (L.drop p++R.drop q) M2->aa B h0 h' (cR s (X++(g++(M2++Y)))::As)->(Value.tuple #[]=.tuple #[]/\∃M,Sd cE M/\cJ cE (L++R) M/\aa B h0 h' (cR s (X++(M++Y))::As)):=λ{h' M2} k1 k2 k3=>by
        obtain⟨f1,f2⟩:=abd dZ (by rw[T];exact Z) (by rw[V];exact sR) a3 bk m2 m1 k2 k1;rw[T,V]at f2;exact⟨i0,g++M2,f1,f2,by rw[qp];exact k3⟩
       have d:(L.drop p=[]∨R.drop q=[])->(Value.tuple #[]=.tuple #[]/\∃M,Sd cE M/\cJ cE (L++R) M/\aa B h0 h3 (cR s (X++(M++Y))::As)):=λO=>by
        refine fin (M2:=L.drop p++R.drop q) ?_ (cJ.refl _) (by rw[qp];exact H3);rcases O with E|E
        ·rw[E];exact S
        ·rw[E,qO];exact ah
       refine ai (λz=>ai (λF=>?_) λF=>d (.inr (za i4))) λz=>d (.inl (za i4));have bb:aa B h0 h3 (cR s ((X++g)++(L.drop p++(R.drop q++Y)))::As):=by rw[qp];exact H3
       refine(ih (X++g) (L.drop p) (R.drop q) Y _ _ _ i4 i4 i4 i7 i7 i7 i7 ah S bb).mono ?_;rintro _ h4 ⟨rfl,M2,k1,k2,k3⟩;refine⟨(),i0,fin k1 k2 (by rw[qp]at k3;exact k3)⟩
end Go.Qw
namespace Wl
open Go Go.Vc
def Bs(k:Nat)(l:List bJ):Prop:=∀q,Sd cE ((l.drop (q*k)).take k)
theorem Bs.nil(k:Nat):Bs k []:=λq=>by simp[Sd]
theorem Bs.first{k:Nat}{l:List bJ}(h:Bs k l):Sd cE (l.take k):=by have:=h 0;simpa using this
theorem Bs.rest{k:Nat}{l:List bJ}(h:Bs k l):Bs k (l.drop k):=λq=>by
 have:=h (q+1);rw[zI,show k+q*k=(q+1)*k by rw[zT,Nat.add_comm]];exact this
theorem Bs.snoc{k t:Nat}{l M:List bJ}(h:Bs k l)(d:ii l=t*k)(b:Sd cE M)(c:ii M<=k:=by omega):Bs k (l++M):=λq=>by
 rcases Nat.lt_trichotomy q t with hq|hq|hq
 ·have a:(q+1)*k<=t*k:=zH _ hq;rw[zT]at a;rw[List.drop_append_of_le_length i4,wj l4];exact h q
 ·subst hq;rw[<-d,List.drop_left,qi c];exact b
 ·have a:(t+1)*k<=q*k:=zH _ hq;rw[zT]at a;rw[zg (by rw[qx];omega)];simp[Sd]
theorem Bs.whole{k:Nat}{l:List bJ}(h:Bs k l)(a:ii l<=k):Sd cE l:=by have:=h.first;rw[qi a]at this;exact this
end Wl
namespace Go.Qw
open Go Go.Vc Go.Proofs Wl
section
variable {B:aD} {h0 h h':f8} {As:List HP} {s:Sl} {d:List bJ}
theorem Wz(d:List bJ)(n:Int)(hn:n=ii d)(hd:ii d<=2^30)(H:aa B h0 h (cR s d::As)):
  ac xB 248 #[s,xq xx n,.func (.func 197) #[] #[]] h λv h'=>v=.tuple #[]/\aa B h0 h' (cR s (d.mergeSort cE)::As):=by
 subst hn;refine nV s d.length (197,#[],#[]) ?_;unfold jT;refine aA (λP:List bJ=>((ii P:Int),((ii P+20:Nat):Int))) (λP h'=>ii P<=ii d/\(∃t,ii P=t*20)/\Bs 20 P/\cJ cE (d.take P.length) P/\aa B h0 h' (cR s (P++d.drop P.length)::As)) (λP=>ii d-ii P) [] i0 ⟨i9,⟨0,i9⟩,Bs.nil _,by simpa using cJ.refl _,l6⟩ ?_;rintro P h1 ⟨hP,⟨t,O⟩,S,V,F⟩;dsimp only;refine ai (λe=>?_) (λe=>?_)
 ·have X:ii P+20<=ii d:=i4
  have eY:(d.drop P.length).take 20++d.drop (ii P+20)=d.drop P.length:=by rw[<-zI];exact qE _ _
  have W:ii ((d.drop P.length).take 20)=20:=i7
  rw[<-eY]at F;refine(DV P ((d.drop P.length).take 20) (d.drop (ii P+20)) _ _ i0 (by rw[W]) i7 F).mono ?_;rintro _ h2 ⟨rfl,i,m,b,H2⟩;have x:ii i=20:=by rw[<-xW dZ b,W]
  have g:ii (P++i)=ii P+20:=by rw[qx,x]
  refine⟨(),i0,P++i,?_,⟨i4,⟨t+1,by rw[g,O,zT]⟩,S.snoc O m,?_,?_⟩,i4⟩
  ·rw[g,al _];congr 1
  ·rw[g];have:d.take (ii P+20)=d.take P.length++(d.drop P.length).take 20:=by rw[List.take_add]
   rw[this];exact V.app b
  ·rw[g,qp];exact H2
 ·have I:aa B h0 h1 (cR s (P++(d.drop P.length++[]))::As):=by rw[qO];exact F
  refine(DV P (d.drop P.length) [] _ _ i0 l4 i7 I).mono ?_;rintro _ h3 ⟨rfl,i,m,b,U⟩;have x:ii i=ii d-ii P:=by rw[<-xW dZ b,ze]
  have N:Bs 20 (P++i):=S.snoc O m;have c:cJ cE d (P++i):=by have:=V.app b;rw[qE]at this;exact this
  refine⟨(),i0,?_⟩;refine aA (λt:Nat×List bJ=>(t.1:Int)) (λt h'=>0<t.1/\t.1<=2^32/\t.2.length=ii d/\Bs t.1 t.2/\cJ cE d t.2/\aa B h0 h' (cR s t.2::As)) (λt=>2^32-t.1) (20,P++i) i0 ⟨i6,i6,by dsimp only;rw[qx];omega,N,c,by rw[qO]at U;exact U⟩ ?_;rintro⟨k,l⟩ h4 ⟨am,hk,hl,R,q,G⟩;dsimp only at*;refine ai (λe2=>?_) (λe2=>?_)
  ·have ah:k<ii d:=i4
   have J:qc xx ((2:Int)*k)=((2*k:Nat):Int):=j3
   have L:qc xx ((k:Int)*2)=((2*k:Nat):Int):=j3
   rw[J];have next:∀{h':f8} (l':List bJ),ii l'=ii d->Bs (2*k) l'->cJ cE l l'->aa B h0 h' (cR s l'::As)->∃f:Nat×List bJ,qc xx ((k:Int)*2)=(f.1:Int)/\(0<f.1/\f.1<=2^32/\f.2.length=ii d/\Bs f.1 f.2/\cJ cE d f.2/\aa B h0 h' (cR s f.2::As))/\2^32-f.1<2^32-k:=λ{h'} l' q1 q2 q3 q4=>
    ⟨(2*k,l'),L,⟨i6,i6,q1,q2,q.trans q3,q4⟩,i6⟩
   refine aA (λt:List bJ×List bJ=>((ii t.1:Int),((ii t.1+2*k:Nat):Int))) (λt h'=>(∃u,ii t.1=u*(2*k))/\t.1.length+ii t.2=ii d/\Bs (2*k) t.1/\Bs k t.2/\cJ cE l (t.1++t.2)/\aa B h0 h' (cR s (t.1++t.2)::As)) (λt=>ii t.2) ([],l) (by dsimp only;rw[yU,Nat.zero_add];rfl) ⟨⟨0,i9⟩,by simpa using hl,Bs.nil _,R,by simpa using cJ.refl _,by simpa using G⟩ ?_;rintro⟨P,Q⟩ T ⟨⟨u,A⟩,Z,o,a,c,K⟩;dsimp only at*;have E:qc xx ((ii P:Int)+k)=((ii P+k:Nat):Int):=j3
   rw[E];have eQ:Q.take k++Q.drop k=Q:=qE _ _;refine ai (λe3=>?_) (λe3=>ai (λe4=>?_) λe4=>?_)
   ·have ab:2*k<=ii Q:=i4
    have y:Q.take k++((Q.drop k).take k++Q.drop (2*k))=Q:=by
     have:Q.drop (2*k)=(Q.drop k).drop k:=by rw[zI];congr 1;omega
     rw[this,qE,eQ]
    have l1:ii (Q.take k)=k:=i7
    have l2:ii ((Q.drop k).take k)=k:=i7
    have p:aa B h0 T (cR s (P++(Q.take k++((Q.drop k).take k++Q.drop (2*k))))::As):=by rw[y];exact K
    refine(Gu _ P (Q.take k) ((Q.drop k).take k) (Q.drop (2*k)) _ _ _ i4 i4 (qm _) i0 (by rw[l1]) (by rw[l1,l2];omega) i7 a.first a.rest.first p).mono ?_;rintro _ Y ⟨rfl,M,m,b,z⟩;have w:ii M=2*k:=by rw[<-xW dZ b,qx,l1,l2];omega
    have j:ii (P++M)=ii P+2*k:=by rw[qx,w]
    refine⟨(),i0,(P++M,Q.drop (2*k)),?_,⟨⟨u+1,by dsimp only;rw[j,A];exact(zT u (2*k)).symm⟩,by dsimp only;rw[j,ze];omega,o.snoc A m,?_,?_,?_⟩,by dsimp only;rw[ze];omega⟩
    ·dsimp only;rw[j,al _];congr 1
    ·dsimp only;have:Q.drop (2*k)=(Q.drop k).drop k:=by rw[zI];congr 1;omega
     rw[this];exact a.rest.rest
    ·dsimp only;refine c.trans ?_
     conv=>arg 2;rw[<-y]
     rw[qp];have:=(cJ.refl (le:=cE) P).app (b.app (cJ.refl (le:=cE) (Q.drop (2*k))));rw[qp]at this;exact this
    ·dsimp only;rw[qp];exact z
   ·have r:k<ii Q:=i4
    have ad:ii Q<2*k:=i4
    have l1:ii (Q.take k)=k:=i7
    have l2:ii (Q.drop k)=ii Q-k:=i9
    have D:Sd cE (Q.drop k):=by have:=a.rest.first;rw[qi i4]at this;exact this
    have p:aa B h0 T (cR s (P++(Q.take k++(Q.drop k++[])))::As):=by rw[qO,eQ];exact K
    refine(Gu _ P (Q.take k) (Q.drop k) [] _ _ _ i4 i4 (qm _) i0 (by rw[l1]) (by rw[l1,l2];omega) i7 a.first D p).mono ?_;rintro _ Y ⟨rfl,M,m,b,z⟩;have w:ii M=ii Q:=by rw[<-xW dZ b,eQ]
    rw[eQ]at b;rw[qO]at z;exact⟨(),i0,next (P++M) (by rw[qx];omega) (o.snoc A m) (c.trans ((cJ.refl _).app b)) z⟩
   ·have r:ii Q<=k:=i4
    exact next (P++Q) (by rw[qx];omega) (o.snoc A (a.whole r)) c K
  ·have hs:Sd cE l:=R.whole i4;rw[agc dZ hs q]at G;exact⟨i0,G⟩
theorem NL(d:List bJ)(a:ii d<=2^30)(H:aa B h0 h (cR s d::As)):
  ac xB 196 #[s,.func (.func 197) #[] #[]] h λv h'=>v=.tuple #[]/\aa B h0 h' (cR s (d.mergeSort cE)::As):=by
 refine ky s (197,#[],#[]) ?_;unfold gx;refine(Wz d _ (by rw[(H.own 0 i0).len]) a H).mono ?_;rintro _ c ⟨rfl,b⟩;exact⟨(),i0,i0,b⟩
def kw:bJ:=(0,0,0,0,0,0,0,⟨eH,0,0⟩)
end
end Go.Qw
namespace Wl
open Go Go.Vc Go.Qw
def kT(l:List bJ)(k:Nat):Bool:=decide (k=0)||decide (mA (l.getD k kw) (l.getD (k-1) kw)≠0)
def kU(l:List bJ)(k:Nat):List bJ:=((qy k).filter (kT l)).map λi=>l.getD i kw
def cpt(l:List bJ):List bJ:=kU l l.length
theorem oa(l:List bJ)(k:Nat):kU l (k+1)=kU l k++if kT l k then[l.getD k kw]else[]:=by unfold kU;rw[zQ,zm,qU,zq,vf];split<;>rfl
end Wl
namespace Go.Qw
open Go Go.Vc Go.Proofs Wl
section
variable {B:aD} {h0 h h':f8} {As:List HP} {s:Sl} {d:List bJ}
theorem NM(a b:bJ)(h:f8):ac xB 199 #[recv a,recv b] h λv h'=>v=xv (decide (mA a b=0))/\Sp h h' []:=by refine Ig a b ?_;unfold AM;refine(Sp.refl h).boxed λe j f=>f.boxed λi d c=>?_;have c:Sp h d [au e 170 (bT a),au i 170 (bT b)]:=c;refine⟨a,(c.box 0 i0).aU _ i0,b,(c.box 1 i0).aU _ i0,(rT a b d).mono ?_⟩;rintro _ h3 ⟨rfl,g⟩;refine⟨_,i0,?_,.zip (aa.up c g.aj).aj⟩;congr 1
theorem LP(l:List bJ)(hd:ii l<=2^30)(H:aa B h0 h (cR s l::As)):
  ac xB 198 #[s,.func (.func 199) #[] #[]] h λv h'=>∃r:Sl,v=r/\aa B h0 h' (cR r (cpt l)::As):=by
 refine ly s (199,#[],#[]) ?_;unfold gV;have ah:=(H.own 0 i0).len;have G:=(H.own 0 i0).cap;have n:(∀j,j<ii l->kT l j=eL)->cpt l=l:=λw=>by
  have:∀k,k<=ii l->kU l k=l.take k:=λk=>by
   induction k with
   |zero=>simp[kU]
   |succ k ih=>
    intro K;rw[oa,ih i4,f9 (w k i4),aK l k,getD_lt (show k<ii l by omega)]
  unfold cpt;rw[this _ (qm _),qY]
 refine ai (λe=>⟨s,i0,?_⟩) (λe=>?_)
 ·rw[n λj m=>by unfold kT;rw[g9 (show j=0 by omega)];rfl];exact H
 refine aA (λi:Nat=>(i:Int)) (λi h'=>1<=i/\i<=ii l/\(∀j,j<i->kT l j=eL)/\aa B h0 h' (cR s l::As)) (λi=>ii l-i) 1 i0 ⟨i4,i4,λj m=>by unfold kT;rw[g9 (show j=0 by omega)];rfl,H⟩ ?_;rintro i h1 ⟨ao,hi,w,I⟩;refine ai (λO=>?_) (λO=>?_)
 ·have z:i<ii l:=by have e':(i:Int)<(s.len:Int):=O;omega
  have ei:qc xx ((i:Int)-1)=((i-1:Nat):Int):=j3
  rw[ei];refine kH I i i0 (x:=l.getD i kw) (by rw[getD_lt z,qd z]) (kH I (i-1) i0 (x:=l.getD (i-1) kw) (by rw[getD_lt (show i-1<ii l by omega),qd]) (ff ld ?_));refine(NM _ _ h1).mono ?_;rintro _ h2 ⟨rfl,R2⟩;have Y:=I.up R2.aj;refine⟨_,i0,trivial,bC (λe2=>?_) λe2=>?_⟩
  ·have p:kT l i=eR:=by unfold kT;rw[hU (show¬i=0 by omega)];simpa using e2
   have o:kU l i=l.take i:=by
    have:∀k,k<=i->kU l k=l.take k:=λk=>by
     induction k with
     |zero=>simp[kU]
     |succ k ih=>
      intro K;rw[oa,ih i4,f9 (w k i4),aK l k,getD_lt (show k<ii l by omega)]
    exact this i (qm _)
   refine⟨⟨i4,i4⟩,?_⟩;rw[ql];refine aA (λt:Nat×List bJ=>((ii (kU l (i+t.1)):Int),(t.1:Int))) (λt h'=>1<=t.1/\i+t.1<=ii l/\t.2.length=ii l/\(kU l (i+t.1)).length+1<=i+t.1/\t.2.take (kU l (i+t.1)).length=kU l (i+t.1)/\(∀j,i+t.1-1<=j->t.2[j]?=l[j]?)/\aa B h0 h' (cR s t.2::As)) (λt=>ii l-t.1) (1,l) ?_ ⟨i9,i6,i0,?_,?_,λ_ _=>rfl,Y⟩ ?_
   ·dsimp only;rw[oa,p,o];simp;omega
   ·dsimp only;rw[oa,p,o];simp;omega
   ·dsimp only;rw[oa,p,o];simp
   rintro⟨k,D⟩ h3 ⟨am,ab,y,L,d,u,J⟩;dsimp only at*;obtain⟨c,R⟩:∃c,c=ii (kU l (i+k)):=⟨_,rfl⟩
   rw[<-R]at L d⊢;have ad:=(J.own 0 i0).len;have E:=(J.seq 0 i0 λ_=>rfl).drop i G;refine ai (λe3=>?_) (λe3=>?_)
   ·have U:i+k<ii l:=i4
    have ek:qc xx ((k:Int)-1)=((k-1:Nat):Int):=j3
    rw[ek];have W:∀j,k-1<=j->(m:i+j<ii l)->(D.drop i)[j]?=dB (l.getD (i+j) kw):=λj m A=>by
     rw[List.getElem?_drop,u _ i4,getD_lt A,qd A]
    have gk:=W k i4 U;have Q:=W (k-1) i4 i4;obtain⟨X,Z⟩:=qn.1 gk;obtain⟨q1,q2⟩:=qn.1 Q;refine Seq.eu (f:=bT) (g:=bT) E k i0 X (l.getD (i+k) kw) (by rw[Z]) ?_;refine Seq.eu (f:=bT) (g:=bT) E (k-1) i0 q1 (l.getD (i+(k-1)) kw) (by rw[q2]) (ff ld ?_);refine(NM _ _ h3).mono ?_;rintro _ h4 ⟨rfl,R4⟩;have M:=J.up R4.aj;have q:kT l (i+k)=!decide (mA (l.getD (i+k) kw) (l.getD (i+(k-1)) kw)=0):=by unfold kT;rw[hU (show¬i+k=0 by omega),show i+k-1=i+(k-1)by omega];simp
    have b:=oa l (i+k);rw[q]at b;refine⟨_,i0,trivial,bo (λP=>?_) λP=>?_⟩
    ·rw[P]at b;have a:ii (kU l (i+(k+1)))=c+1:=by rw[<-wX,b];simp[R]
     have F:=(M.seq 0 i0 λ_=>rfl).drop i G;refine Seq.eu (f:=bT) (g:=bT) F k i0 X (l.getD (i+k) kw) (by rw[Z]) ?_;refine M.set af 0 i0 (λ_=>rfl) i0 c i0 i4 (l.getD (i+k) kw) i0 i0 i0 λh5 H5=>?_;refine⟨(k+1,D.set c (l.getD (i+k) kw)),?_,⟨i6,i6,by dsimp only;rw[zh];exact y,by dsimp only;rw[a];omega,?_,λj m=>?_,H5⟩,i6⟩
     ·dsimp only;rw[a,al _,al _];rfl
     ·dsimp only;rw[a,aK _ c (by rw[zh];omega),List.getElem_set_self,List.take_set_of_le (qm _),d,<-wX,b];simp
     ·dsimp only at m⊢;rw[zD i4];exact u j i4
    ·rw[P]at b;have a:ii (kU l (i+(k+1)))=c:=by rw[<-wX,b];simp[R]
     refine⟨(k+1,D),?_,⟨i6,i6,y,by dsimp only;rw[a];omega,?_,λj m=>u j (by dsimp only at m;omega),M⟩,i6⟩
     ·dsimp only;rw[a,al _];rfl
     ·dsimp only;rw[a,d,<-wX,b];simp
   ·have S:i+k=ii l:=i4
    refine⟨⟨i4,i4⟩,?_⟩;rw[ql];refine J.py af 0 i0 aiU (λ_=>rfl) i0 i5 c i4 λh6 V=>⟨⟨i4,i4⟩,⟨s.ptr,c,s.cap⟩,i0,?_⟩
    rw[d,S]at V;exact V
  ·refine⟨i+1,js,⟨i4,i4,λj m=>?_,Y⟩,i4⟩;by_cases N:j=i
   ·subst N;unfold kT;rw[g9 (show mA (l.getD j kw) (l.getD (j-1) kw)≠0 by simpa using e2)];simp
   ·exact w j i4
 ·have T:i=ii l:=by have e':¬(i:Int)<(s.len:Int):=O;omega
  subst T;rw[n w];exact⟨s,i0,I⟩
end
def fieldsOf(d:Option TypeDesc):List (Bool×TypeId×Nat):=match d with|some (.struct fs)=>fs.toList.map (λf=>(f.name== "_",f.type,f.offset))|_=>[]
theorem abU:fieldsOf (Tryz.prog.underlying 24)=[(eR,3,0),(eR,3,1),(eR,3,2)]:=j1
theorem aeK:Tryz.prog.stoodInHeld 24=eR:=j1
theorem aeL:Tryz.prog.eqGuardType Tryz.prog.depth 24=eR:=j1
theorem Uw{P:Program}{t:TypeId}{a b c:TypeId×Nat}(h:fieldsOf (P.underlying t)=[(eR,a.1,a.2),(eR,b.1,b.2),(eR,c.1,c.2)]):
  ∃f g e:Field,P.underlying t=dB (.struct #[f,g,e])/\(f.name≠ "_" /\f.type=a.1/\f.offset=a.2)/\(g.name≠ "_" /\g.type=b.1/\g.offset=b.2)/\(e.name≠ "_" /\e.type=c.1/\e.offset=c.2):=by
 cases hu:P.underlying t with
 |none=>rw[hu]at h;cases h
 |some d=>
  rw[hu]at h;cases d with
  |struct fs=>
   simp only[fieldsOf]at h;obtain⟨l⟩:=fs;have i:ii l=3:=by simpa using congrArg vV h
   obtain⟨f,r,rfl⟩:=yC i;obtain⟨g,k,rfl⟩:=yC (by simpa using i:ii r=1+1);obtain⟨e,j,rfl⟩:=yC (by simpa using i:ii k=0+1);obtain rfl:j=[]:=by simpa using i
   simp at h;exact⟨f,g,e,i0,⟨h.1.1,h.1.2.1,h.1.2.2⟩,⟨h.2.1.1,h.2.1.2.1,h.2.1.2.2⟩,⟨h.2.2.1,h.2.2.2.1,h.2.2.2.2⟩⟩
  |_=>cases h
theorem jJ{P:Program}{d:Nat}{t:TypeId}{k:IntKind}(h:∃c,P.underlying t=dB (.int c))(a b:Int):aN P (Op.equalIn (d+1) t (.int k a) (.int k b)) (a==b):=by obtain⟨c,h⟩:=h;unfold Op.equalIn;refine(aW h).bind ?_;simp only[if_true];exact .pure
theorem mT{P:Program}{t:TypeId}{k:IntKind}(h:P.underlying t=dB (.int k)){a:Array Value}{i:Nat}{v:Value}(b:a[i]?=dB v):aN P (part t a i) v:=by unfold part isAgg;refine aN.bind (v:=eR) ((aW h).bind .pure) ?_;simp only[zj,if_false,b];exact .pure
theorem ajS(p q:Pm):aN xB (Op.equal 24 (xw #[xq xx p.1,xq xx p.2.1,xq xx p.2.2]) (xw #[xq xx q.1,xq xx q.2.1,xq xx q.2.2])) (decide (p=q)):=by
 obtain⟨f,g,u,B,⟨D,F,H⟩,⟨G,y,z⟩,⟨I,E,u3⟩⟩:=Uw (a:=(3,0)) (b:=(3,1)) (c:=(3,2)) abU;have A:∃k,Tryz.prog.underlying 3=dB (.int k):=⟨.i64,j1⟩
 obtain⟨k,d⟩:=A;unfold Op.equal;rw[show Op.maxDepth=9998+1+1 from i0,Op.equalIn];refine(aW B).bind ?_;refine aN.bind (v:=xB) (λw=>rfl) ?_;simp only[aeK,zj,if_false,List.forIn_toArray,List.forIn_cons,List.forIn_nil,ne_eq,D,G,I,not_false_eq_true,if_true,F,H,y,z,E,u3];obtain⟨a,b,c⟩:=p;obtain⟨h,i,j⟩:=q;dsimp only;have n:aN xB (part 3 #[Value.int xx a,Value.int xx b,Value.int xx c] 0) _:=mT d i0;have o:aN xB (part 3 #[Value.int xx h,Value.int xx i,Value.int xx j] 0) _:=mT d i0;have r:aN xB (part 3 #[Value.int xx a,Value.int xx b,Value.int xx c] 1) _:=mT d i0;have s:aN xB (part 3 #[Value.int xx h,Value.int xx i,Value.int xx j] 1) _:=mT d i0;have t:aN xB (part 3 #[Value.int xx a,Value.int xx b,Value.int xx c] 2) _:=mT d i0;have x:aN xB (part 3 #[Value.int xx h,Value.int xx i,Value.int xx j] 2) _:=mT d i0;by_cases l:a=h
 ·by_cases m:b=i
  ·by_cases h3:c=j
   ·have e:decide ((a,b,c)=(h,i,j))=eL:=by simp[l,m,h3]
    rw[e];refine aN.bind (v:=(eH,())) (aN.bind (v:=ForInStep.yield (eH,())) (n.bind (o.bind ((jJ ⟨k,d⟩ a h).bind ?_))) (aN.bind (v:=ForInStep.yield (eH,())) (r.bind (s.bind ((jJ ⟨k,d⟩ b i).bind ?_))) (aN.bind (v:=ForInStep.yield (eH,())) (t.bind (x.bind ((jJ ⟨k,d⟩ c j).bind ?_))) .pure))) .pure
    ·simp only[l,beq_self_eq_true,yd,zj,if_false];exact .pure
    ·simp only[m,beq_self_eq_true,yd,zj,if_false];exact .pure
    ·simp only[h3,beq_self_eq_true,yd,zj,if_false];exact .pure
   ·have e:decide ((a,b,c)=(h,i,j))=eR:=by simp[h3]
    rw[e];refine aN.bind (v:=(dB eR,())) (aN.bind (v:=ForInStep.yield (eH,())) (n.bind (o.bind ((jJ ⟨k,d⟩ a h).bind ?_))) (aN.bind (v:=ForInStep.yield (eH,())) (r.bind (s.bind ((jJ ⟨k,d⟩ b i).bind ?_))) (aN.bind (v:=ForInStep.done (dB eR,())) (t.bind (x.bind ((jJ ⟨k,d⟩ c j).bind ?_))) .pure))) .pure
    ·simp only[l,beq_self_eq_true,yd,zj,if_false];exact .pure
    ·simp only[m,beq_self_eq_true,yd,zj,if_false];exact .pure
    ·rw[show(c==j)=eR by simpa using h3];simp only[ye,if_true];exact .pure
  ·have e:decide ((a,b,c)=(h,i,j))=eR:=by simp[m]
   rw[e];refine aN.bind (v:=(dB eR,())) (aN.bind (v:=ForInStep.yield (eH,())) (n.bind (o.bind ((jJ ⟨k,d⟩ a h).bind ?_))) (aN.bind (v:=ForInStep.done (dB eR,())) (r.bind (s.bind ((jJ ⟨k,d⟩ b i).bind ?_))) .pure)) .pure
   ·simp only[l,beq_self_eq_true,yd,zj,if_false];exact .pure
   ·rw[show(b==i)=eR by simpa using m];simp only[ye,if_true];exact .pure
 ·have e:decide ((a,b,c)=(h,i,j))=eR:=by simp[l]
  rw[e];refine aN.bind (v:=(dB eR,())) (aN.bind (v:=ForInStep.done (dB eR,())) (n.bind (o.bind ((jJ ⟨k,d⟩ a h).bind ?_))) .pure) .pure;rw[show(a==h)=eR by simpa using l];simp only[ye,if_true];exact .pure
theorem aiX(x y:Operand)(p q:Pm):kK xB .neq 24 x y (xw #[xq xx p.1,xq xx p.2.1,xq xx p.2.2]) (xw #[xq xx q.1,xq xx q.2.1,xq xx q.2.2]) (xv (!decide (p=q))):=by
 unfold kK eqGuard;refine aN.bind (v:=()) ?_ ?_
 ·simp only[yd,zj,if_false];refine aN.bind (v:=xB) (λw=>rfl) ?_;refine aN.bind (v:=xB) (λw=>rfl) ?_;simp only[aeL,ye,if_true];exact .pure
 ·exact(ajS p q).bind .pure
end Go.Qw
namespace Wl
def aeM(P:cv->Bool)(l:List cv)(i:Int):Prop:=(i=-1/\l.any P=eR)∨∃n:Nat,∃h:n<ii l,i=n/\P l[n]=eL/\(l.take n).any P=eR
theorem Ux{P:cv->Bool}{l:List cv}{i:Int}(h:aeM P l i):decide (i>=0)=l.any P:=by
 rcases h with⟨rfl,h⟩|⟨n,hn,rfl,h,_⟩
 ·rw[h];rfl
 ·rw[wz.2 ⟨_,qg hn,h⟩];exact g9 i4
end Wl
namespace Go.Qw
open Go Go.Vc Go.Proofs Wl
theorem KG(f:FuncId)(pre post:Array Value)(P:Wl.cv->Bool)(l:Sl)(a:List Wl.cv)(h:f8)(p:C.fns[f]?=dB eL)(n:dW Aa h l a)(F:ii a<=2^30)
  (t:∀(u:dU) (E:Wl.cv) (h':f8),Sp h h' []->dW jA h' u E->E∈a->ac xB f (pre.toList++[Value.agg #[xu u.1,xq xx u.2.1,xq xx u.2.2.1,u.2.2.2]]++post.toList).toArray h' λv j=>v=xv (P E)/\Sp h' j []):
  ac xB 152 #[l,.func (.func f) pre post] h λv h'=>(∃i:Int,v=xq xx i/\aeM P a i)/\Sp h h' []:=by
 refine im l (f,pre,post) ?_;unfold fG;obtain⟨k,q,D,x⟩:=bO.kt n;have y:=bO.len n;refine aA (λi:Nat=>(i:Int)) (λi h'=>i<=ii a/\(a.take i).any P=eR/\Sp h h' []) (λi=>ii a-i) 0 i0 ⟨i4,i9,Sp.refl h⟩ ?_;rintro i o ⟨B,b,d⟩;refine ai (λe=>?_) (λe=>?_)
 ·have c:i<ii a:=by have z:(i:Int)<(l.len:Int):=e;omega
  have w:dW jA o (k[i]'(by omega)) a[i]:=jA.mono (jA.loc (x i i4 c) d.aj) λ_ s=>qW s d.aj.1;refine(Seq.up q d.aj).eu (g:=bI) i i0 i4 (k[i]'(by omega)) i0 (ff p ?_);refine(t (k[i]'(by omega)) a[i] o d w (qg c)).mono ?_;rintro _ A ⟨rfl,r⟩;have m:=d.up r.aj;refine⟨_,i0,bC (λe2=>⟨⟨i,i0,.inr ⟨i,c,i0,e2,b⟩⟩,m⟩) λe2=>?_⟩;refine⟨i+1,js,⟨i4,?_,m⟩,i4⟩;rw[aK _ _ c,yT,b,List.any_cons,List.any_nil,e2];rfl
 ·have z:¬(i:Int)<(l.len:Int):=e;rw[qi i4]at b;exact⟨⟨-1,i0,.inl ⟨i0,b⟩⟩,d⟩
theorem PM(f:FuncId)(pre post:Array Value)(P:Wl.cv->Bool)(l:Sl)(a:List Wl.cv)(h:f8)(c:C.fns[f]?=dB eL)(d:dW Aa h l a)(g:ii a<=2^30)
  (j:∀(u:dU) (E:Wl.cv) (h':f8),Sp h h' []->dW jA h' u E->E∈a->ac xB f (pre.toList++[Value.agg #[xu u.1,xq xx u.2.1,xq xx u.2.2.1,u.2.2.2]]++post.toList).toArray h' λv b=>v=xv (P E)/\Sp h' b []):
  ac xB 165 #[l,.func (.func f) pre post] h λv h'=>v=xv (a.any P)/\Sp h h' []:=by
 refine gJ l (f,pre,post) ?_;unfold fe;refine(KG f pre post P l a h c d g j).mono ?_;rintro _ m ⟨⟨i,rfl,e⟩,k⟩;exact⟨i,i0,by rw[Ux e],k⟩
theorem rV(o b t:Int)(h:f8):ac xB 62 #[xq xx o,xq xx b,xq xx t] h λv h'=>v=xq xz (cz o b t)/\h'=h:=by
 refine RH o b t ?_;unfold Kn;refine⟨?_,i0⟩;have:qc xz ((qc xz ((qc xz ((128:Int)*(qc xz o)))+(qc xz ((16:Int)*(qc xz b)))))+(qc xz t))=cz o b t:=by unfold cz qc;simp[qk,y7];omega
 rw[this]
theorem WA(x:bU)(m:aG)(y:bJ)(r:dm)(h:f8)(q:df h x m)(hz:cS m)(T:dW fx h y r):
  ac xB 195 #[fw x,recv y] h λv h'=>v=xv (fh m r)/\Sp h h' []:=by
 refine Nt x y ?_;unfold Gn;refine(Sp.refl h).boxed λO h1 Y=>Y.boxed λd M e=>?_;have e:Sp h M [au O 44 (aV x),au d 170 (bT y)]:=e;obtain⟨⟨U,e2,e3,s,e5,e7,e8⟩,e6⟩:=id T;have H:x.2.2.1=m.p.1:=congrArg (·.1) q.p;have z:x.2.2.2.1=m.p.2.1:=congrArg (·.2.1) q.p;have D:x.2.2.2.2.1=m.p.2.2:=congrArg (·.2.2) q.p;have t:y.2.2.2.1=r.p.1:=congrArg (·.1) s;have I:y.2.2.2.2.1=r.p.2.1:=congrArg (·.2.1) s;have F:y.2.2.2.2.2.1=r.p.2.2:=congrArg (·.2.2) s;have X:=hz.ob;refine bj ⟨y,(e.box 1 i0).aU _ i0,(KE y r M (fx.mono (fx.loc T e.aj) λ_ Z=>qW Z e.aj.1)).mono ?_⟩;rintro _ h3 ⟨rfl,R3⟩;have j:Sp h h3 [au O 44 (aV x),au d 170 (bT y)]:=e.up R3.aj;have S:=j.box 0 i0;have w:=j.box 1 i0;refine⟨_,i0,bo (λg=>⟨by unfold fh;rw[g];rfl,.zip j.aj⟩) λg=>?_⟩;obtain⟨_,g2,_⟩:=(lm r).1 g;refine⟨r.p,by rw[<-t,<-I,<-F];exact w.JI 3 i0 i0 i0,m.p,by rw[<-H,<-z,<-D];exact S.JI 2 i0 i0 i0,_,aiX _ _ r.p m.p,bo (λA=>⟨?_,.zip j.aj⟩) λA=>?_⟩
 ·unfold fh;rw[g,A];rfl
 obtain⟨P,L⟩:∃P:Wl.cv->Bool,P=λx=>decide (x.object=r.object)&&(decide (r.block<(x.tries.length:Int))&&decide (r.seed=cz r.object r.block (x.tries.getD r.block.toNat 0))):=⟨_,rfl⟩
 have G:fh m r=m.aH.any P:=by unfold fh;rw[g,A,L];rfl
 refine⟨x.2.2.2.2.2.2.2,S.cell i0,?_⟩;refine(PM 247 #[] #[xt (dB d)] P x.2.2.2.2.2.2.2 m.aH h3 ld (q.up j.aj).aH i4 λu E N H4 he _=>?_).mono ?_
 ·obtain⟨⟨y1,y2,y3⟩,R⟩:=he;have V:=Seq.len R;have n:=w.aj H4.aj w.lt;refine JZ u d ?_;unfold Ce;refine(Sp.refl N).boxed λa5 b a=>?_;have a:Sp N b [au a5 94 (bI u)]:=a;have J:=a.box 0 i0;have c:=n.aj a.aj n.lt;have o:f7 b (a5.add 1)=dB (xq xx E.object):=by rw[<-y2];exact J.cell i0
  have k:f7 b (a5.add 3)=dB (xr u.2.2.2.ptr u.2.2.2.len u.2.2.2.cap):=J.cell i0;have l:f7 b d=dB (xq xx r.object):=by rw[<-U];exact c.cell0 i0
  have i:f7 b (d.add 1)=dB (xq xx r.block):=by rw[<-e2];exact c.cell i0
  have Q:f7 b (d.add 6)=dB (xq xz r.seed):=by rw[<-e5];exact c.cell i0
  rw[L];refine⟨E.object,o,r.object,l,cy (λB=>?_) λB=>⟨⟨l,o,trivial⟩,?_,.zip a.aj⟩⟩
  ·refine⟨u.2.2.2,k,r.block,i,ai (λq2=>?_) λq2=>⟨⟨i,k,l,o,trivial⟩,?_,.zip a.aj⟩⟩
   ·have K:r.block.toNat<E.tries.length:=i4
    refine⟨r.seed,Q,r.object,l,r.block,i,u.2.2.2,k,r.block,i,?_⟩;refine Seq.bH (f:=av) (Seq.up R a.aj) r.block.toNat i4 K (E.tries.getD r.block.toNat 0) (by rw[getD_lt K];rfl) ?_;refine(rV _ _ _ b).mono ?_;rintro _ _ ⟨rfl,rfl⟩;refine⟨_,i0,⟨i,k,Q,i,k,l,o,trivial⟩,?_,.zip a.aj⟩;dsimp only;rw[g9 B,g9 (show r.block<(E.tries.length:Int)by omega),wg,wg];congr 1
   ·dsimp only;rw[hU (show¬r.block<(E.tries.length:Int)by omega)];simp
  ·dsimp only;rw[hU B];rfl
 ·rintro _ b ⟨rfl,W⟩;exact⟨_,i0,by rw[G],.zip (aa.up j W.aj).aj⟩
section
variable {α:Type}
def oY(k:Nat)(f:α->bg):jn Sl (List α):=⟨λh q s l=>Seq h q s k f l/\s.len<=s.cap,λa c=>⟨a.1.aj c,a.2⟩,λa b=>⟨a.1.mono b,a.2⟩⟩
theorem aa.agE{B:aD}{n h:f8}{As:List HP}{e a k:Nat}{s:Sl}{f:α->bg}{b:List (List α)}(H:aa B n h (dK e s a k f b::As))(p:∀x,ii (f x)=k):∃rs,aa B n h (cO (oY k f) 1 bw s rs b::As):=by
 obtain⟨rs,H⟩:=H.tG;obtain⟨H,g⟩:=H.Lc;refine⟨rs,H.fZ 0 i0 λq d=>⟨?_,g,λi r l m c=>?_⟩⟩
 ·have:=HP.DU (i:=0) d i0;exact this.1.seq (λ_=>rfl) this.2
 ·have j:i<ii b:=(qn.1 c).1;have t:=fX (e:=a) (k:=k) (f:=f) g i j;have:=HP.DU (i:=i+1) d (by simpa using t);have o:rs[i]'(by omega)=r:=by rw[qd i4]at m;simpa using m
  have a:b[i]=l:=by rw[qd j]at c;simpa using c
  rw[o,a]at this;exact⟨this.1.seq p this.2,this.1.cap⟩
end
def tR(T:List (bJ×dm)):HP:=⟨λh q=>∀t∈T,fx.p h q t.1 t.2,λa d t b=>fx.loc (a t b) d,λa c t b=>fx.mono (a t b) c⟩
end Go.Qw
namespace Wl
open Go Go.Vc Go.Qw
def Keyed(T:List (bJ×dm)):Prop:=∀t∈T,t.1.1=t.2.object/\t.1.2.1=t.2.block/\t.1.2.2.1=t.2.id
def QQ(a b:bJ×dm):Bool:=sq a.2 b.2
theorem aeN{T:List (bJ×dm)}(k:Keyed T):∀a∈T,∀b∈T,QQ a b=cE a.1 b.1:=λa i b h=>by
 obtain⟨c,f,a3⟩:=k a i;obtain⟨d,g,e⟩:=k b h;unfold QQ sq cE;rw[decide_eq_decide,DT,c,f,a3,d,g,e]
theorem Zs{T:List (bJ×dm)}(k:Keyed T):(T.mergeSort QQ).map qH=(T.map qH).mergeSort cE/\(T.mergeSort QQ).map zJ=(T.map zJ).mergeSort sq/\Keyed (T.mergeSort QQ):=
 ⟨vG (aeN k),vG λa _ b _=>rfl,λt c=>k t (yM.1 c)⟩
def NN:bJ×dm:=(kw,MD)
def Fh(T:List (bJ×dm)):List (bJ×dm):=((qy T.length).filter (rj (T.map zJ))).map λi=>T.getD i NN
theorem getD_map{α β:Type}(f:α->β)(l:List α)(i:Nat)(d:α):(l.map f).getD i (f d)=f (l.getD i d):=by rw[qe,qe,qT];cases l[i]?<;>rfl
theorem abV{T:List (bJ×dm)}(k:Keyed T):(Fh T).map qH=cpt (T.map qH)/\(Fh T).map zJ=rk (T.map zJ)/\∀t∈Fh T,t∈T:=by
 have l:∀i,i<ii T->kT (T.map qH) i=rj (T.map zJ) i:=λi a=>by
  unfold kT rj;have g:∀j,j<ii T->(T.map qH).getD j kw=(T[j]?.getD NN).1/\(T.map zJ).getD j MD=(T[j]?.getD NN).2:=λj e=>by
   rw[qe,qe,qT,qT,qd e];exact⟨i0,i0⟩
  by_cases h0:i=0
  ·rw[g9 h0];rfl
  ·rw[hU h0,vx,vx,(g i a).1,(g i a).2,(g (i-1) i4).1,(g (i-1) i4).2];rw[qd a,qd (show i-1<ii T by omega)];obtain⟨p,o,a3⟩:=k _ (qg a);obtain⟨r,n,m⟩:=k _ (qg (show i-1<ii T by omega));unfold oV;simp only[Option.getD_some];have c:=abQ T[i].1 (T[i-1]'(by omega)).1;rw[p,o,a3,r,n,m]at c;by_cases b:mA T[i].1 (T[i-1]'(by omega)).1=0
   ·rw[hU λh=>h b,g9 (c.1 b)];rfl
   ·rw[g9 b,hU λq=>b (c.2 q)];rfl
 have f:(qy T.length).filter (kT (T.map qH))=(qy T.length).filter (rj (T.map zJ)):=List.filter_congr λi a=>l i (qJ.1 a);refine⟨?_,?_,λt d=>?_⟩
 ·unfold Fh cpt kU;rw[qz,f,w6];congr 1;funext i;exact(getD_map qH T i NN).symm
 ·unfold Fh rk;rw[qz,w6];congr 1;funext i;exact(getD_map zJ T i NN).symm
 ·unfold Fh at d;obtain⟨i,a,rfl⟩:=qu.1 d;have:=qJ.1 (qI.1 a).1;rw[getD_lt this];exact qg this
end Wl
namespace Go.Qw
open Go Go.Vc Go.Proofs Wl
theorem RX(a pw:eX)(d:bt)(s b:Sl)(x:bU)(m:aG)(h:f8)(H:cx h a 156 (fo pw d s b))(hl:fR h s 1 aF d.l)(ok:gE d)(hx:df h x m)(hz:cS m):
  ac xB 130 #[xt (dB a),fw x] h λv h'=>∃(r:Sl) (T:List (bJ×dm)),v=r/\T.map zJ=eZ m d.l/\Keyed T/\Sp h h' [cR r (T.map qH),tR T]:=by
 refine Lx (dB a) x ?_;unfold DB;have Z:=ok.len;have O:=ok.room;refine(Sp.refl h).boxed λu h1 I=>?_;have I:Sp h h1 [au u 44 (aV x)]:=I;refine(LL s b (H.aj I.aj H.lt) (hl.up I.aj) ok).mono ?_;rintro _ h2 ⟨F,rfl,R2⟩;have M:=I.co R2;obtain⟨rs,M⟩:=aa.agE M λ_=>rfl;refine⟨F,i0,?_⟩;have F2:=M.eV 0 i0;have am:=F2.1.len;have ab:=F2.2.1;have E:Sp h h2 [cR ⟨eH,0,0⟩ [],tR [],cO (oY 1 aF) 1 bw F rs d.l,au u 44 (aV x)]:=
  ((M.comp (.one (A:=tR []) (be.refl _ _) λt f=>(by cases f))).nil 170 8 bT).cG [3,2,0,1]
 refine aA (λt:Sl×Nat×List (bJ×dm)=>(t.1,(t.2.1:Int)-1)) (λt h'=>t.2.1<=ii d.l/\t.2.2.length<=t.2.1/\Keyed t.2.2/\t.2.2.map zJ=(d.l.take t.2.1).filterMap (jq m)/\Sp h h' [cR t.1 (t.2.2.map qH),tR t.2.2,cO (oY 1 aF) 1 bw F rs d.l,au u 44 (aV x)]) (λt=>ii d.l-t.2.1) (⟨eH,0,0⟩,0,[]) i0 ⟨i9,i9,(λt f=>(by cases f)),i9,E⟩ ?_;rintro⟨o,i,T⟩ h3 ⟨hi,ao,L,k,E⟩;dsimp only at*;have ei:qc xx ((i:Int)-1+1)=(i:Int):=j3
 rw[ei];refine ai (λe=>?_) (λe=>?_)
 ·have Y:i=ii d.l:=i4
  subst Y;rw[qY]at k;refine(NL (T.map qH) oi E).mono ?_;rintro _ h4 ⟨rfl,H4⟩;obtain⟨s1,s2,s3⟩:=Zs L;rw[<-s1]at H4;refine⟨(),i0,(LP _ (by rw[qz,List.length_mergeSort];omega) H4).mono ?_⟩;rintro _ h5 ⟨r5,rfl,H5⟩;obtain⟨c1,c2,c3⟩:=abV s3;rw[<-c1]at H5;refine⟨r5,i0,r5,Fh (T.mergeSort QQ),i0,?_,λt f=>s3 t (c3 t f),?_⟩
  ·have hr:eZ m d.l=(Fh (T.mergeSort QQ)).map zJ:=by unfold eZ;rw[<-k,c2,s2]
   exact hr.symm
  ·exact(H5.fZ 1 i0 (D:=tR (Fh (T.mergeSort QQ))) λq z t f=>z t (yM.1 (c3 t f))).cG [0,1]
 ·have B:i<ii d.l:=i4
  have g:=YR m d.l i B;have next:∀{h':f8} {w:Sl} {T':List (bJ×dm)},ii T'<=i+1->Keyed T'->T'.map zJ=(d.l.take (i+1)).filterMap (jq m)->Sp h h' [cR w (T'.map qH),tR T',cO (oY 1 aF) 1 bw F rs d.l,au u 44 (aV x)]->
    ∃j:Sl×Nat×List (bJ×dm),((⟨w.ptr,w.len,w.cap⟩:Sl),(i:Int))=(j.1,(j.2.1:Int)-1)/\(j.2.1<=ii d.l/\j.2.2.length<=j.2.1/\Keyed j.2.2/\j.2.2.map zJ=(d.l.take j.2.1).filterMap (jq m)/\Sp h h' [cR j.1 (j.2.2.map qH),tR j.2.2,cO (oY 1 aF) 1 bw F rs d.l,au u 44 (aV x)])/\d.l.length-j.2.1<ii d.l-i:=λ{h' w T'} q1 q2 q3 q4=>
   ⟨(w,i+1,T'),by dsimp only;congr 1;omega,⟨i6,q1,q2,q3,q4⟩,i6⟩
  refine bj ?_;refine(E.eV 2 i0).1.mq i i0 i4 ?_;obtain⟨p,X⟩:=Fix.row (E.eV 2 rfl) B;obtain⟨c,hc⟩:∃c,c=d.l[i]:=⟨_,rfl⟩
  rw[<-hc]at p g;have ad:ii c=64:=by rw[hc];exact ok.cell _ (qg B)
  refine(Us (rs[i]'(by omega)) c h3 p i4 X).mono ?_;rintro _ h6 ⟨y,rfl,Q0,Q1⟩;refine⟨(y,(eC c).isSome),i0,?_⟩;dsimp only;cases htr:eC c with
  |none=>
   have K:jq m c=eH:=by unfold jq;rw[htr]
   rw[K,Option.toList_none,qO]at g;have N:=E.up (Q0 htr).aj;refine N.alloc af i0 λa9 h7 W=>?_;refine W.storeAll af 4 i0 i0 (bT y) i0 i0 i0 i0 λh8 n=>bC (λe=>j0) λ_=>?_;exact next i4 L (by rw[k,g]) (n.cG [0,1,2,3])
  |some r=>
   have N:=E.co (Q1 r htr);refine N.alloc af i0 λa9 h7 W=>?_;refine W.storeAll af 5 i0 i0 (bT y) i0 i0 i0 i0 λh8 n=>bC (λ_=>?_) λe=>j0
   have n:Sp h h8 [EA fx y r,cR o (T.map qH),tR T,cO (oY 1 aF) 1 bw F rs d.l,au u 44 (aV x),au a9 170 (bT y)]:=n;have U:=n.eAt 0 i0;have P:aq h8 u 0 (aV x):=(n.box 4 i0).aU _ i0;have R:aq h8 a9 0 (bT y):=(n.box 5 i0).aU _ i0;have V:=WA x m y r h8 (hx.up n.aj) hz U;refine⟨x,P,y,R,V.mono ?_⟩;rintro _ h9 ⟨rfl,R9⟩;have Q:Sp h h9 [EA fx y r,cR o (T.map qH),tR T,cO (oY 1 aF) 1 bw F rs d.l,au u 44 (aV x),au a9 170 (bT y)]:=n.up R9.aj;refine⟨_,i0,bC (λe2=>?_) λe2=>?_⟩
   ·have K:jq m c=dB r:=by unfold jq;rw[htr];exact f9 e2
    rw[K,Option.toList_some]at g;refine⟨y,(Q.box 5 i0).aU _ i0,?_⟩;refine Q.push af 1 i0 aiU i0 i5 (λ_=>rfl) ahw y j1 i5 oi λw ah J=>?_;have G:=(J.eAt 0 i0).1;have S:=J.merge 2 0 i5 i0 i0 (D:=tR (T++[(y,r)])) (λq1 q2 _ p1 p2 t f=>by
     rcases qA.1 f with f|f
     ·exact fx.mono (p1 t f) λ_ H=>.inl H
     ·rw[qC.1 f];exact fx.mono p2 λ_ H=>.inr H)
    refine next (T':=T++[(y,r)]) i7 (λt f=>?_) (by rw[qU,k,g];rfl) ?_
    ·rcases qA.1 f with f|f
     ·exact L t f
     ·rw[qC.1 f];exact⟨G.1,G.2.1,G.2.2.1⟩
    ·rw[qU];exact S.cG [1,2,3,4]
   ·have K:jq m c=eH:=by unfold jq;rw[htr];exact g0 (by rw[e2];simp)
    rw[K,Option.toList_none,qO]at g;exact next i4 L (by rw[k,g]) (Q.cG [1,2,3,4])
theorem IA(a pw:eX)(d:bt)(s b:Sl)(x:bU)(m:aG)(h:f8)(o:cx h a 156 (fo pw d s b))(n:fR h s 1 aF d.l)(ok:gE d)(u:df h x m)(p:cS m):
  ac xB 130 #[xt (dB a),fw x] h λv h'=>∃(r:Sl) (z:List bJ),v=r/\Sp h h' [cO fx 8 bT r z (eZ m d.l)]:=by
 refine(RX a pw d s b x m h o n ok u p).mono ?_;rintro _ h' ⟨r,T,rfl,y,_,H⟩;refine⟨r,T.map qH,i0,?_⟩;have g:=(H.freeze 0 i0 λ_=>rfl).mj;have i:aa _ _ _ (cO fx 8 bT r (T.map qH) (eZ m d.l)::_):=g.fZ 0 i0 λq ⟨B,D,_,b,c,w,k⟩=>by
  rw[<-y];refine⟨Seq.mono k c,i9,λj A l' e f=>?_⟩;rw[qT]at e f;cases g3:T[j]? with
  |none=>rw[g3]at e;cases e
  |some t=>
   rw[g3]at e f;simp at e f;subst e;subst f;exact fx.mono (w t (ya g3)) b
 exact i.cG [0]
end Go.Qw
namespace Go.Vc
open Go Wl
def bv(l:aC)(k:Nat):aC:=((qy k).map λi:Nat=>(i:Int)).filter λi=>decide (0<l.getD i.toNat 0)
def eO(l:aC):aC×Bool:=
 if l.all (fq · 0 512)then(bv l l.length,decide (ii l<=64)&&decide (0<ii (bv l l.length)))else([],eR)
theorem Gv(l:aC)(k:Nat)(a:k<ii l):bv l (k+1)=bv l k++if 0<l[k]then[(k:Int)]else[]:=by unfold bv;rw[zQ,qU,zm];congr 1;simp only[List.map_cons,List.map_nil,zq,vf,ql,qe,qd a,Option.getD_some];by_cases h:0<l[k]<;>simp[h]
theorem rX(l:aC)(k:Nat):ii (bv l k)<=k:=by unfold bv;exact zf (qR _ _) i9
end Go.Vc
namespace Go.Qw
open Go Go.Vc Go.Proofs Wl
section
theorem oy(s:Sl)(l:aC)(h:f8)(m:Rd h s 1 av l)(B:ii l<=2^20):
  ac xB 39 #[s] h λv h'=>∃r:Sl,v=.tuple #[r,xv (eO l).2]/\Sp h h' [ak 3 r 1 av (eO l).1]:=by
 refine Lt s ?_;unfold Ds;have A:=m.len;have q:Sp h h [ak 3 ⟨eH,0,0⟩ 1 av (bv l 0)]:=(Sp.refl h).nil 3 1 av;refine aA (λt:Sl×Nat=>(t.1,(t.2:Int))) (λt h'=>t.2<=ii l/\(l.take t.2).all (fq · 0 512)=eL/\Sp h h' [ak 3 t.1 1 av (bv l t.2)]) (λt=>ii l-t.2) (⟨eH,0,0⟩,0) i0 ⟨i9,i9,q⟩ ?_;rintro⟨o,i⟩ F ⟨E,b,f⟩;dsimp only at*;have d:∀(a:i<ii l),fq l[i] 0 512=eR->eO l=([],eR):=λa g=>by
  unfold eO;rw[g0];intro x;have:=q9.1 x _ (qg a);rw[g]at this;cases this
 refine ai (λe=>?_) (λe=>?_)
 ·have a:i<ii l:=i4
  have p:=rX l i;refine(Seq.up m f.aj).bH i i0 a l[i] i0 ?_;refine bj (ai (λk=>?_) λk=>ai (λe2=>?_) λe2=>?_)
  ·have g:=d a n7;rw[g];exact⟨⟨eH,0,0⟩,i0,(f.cG []).nil 3 1 av⟩
  ·have g:=d a n7;rw[g];exact⟨⟨eH,0,0⟩,i0,(f.cG []).nil 3 1 av⟩
  ·have c:(l.take (i+1)).all (fq · 0 512)=eL:=by rw[aK l i a,yS,b,wg,List.all_cons,List.all_nil,Bool.and_true];unfold fq;simp;omega
   refine ai (λu=>?_) (λu=>?_)
   ·refine f.push af 0 i0 gN i0 i5 (λ_=>rfl) fD (i:Int) i0 i5 i4 λn D z=>?_;refine⟨(n,i+1),jj,⟨i6,c,?_⟩,i6⟩;dsimp only;rw[Gv l i a,f9 i4];exact z
   ·refine⟨(o,i+1),jj,⟨i6,c,?_⟩,i6⟩;dsimp only;rw[Gv l i a,g0 i4,qO];exact f
 ·have j:i=ii l:=i4
  subst j;rw[qY]at b;have w:=(f.own 0 i0).len;have y:eO l=(bv l l.length,decide (ii l<=64)&&decide (0<ii (bv l l.length))):=by unfold eO;rw[f9 b]
  rw[y];refine ai (λk=>⟨o,?_,f⟩) (λk=>⟨o,?_,f⟩)
  ·dsimp only;rw[g9 (show l.length<=64 by omega),wg];congr 4;refine congrArg Value.bool ?_;rw[decide_eq_decide];omega
  ·dsimp only;rw[hU (show¬ii l<=64 by omega),Bool.false_and]
end
section
variable {B:aD} {h0 h:f8} {As:List HP} {a pw:eX} {offs:Int} {da:List aO} {w:Pow} {ds:aJ}
theorem fE(x:bU)(m:aG)(b:df h x m)(g:cS m)(H:aa B h0 h (bp bz a pw (aV x) offs da w ds::As)):
  ac xB 25 #[xt (dB a)] h λv h'=>∃r:Sl,v=r/\Sp h h' [ak 3 r 1 av (aT ds m.drives)]:=by
 refine EN (dB a) ?_;unfold ug;obtain⟨ok,f⟩:=aa.dh H;have c:=g.dr;refine bC (λe=>j0) λ_=>⟨a,i0,x.2.2.2.2.2.2.1,f.cell i0,(NI _ m.drives b.drives i4 H).mono ?_⟩;rintro _ i ⟨r,rfl,d⟩;exact⟨r,i0,r,i0,d⟩
theorem DW(x:bU)(m:aG)(k:df h x m)(j:cS m)(H:aa B h0 h (bp bz a pw (aV x) offs da w ds::As)):
  ac xB 16 #[xt (dB a)] h λv h'=>∃y:bU,v=fw y/\Sp h h' [cj y m]:=by
 refine nu (dB a) ?_;unfold lu;obtain⟨ok,d⟩:=aa.dh H;refine(Sp.refl h).alloc af i0 λo l b=>?_;have c:=d.aj b.aj d.lt;refine bC (λe=>j0) λ_=>⟨a,i0,x,c.aU _ i0,(NH x m l (k.up b.aj) j).mono ?_⟩;rintro _ n ⟨y,rfl,i⟩;have g:=b.comp i;refine⟨y,i0,?_⟩;refine g.store af 0 i0 i0 0 (aV y) i0 i0 i0 j9 λh3 f=>?_;exact⟨y,(f.box 0 i0).aU _ i0,y,i0,f.cG [1]⟩
end
end Go.Qw
namespace Go.Vc
open Go Wl
def eF(w:Pow)(offs:Int):Bool:=w.off||w.offs !=offs
end Go.Vc
namespace Go.Qw
open Go Go.Vc Go.Proofs Wl
section
variable {B:aD} {h0 h:f8} {As:List HP} {a pw:eX} {mc:bg} {offs:Int} {da:List aO} {w:Pow} {ds:aJ}
theorem aa.ahx(H:aa B h0 h (bp bz a pw mc offs da w ds::As)):∃l,NE w l/\cx h pw 92 (powC w l):=by obtain⟨ok,c⟩:=Go.Vc.aa.pq H;have b:=c.rest;obtain⟨l,e,d⟩:=aa.DS b;exact⟨l,e,d.box 0 i0⟩
theorem tf(H:aa B h0 h (bp bz a pw mc offs da w ds::As)):
  ac xB 57 #[xt (dB a)] h λv h'=>v=xv (eF w offs)/\h'=h:=by
 refine ER (dB a) ?_;unfold uk;obtain⟨ok,d⟩:=aa.dh H;obtain⟨l,i,f⟩:=aa.ahx H;have c:f7 h (a.add 8)=dB (xt (dB pw)):=d.cell (Ut ok.l8);have g:f7 h (a.add 9)=dB (xq xx offs):=d.cell (Zp ok.l8);refine bC (λ_=>?_) (λe=>j0);refine⟨a,i0,dB pw,c,(JH l f).mono ?_⟩;rintro _ _ ⟨rfl,rfl⟩;refine⟨_,i0,trivial,bo (λe=>⟨trivial,?_⟩) λe=>?_⟩
 ·have b:w.off=eL:=mn
  exact⟨by unfold eF;rw[b];rfl,i0⟩
 ·have b:w.off=eR:=mn
  refine⟨a,i0,dB pw,c,a,i0,offs,g,(QL l f).mono ?_⟩;rintro _ _ ⟨rfl,rfl⟩;exact⟨_,i0,⟨g,trivial⟩,by unfold eF;rw[b];rfl,i0⟩
theorem RY(H:aa B h0 h (bp bz a pw mc offs da w ds::As)):
  ac xB 90 #[xt (dB a)] h λv h'=>v=xt (dB pw)/\h'=h:=by
 refine Dw (dB a) ?_;unfold sE;obtain⟨ok,b⟩:=aa.dh H;exact bC (λe=>j0) λ_=>⟨a,i0,dB pw,b.cell (Ut ok.l8),i0,i0⟩
end
end Go.Qw
namespace Go.Vc
open Go Wl
section
variable {k:Kit} {B:aD} {h0 h:f8} {As:List HP} {a pw:eX} {mc:bg} {offs:Int} {w:Pow}
theorem aa.aiY(H:aa B h0 h As):∀n,aa B h0 h (qh n emp++As)
 |0=>H
 |n+1=>(((aa.aiY H n).comp (.one (A:=emp) (be.refl _ _) trivial)).bA:aa B h0 h (emp::(qh n emp++As)))
theorem aa.abW(h8:ii mc=8)(H:aa B h0 h (au a k.tS (cT mc pw offs (qh 64 eH))::dn k.tP pw w::As)):aa B h0 h (bp k a pw mc offs (qh 64 eH) w (qh 64 eH)::As):=by
 have ok:gh mc (qh 64 eH) (qh 64 (eH:Option bt)):=⟨h8,i9,i9,λi=>by
  simp only[qe,we];split<;>rfl⟩
 have f:gc k pw (qh 64 eH) (qh 64 (eH:Option bt))=qh 64 emp:=by simp[gc,aiW]
 refine aa.pT ok ?_;rw[f];have e:=aa.aiY H 64;refine e.pick (λi=>if i=0 then 64 else if i=1 then 65 else if i<66 then i-2 else i) (λx y b=>by(try dsimp only at b);split at b<;>split at b<;>(try split at b)<;>(try split at b)<;>(try split at b)<;>(try split at b)<;>omega) λi A d=>?_;rcases i with _|_|i
 ·simpa using d
 ·simpa using d
 ·by_cases g:i<64
  ·have c:(qh 64 emp++As)[i]?=dB A:=d;rw[qo m4]at c
   try dsimp only
   rw[g0 i4,g0 i4,f9 i4,qo i7];simpa using c
  ·have c:(qh 64 emp++As)[i]?=dB A:=d;rw[qj i7]at c
   try dsimp only
   rw[g0 i4,g0 i4,g0 i4,qj i7];simp only[List.length_replicate]at c⊢;obtain⟨j,rfl⟩:∃j,i=j+64:=⟨i-64,i4⟩
   have e2:j+64+1+1-64=j+1+1:=i4
   rw[e2];simpa using c
end
end Go.Vc
namespace Go.Qw
open Go Go.Vc Go.Proofs Wl
section
theorem abX(x:bU)(pw:eX)(offs:Int):aN xB (Instr.build 84 #[(0,fw x),(1,xt (dB pw)),(2,xq xx offs)]) (xw (cT (aV x) pw offs (qh 64 eH)).toArray):=
 GW af (i:=_) i0 i0 i0 (vs:=[(0,fw x),(1,xt (dB pw)),(2,xq xx offs)]) (cells:=(cT (aV x) pw offs (qh 64 eH)).toArray) j1
end
end Go.Qw
namespace Go.Vc
open Go Wl
section
variable {k:Kit} {B:aD} {h0 h:f8} {As:List HP} {a pw b:eX} {mc:bg} {offs:Int} {da:List aO} {w:Pow} {ds:aJ} {d:bt} {n:Nat}
theorem QR(h8:ii mc=8):(cT mc pw offs da).set (10+n) (xt (dB b))=cT mc pw offs (da.set n (dB b)):=by unfold cT;rw[qV _ _ i4,h8,show 10+n-8=n+1+1 by omega,zw,zw,List.map_set]
theorem aa.ahy(ok:gh mc da ds)(z:n<64)(u:ds[n]?=dB eH)(H:aa B h0 h (au a k.tS (cT mc pw offs (da.set n (dB b)))::dn k.tP pw w::(gc k pw da ds++(iG k.tD (k.f pw) b d::As)))):aa B h0 h (bp k a pw mc offs (da.set n (dB b)) w (ds.set n (dB d))::As):=by
 have p:=ok.abR z u;have s:=ok.la;have m:=ok.ls;have o:gh mc (da.set n (dB b)) (ds.set n (dB d)):=⟨ok.l8,by simp[s],by simp[m],λi=>by
  by_cases c:n=i
  ·subst c;rw[qe,qe,zl i4,zl i4];rfl
  ·have:=ok.same i;rw[qe,qe]at this⊢;rw[zD c,zD c];exact this⟩
 have r:=Fg (k:=k) (pw:=pw) ok;have v:(gc k pw da ds)[n]?=dB emp:=by simp only[gc,wb,p,u];rfl
 have g:gc k pw (da.set n (dB b)) (ds.set n (dB d))=(gc k pw da ds).set n (iG k.tD (k.f pw) b d):=by
  apply zG;intro j;simp only[gc,q7,wb,y6];by_cases l:n=j
  ·subst l;rw[f9 i0,f9 i4,f9 i0,f9 i4,f9 i0,f9 i4];rfl
  ·simp[l]
 refine aa.pT o ?_;rw[g];obtain⟨L,q⟩:∃L,L=gc k pw da ds:=⟨_,rfl⟩
 rw[<-q]at H v r⊢;have x:=H.cons (ii L+2) (A:=iG k.tD (k.f pw) b d) (by
  rw[qw,qw,qj (qm _),zc];rfl)
 have e:(au a k.tS (cT mc pw offs (da.set n (dB b)))::dn k.tP pw w::(L++(iG k.tD (k.f pw) b d::As))).set (ii L+2) emp=au a k.tS (cT mc pw offs (da.set n (dB b)))::dn k.tP pw w::(L++(emp::As)):=by rw[zw,zw,qV _ _ (qm _),zc];rfl
 rw[e]at x;have y:=x.aX 3 [0,2,1];have t:L.set n emp=L:=by
  obtain⟨F,D⟩:=qn.1 v
  conv=>lhs;rw[<-D]
  exact List.set_getElem_self F
 have I:aa B h0 h (iG k.tD (k.f pw) b d::dn k.tP pw w::au a k.tS (cT mc pw offs (da.set n (dB b)))::(L.set n emp++(emp::As))):=by rw[t];exact y
 have G:=aa.JJ n i4 I;have E:=aa.closeAll (au a k.tS (cT mc pw offs (da.set n (dB b)))::dn k.tP pw w::L.set n (iG k.tD (k.f pw) b d)) G;exact aa.pu (L:=au a k.tS (cT mc pw offs (da.set n (dB b)))::dn k.tP pw w::L.set n (iG k.tD (k.f pw) b d)) E.re
end
open Go Wl Go.Qw
def cH(p:Pm)(extra:Int)(l:aC):aG:=⟨1,0,p,extra,bv l l.length,[]⟩
def iz(l:aC)(k:Nat):aJ:=(qy 64).map λi:Nat=>if(i:Int)∈(bv l l.length).take k then dB (bt.new (l.getD i 0).toNat)else eH
def gd(p:Pm)(extra:Int)(w:Pow)(l:aC):Int×Pow×aJ:=
 if(eO l).2&&(bP p&&fq extra 0 16)then
  if(bv l l.length).any λi=>decide (l.getD i.toNat 0<(ii (bu (cH p extra l)):Int))then(7,w,[])
  else layAll (bM (cH p extra l) (bv l l.length)) w (iz l (bv l l.length).length)
 else(1,w,[])
theorem Uy(l:aC):iz l 0=qh 64 eH:=by
 unfold iz;rw[List.take_zero];apply zG;intro j;simp only[qT,we,zu,List.not_mem_nil,if_false];by_cases h:j<64
 ·simp[h,zu]
 ·simp[h]
theorem WB(l:aC)(k:Nat):ii (iz l k)=64:=by simp[iz]
theorem Uz(l:aC)(k n:Nat)(d:k<ii (bv l l.length))(e:(bv l l.length)[k]=(n:Int))(b:n<64):(iz l k).set n (dB (bt.new (l.getD n 0).toNat))=iz l (k+1):=by
 apply zG;intro j;unfold iz;rw[aK _ _ d,e,q7,qz,zE];by_cases c:j<64
 ·simp only[qT,zu c,qZ,qA,qC];by_cases a:n=j
  ·subst a;rw[f9 i0,f9 b,f9 (Or.inr i0)]
  ·rw[g0 a];have:¬(j:Int)=(n:Int):=i4
   simp only[this,or_false]
 ·rw[g0 i4];rw[qQ i7,qQ i7]
theorem AU(l:aC)(k:Nat)(x:Int):x∈bv l k↔∃n:Nat,n<k/\x=(n:Int)/\0<l.getD n 0:=by
 unfold bv;rw[qI,qu];constructor
 ·rintro⟨⟨n,b,rfl⟩,a⟩;exact⟨n,qJ.1 b,i0,j8⟩
 ·rintro⟨n,b,rfl,a⟩;exact⟨⟨n,qJ.2 b,i0⟩,j8⟩
theorem WC(l:aC)(k i:Nat)(a:i<ii (bv l k)):∃n:Nat,n<k/\(bv l k)[i]=(n:Int)/\0<l.getD n 0:=(AU l k _).1 (qg a)
end Go.Vc
namespace Wl
open Go
def gy(p:Int×Int×Int):Nat:=(p.1*p.2.2).toNat
def Fi(a:Nat)(b:bf)(i:Nat):bf:=(b.drop (i*a)).take a++(qh a 0).drop (b.drop (i*a)).length
theorem QS(a:Nat)(b:bf)(i:Nat):ii (Fi a b i)=a:=by unfold Fi;simp;omega
def splitB(p:Int×Int×Int)(b:bf):cL:=(qy (countP p b.length).toNat).map (Fi (gy p) b)
def NO(p:Int×Int×Int)(o b:Int)(n:Nat):Bool:=gC p (cz o b n) (fV p)
def rY(p:Int×Int×Int)(o b:Int):Option Nat:=(qy 16).find? (NO p o b)
def di(p:Int×Int×Int)(o:Int):Nat->Option (aC)
 |0=>dB []
 |n+1=>(di p o n).bind λl=>(rY p o n).map λt=>l++[(t:Int)]
theorem kV{p:Int×Int×Int}{o:Int}:∀{n:Nat} {l:aC},di p o n=dB l->ii l=n
 |0,l,h=>by cases h;rfl
 |n+1,l,h=>by
  unfold di at h;cases h1:di p o n with
  |none=>rw[h1]at h;cases h
  |some k=>
   rw[h1]at h;cases h2:rY p o n with
   |none=>rw[h2]at h;cases h
   |some t=>
    rw[h2]at h;have h:dB (k++[(t:Int)])=dB l:=h;injection h with h
    rw[<-h,qx,kV h1];rfl
theorem IB{p:Int×Int×Int}{o b:Int}{t:Nat}(h:rY p o b=dB t):t<16/\NO p o b t=eL/\∀k,k<t->NO p o b k=eR:=by
 unfold rY at h;obtain⟨e,us,vs,c,h3⟩:=List.find?_eq_some_iff_append.1 h;have d:=congrArg vV c;have g:t=ii us:=by
  have:(qy 16)[ii us]?=dB t:=by rw[c,qj (qm _),zc];rfl
  rw[zu k7]at this;injection this with this;exact this.symm
 refine⟨k7,e,λk f=>?_⟩;have a:k∈us:=by
  have:(qy 16)[k]?=us[k]?:=by rw[c,qo i4]
  rw[zu k7]at this;exact ya this.symm
 simpa using h3 k a
theorem Ch{p:Int×Int×Int}{o:Int}:∀{n:Nat} {l:aC},di p o n=dB l->∀i (b:i<ii l),∃t:Nat,l[i]=(t:Int)/\rY p o i=dB t
 |0,l,h=>by cases h;intro i b;simp at b
 |n+1,l,h=>by
  unfold di at h;cases h1:di p o n with
  |none=>rw[h1]at h;cases h
  |some k=>
   rw[h1]at h;cases h2:rY p o n with
   |none=>rw[h2]at h;cases h
   |some t=>
    rw[h2]at h;have h:dB (k++[(t:Int)])=dB l:=h;injection h with h
    subst h;intro i b;have c:=kV h1;by_cases a:i<ii k
    ·rw[List.getElem_append_left a];exact Ch h1 i a
    ·have:i=ii k:=by simp at b;omega
     subst this;refine⟨t,i9,?_⟩;rw[c];exact h2
end Wl
namespace Go.Qw
open Go Go.Vc Go.Proofs Wl
theorem QU(p:Pm)(h:f8)(c:bP p=eL):ac xB 106 #[kS p] h λv h'=>v=xq xx (gy p)/\Sp h h' []:=by
 have b:=(cu p).1 c;refine Dz p ?_;unfold AF;refine(Sp.refl h).boxed λf h3 a=>⟨p.1,(a.box 0 i0).cell0 i0,p.2.2,(a.box 0 i0).cell i0,?_,a.cG []⟩
 have e:p.1*p.2.2<=16*24:=yw i4 i4 i4 i4;have d:0<=p.1*p.2.2:=vN i4 i4;rw[al _];unfold gy;congr 1;omega
theorem rZ{p:Pm}(b:bP p=eL):1<=gy p/\gy p<=384/\(gy p:Int)=p.1*p.2.2:=by have a:=(cu p).1 b;have d:p.1*p.2.2<=16*24:=yw i4 i4 i4 i4;have c:0<p.1*p.2.2:=Int.mul_pos i4 i4;unfold gy;omega
theorem mL{p:Pm}(a:bP p=eL)(n:Nat):0<=countP p n/\countP p n<=n/\∀i:Nat,(i:Int)<countP p n->i*gy p<n:=by
 obtain⟨h,j,b⟩:=rZ a;unfold countP;rw[a,wg];by_cases h0:0<(n:Int)
 ·rw[g9 h0,f9 i0,<-b];have g:((n:Int)-1)/(gy p:Int)<=n-1:=Int.ediv_le_self _ i4;have e:0<=((n:Int)-1)/(gy p:Int):=Int.ediv_nonneg i4 i4;refine⟨i4,i4,λi c=>?_⟩;have h3:(i:Int)<=((n:Int)-1)/(gy p:Int):=i4
  have f:=(Int.le_ediv_iff_mul_le i4).1 h3;have d:((i*gy p:Nat):Int)=(i:Int)*(gy p:Int):=wM i (gy p);omega
 ·rw[hU h0,g0 i5];exact⟨i4,i4,λi c=>i4⟩
theorem WD(p:Pm)(s:Sl)(b:bf)(h:f8)(g:bP p=eL)(q:Rd h s 1 aF b)(J:s.len<=s.cap)(R:ii b<=2^30):ac xB 107 #[kS p,s] h λv h'=>∃r:Sl,v=r/\Sp h h' [eE r (splitB p b)]:=by
 refine Ng p s ?_;unfold Gb;have d:=q.len;obtain⟨V,Y,W⟩:=rZ g;obtain⟨Q,U,c3⟩:=mL g b.length;refine(Sp.refl h).boxed λk I m=>?_;refine⟨p,(m.box 0 i0).aU _ i0,?_⟩;refine(Fb p s.len I).mono ?_;rintro _ E ⟨rfl,F⟩;have u:=m.up F.aj;refine⟨_,i0,?_⟩;obtain⟨n,A⟩:∃n:Nat,n=(countP p b.length).toNat:=⟨_,rfl⟩
 have c:(countP p (s.len:Nat))=(n:Int):=by rw[d];omega
 rw[c];have z:ii (splitB p b)=n:=by unfold splitB;rw[<-A];simp
 have a:Sp h E [eE ⟨eH,0,0⟩ ((splitB p b).take 0),au k 24 [xq xx p.1,xq xx p.2.1,xq xx p.2.2]]:=u.Cz 34 5 1 aF;refine aA (λt:Sl×Nat=>(t.1,(t.2:Int))) (λt h'=>t.2<=n/\Sp h h' [eE t.1 ((splitB p b).take t.2),au k 24 [xq xx p.1,xq xx p.2.1,xq xx p.2.2]]) (λt=>n-t.2) (⟨eH,0,0⟩,0) i0 ⟨i9,a⟩ ?_;rintro⟨o,i⟩ h3 ⟨T,a⟩;dsimp only at*;refine ai (λe=>?_) (λe=>?_)
 ·have B:i<n:=i4
  have K:=c3 i (by rw[<-d,c];omega);refine⟨p,(a.box 1 i0).aU _ i0,(QU p h3 g).mono ?_⟩;rintro _ S ⟨rfl,H⟩;have N:=a.up H.aj;refine⟨_,i0,N.Sz af aF hJ i5 (0:UInt8) i0 i0 (gy p) (gy p) i0 i0 (qm _) i4 λv L O X f=>?_⟩;have f:=f.bA;refine⟨p,(f.box 2 i0).aU _ i0,(QU p L g).mono ?_⟩;rintro _ P ⟨rfl,M⟩;have l:=f.up M.aj;refine⟨_,i0,?_⟩;have em:qc xx ((i:Int)*(gy p:Int))=((i*gy p:Nat):Int):=by rw[<-wM,al _]
  dsimp only;rw[em,ql];refine⟨⟨i4,i4⟩,?_⟩;have x:=(Seq.up q l.aj).drop (i*gy p) J;refine l.Mu af 0 i0 hJ (λ_=>rfl) (v:=⟨_,s.len-i*gy p,s.cap-i*gy p⟩) x iM λ_ w j=>?_;have j:Sp h w [ak 5 v 1 aF (Fi (gy p) b i),eE o ((splitB p b).take i),au k 24 [xq xx p.1,xq xx p.2.1,xq xx p.2.2]]:=by simpa[Fi]using j
  refine(j.aX 2 [1,0]).Jr af fL i7 λy h8 G=>?_;refine⟨(y,i+1),jj,⟨i6,?_⟩,i6⟩;dsimp only;rw[aK _ _ (show i<ii (splitB p b) by omega)];have D:(splitB p b)[i]'(by omega)=Fi (gy p) b i:=by simp[splitB]
  rw[D];exact G
 ·rw[qi i4]at a;exact⟨o,i0,a.cG [0]⟩
theorem nE(a b:UInt8):qc xy ((qD (qk xy) (a.toNat:Int)^^^qD (qk xy) (b.toNat:Int)).toNat:Nat)=((a^^^b).toNat:Int):=by
 have e:∀a:UInt8,qD (qk xy) (a.toNat:Int)=a.toBitVec:=λa=>by
  apply BitVec.eq_of_toNat_eq;have:=wY a;simp[qk]
 rw[e,e];have c:=(a.toBitVec^^^b.toBitVec).isLt;have:((a^^^b).toNat:Int)=((a.toBitVec^^^b.toBitVec).toNat:Int):=rfl;rw[this];show(((a.toBitVec^^^b.toBitVec).toNat:Nat):Int)%256=_;have:(a.toBitVec^^^b.toBitVec).toNat<256:=c;omega
def tri(a:UInt8):Nat->Int×Int×Int
 |0=>((a.toNat:Int),(3:Int),(0:Int))
 |1=>(((Gf.x2 a).toNat:Int),(1:Int),(a.toNat:Int))
 |_=>(((Gf.x2 (Gf.x2 a)).toNat:Int),(0:Int),((Gf.x3 a).toNat:Int))
theorem WE(a:UInt8)(h:f8):ac xB 205 #[xq xy a.toNat,xq xy 3] h λv h'=>v=xq xy (Gf.x3 a).toNat/\h'=h:=by
 have e:∀n:Nat,n<256->
   ((qc xy ((qD (qk xy) (n:Int)&&&(qD (qk xy) (128:Int))).toNat:Nat)) !=(0:Int))=eL->qc xy ((qD (qk xy) (qc xy ((n:Int)*2^min (1:Int).toNat (qk xy)))^^^(qD (qk xy) (27:Int))).toNat:Nat)=((Gf.x2 (yH n)).toNat:Int):=j4
 have c:∀n:Nat,n<256->
   ((qc xy ((qD (qk xy) (n:Int)&&&(qD (qk xy) (128:Int))).toNat:Nat)) !=(0:Int))=eR->qc xy ((n:Int)*2^min (1:Int).toNat (qk xy))=((Gf.x2 (yH n)).toNat:Int):=j4
 refine Ul _ _ ?_;unfold Nv;refine aA (tri a) (λt h'=>h'=h/\t<=2) (λt=>2-t) 0 i0 ⟨i0,i4⟩ ?_;rintro t h' ⟨rfl,f⟩;rcases(show t=0∨t=1∨t=2 by omega)with rfl|rfl|rfl
 ·rw[show tri a 0=((a.toNat:Int),(3:Int),(0:Int))from rfl];dsimp only;refine Af i5 (bj (GS i5 ?_));refine⟨i5,bj ?_⟩;refine bC (λd=>?_) (λd=>?_)
  ·rw[e _ (wY a) d,yX];refine⟨i5,1,?_,⟨i0,i5⟩,i5⟩;have:=nE 0 a;simp only[wx]at this;exact va i0 (va i0 this)
  ·rw[c _ (wY a) d,yX];refine⟨i5,1,?_,⟨i0,i5⟩,i5⟩;have:=nE 0 a;simp only[wx]at this;exact va i0 (va i0 this)
 ·rw[show tri a 1=(((Gf.x2 a).toNat:Int),(1:Int),(a.toNat:Int))from rfl];dsimp only;refine Af i5 (bj (GS i5 ?_));refine⟨i5,bj ?_⟩;refine bC (λd=>?_) (λd=>?_)
  ·rw[e _ (wY (Gf.x2 a)) d,yX];refine⟨i5,2,?_,⟨i0,i5⟩,i5⟩;refine va i0 (va i0 ?_);have:=nE a (Gf.x2 a);rw[vm]at this;exact this
  ·rw[c _ (wY (Gf.x2 a)) d,yX];refine⟨i5,2,?_,⟨i0,i5⟩,i5⟩;refine va i0 (va i0 ?_);have:=nE a (Gf.x2 a);rw[vm]at this;exact this
 ·exact GS (b:=(0:Int)==0) i5 ⟨i0,i0⟩
def jK:aC:=(qy 255).map λi=>((Gf.pw i).toNat:Int)
def th:aC:=(qy 256).map λx=>if x=0 then 0 else((Gf.lg (yH x):Nat):Int)
theorem ir:ii jK=255:=by simp[jK]
theorem AV:ii th=256:=by simp[th]
def dc:bg:=jK.map (Sc.enc (.int .u8))++th.map (Sc.enc (.int .i64))
abbrev fM(h:f8)(a:eX):Prop:=cx h a 197 dc
theorem PN(k:IntKind)(l:aC):(l.map (Sc.enc (.int k))).all (·.oneCell')=eL:=by rw[List.all_map,q9];intro x _;rfl
theorem WF(h:f8):ac xB 132 #[] h λv h'=>v=xw (jK.map (Sc.enc (.int .u8))).toArray/\Sp h h' []:=by
 refine RP ?_;unfold Kv;refine(Sp.refl h).alloc af i0 λa t o=>?_;refine aA (λi:Nat=>(((Gf.pw i).toNat:Int),(i:Int))) (λi h'=>i<=255/\Sp h h' [au a 192 (((qy 255).map λj=>if j<i then((Gf.pw j).toNat:Int)else 0).map (Sc.enc (.int .u8)))]) (λi=>255-i) 0 i0 ⟨i4,?_⟩ ?_
 ·have e:((qy 255).map λj=>if j<0 then((Gf.pw j).toNat:Int)else 0).map (Sc.enc (.int .u8))=qh 255 (xq xy 0):=by simp;rfl
  rw[e];exact o
 ·rintro i q ⟨s,f⟩;refine ai (λm=>?_) (λk=>?_)
  ·dsimp only at m;refine⟨⟨i6,i6⟩,?_⟩;dsimp only;rw[show((i:Int).toNat*1)=i by omega];refine f.storeAt af 0 i0 i0 i0 i0 i0 i7 λh3 g=>?_;refine(WE (Gf.pw i) h3).mono ?_;rintro v r ⟨rfl,rfl⟩;refine⟨_,i0,i+1,?_,⟨i4,?_⟩,i4⟩
   ·rw[al _];rfl
   ·have e:((((qy 255).map λj=>if j<i then((Gf.pw j).toNat:Int)else 0).map (Sc.enc (.int .u8))).set i (xq xy (Gf.pw i).toNat))=(((qy 255).map λj=>if j<i+1 then((Gf.pw j).toNat:Int)else 0).map (Sc.enc (.int .u8))):=by
     apply zG;intro j;simp only[q7,qT,qz,zE];by_cases b:i=j
     ·subst b;have:i<255:=i4
      simp[this]
     ·by_cases c:j<255
      ·simp only[b,if_false,zu c,qZ];by_cases d:j<i
       ·rw[f9 d,f9 i4]
       ·rw[g0 d,g0 i4]
      ·simp[b,c]
    rw[<-e];exact g
  ·have l:i=255:=by dsimp only at k;omega
   subst l;have e:((qy 255).map λj=>if j<255 then((Gf.pw j).toNat:Int)else 0)=jK:=by unfold jK;apply List.map_congr_left;intro j b;rw[f9 (qJ.1 b)]
   rw[e]at f;have p:=f.box 0 i0;refine⟨jK,⟨ir,p.aU _ n3⟩,?_⟩;refine f.storeAll af 0 i0 i0 (jK.map (Sc.enc (.int .u8))) i0 (by rw[qz,ir]) (PN _ _) i0 λh3 g=>?_;have n:=g.box 0 i0;exact⟨jK,⟨ir,n.aU _ n3⟩,i0,.zip g.aj⟩
theorem abY(h:f8):ac xB 133 #[xw (jK.map (Sc.enc (.int .u8))).toArray] h λv h'=>v=xw (th.map (Sc.enc (.int .i64))).toArray/\Sp h h' []:=by
 refine Wo jK ?_;unfold QE;refine(Sp.refl h).boxed λa E t=>?_;refine t.alloc af i0 λu B p=>?_;have m:=p.box 0 i0;refine⟨jK,⟨ir,m.aU _ (by show List.take _ (jK.map _)=_;rw[qi (qm _)])⟩,?_⟩;let L:Nat->aC:=λi=>(qy 256).map λx=>if x≠0/\Gf.lg (yH x)<i then((Gf.lg (yH x):Nat):Int)else 0
 refine aA (λi:Nat=>(i:Int)) (λi h'=>i<=255/\Sp h h' [emp,au u 194 ((L i).map (Sc.enc (.int .i64)))]) (λi=>255-i) 0 i0 ⟨i4,?_⟩ ?_
 ·have e:(L 0).map (Sc.enc (.int .i64))=qh 256 (xq xx 0):=by simp[L];rfl
  rw[e];exact p.fZ 0 i0 λ_ _=>trivial
 ·rintro i h3 ⟨D,k⟩;refine ai (λz=>?_) (λs=>?_)
  ·have c:i<255:=i4
   have q:=wY (Gf.pw i);refine⟨((Gf.pw i).toNat:Int),⟨i4,i4,by simp[jK,c]⟩,⟨i4,i4⟩,?_⟩;rw[show(((Gf.pw i).toNat:Int).toNat*1)=(Gf.pw i).toNat by omega];refine k.storeAt af 1 i0 i0 i0 i0 i0 (by simp[L];omega) λw g=>?_;refine⟨i+1,js,⟨i4,?_⟩,i4⟩;have e:((L i).map (Sc.enc (.int .i64))).set (Gf.pw i).toNat (xq xx i)=(L (i+1)).map (Sc.enc (.int .i64)):=by
    apply zG;intro j;simp only[q7,qT,qz,zE,L];by_cases f:(Gf.pw i).toNat=j
    ·subst f;simp only[if_true,zu q,qZ,q];have l:(Gf.pw i).toNat≠0:=λh0=>Gf.YH i c (wL.1 h0);rw[yX,Gf.YG i c,f9 ⟨l,i4⟩]
    ·by_cases d:j<256
     ·simp only[f,if_false,zu d,qZ];by_cases b:j=0
      ·simp[b]
      ·have A:Gf.lg (yH j)≠i:=λh0=>by
        apply f;rw[<-h0,Gf.YF _ λy=>b (by have:=congrArg UInt8.toNat y;simpa[wc d]using this)];simp[wc d]
       by_cases n:Gf.lg (yH j)<i
       ·rw[f9 ⟨b,n⟩,f9 ⟨b,i4⟩]
       ·rw[g0 λr=>n r.2,g0 λr=>n i4]
     ·simp[f,d]
   rw[<-e];exact g
  ·have c:i=255:=i4
   subst c;have e:L 255=th:=by
    unfold th;apply List.map_congr_left;intro j f;by_cases b:j=0
    ·simp[b]
    ·rw[f9 ⟨b,Gf.Mx _⟩,g0 b]
   rw[e]at k;have m:=k.box 1 i0;refine⟨th,⟨AV,m.aU _ n3⟩,?_⟩;refine k.storeAll af 1 i0 i0 (th.map (Sc.enc (.int .i64))) i0 (by rw[qz,AV]) (PN _ _) i0 λw g=>?_;have o:=g.box 1 i0;exact⟨th,⟨AV,o.aU _ n3⟩,i0,.zip g.aj⟩
theorem sa(h:f8):ac xB 65 #[] h λv h'=>∃a:eX,v=xt (dB a)/\Sp h h' [au a 197 dc]:=by
 refine Zl ?_;unfold TW;refine(WF h).mono ?_;rintro v t ⟨rfl,q⟩;refine⟨jK,i0,?_⟩;refine q.alloc af i0 λa r m=>?_;refine m.storeAll af 0 i0 i0 (jK.map (Sc.enc (.int .u8))) i0 (by rw[qz,ir]) (PN _ _) (by rw[qz,ir];rfl) λh3 l=>?_;have f:=l.box 0 i0;have d:aq h3 a 0 (jK.map (Sc.enc (.int .u8))):=f.aU _ n3;refine⟨jK,⟨ir,d⟩,jK,⟨ir,d⟩,?_⟩;refine(abY h3).mono ?_;rintro v s ⟨rfl,k⟩;refine⟨th,i0,oz.2 ⟨(k.aj).cells f.lt d,trivial⟩,_,GW af (i:=_) i0 i0 i0 (cells:=dc.toArray) ?_,?_⟩
 ·have b:∀z:bg,ii z=511->wB (λn=>[(0,255),(255,256)][n]?) z.toArray [(0,xw (jK.map (Sc.enc (.int .u8))).toArray),(1,xw (th.map (Sc.enc (.int .i64))).toArray)]=dB dc.toArray:=by
   intro z b;have e:z=[]++z.take 255++z.drop 255:=i9
   conv=>lhs;rw[e]
   rw[Tc (vs:=jK.map (Sc.enc (.int .u8))) i0 (by simp[ir]) (by simp[ir,b])];have e2:[]++jK.map (Sc.enc (.int .u8))++z.drop 255=jK.map (Sc.enc (.int .u8))++z.drop 255++[]:=i9
   rw[e2,Tc (vs:=th.map (Sc.enc (.int .i64))) i0 (by simp[ir,AV]) (by simp[AV,b])];simp[wB,dc]
  exact b _ i0
 ·have o:(Value.agg dc.toArray).cells.toList=dc:=rfl;refine(l.comp k).boxed λp u g=>?_;have c:=g.box 0 i0;exact⟨oz.2 ⟨c.aU _ n3,trivial⟩,p,i0,g.take 1 λi A j=>by cases i with|zero=>exact j|succ i=>simp at j⟩
theorem IC{h:f8}{a:eX}(c:fM h a)(n:Nat)(b:n<255):f7 h (a.add n)=dB (xq xy (Gf.pw n).toNat):=
 c.cell (by rw[dc,qo (by simp[ir,b])];simp[jK,b])
theorem ID{h:f8}{a:eX}(c:fM h a)(x:UInt8)(d:x≠0):f7 h ((a.add 255).add x.toNat)=dB (xq xx (Gf.lg x)):=by
 have f:=c.addr;have e:(a.add 255).add x.toNat=a.add (255+x.toNat):=by rw[f,add_eq,add_eq,add_eq];congr 1;omega
 rw[e];refine c.cell ?_;have b:=wY x;have h0:x.toNat≠0:=λh0=>d (wL.1 h0);rw[dc,qj (by simp[ir])];simp[ir,th,b,h0]
theorem tj(a:eX)(h:f8):ac xB 206 #[xt (dB a)] h λv h'=>v=xt (dB a)/\h'=h:=by refine LC (dB a) ?_;unfold DH;exact Af i0 ⟨i0,i0⟩
theorem uL(a:eX)(h:f8):ac xB 203 #[xt (dB a)] h λv h'=>v=xt (dB a)/\h'=h:=by refine Uk (dB a) ?_;unfold Nu;exact Af i0 ⟨i0,i0⟩
theorem RZ(a:eX)(h:f8):ac xB 302 #[xt (dB a)] h λv h'=>v=xt (dB a)/\h'=h:=by refine Uo (dB a) ?_;unfold NC;exact Af i0 ⟨i0,i0⟩
theorem CU{x:UInt8}:((x.toNat:Int)=0)↔x=0:=⟨λh=>wL.1 j5,λh=>by rw[h];rfl⟩
theorem LQ(a:eX)(x y:UInt8)(h:f8)(d:fM h a):ac xB 280 #[xt (dB a),xq xy x.toNat,xq xy y.toNat] h λv h'=>v=xq xy (Gf.mul x y).toNat/\h'=h:=by
 refine LH (dB a) _ _ ?_;unfold DQ;refine bj ?_;refine cy (λh0=>⟨by rw[Gf.mul,f9 (.inl (CU.1 h0))];rfl,i0⟩) λg=>?_;refine cy (λh0=>⟨by rw[Gf.mul,f9 (.inr (CU.1 h0))];rfl,i0⟩) λi=>?_;have c:x≠0:=λh0=>g (CU.2 h0);have b:y≠0:=λh0=>i (CU.2 h0);refine(tj a h).mono ?_;rintro v k ⟨rfl,rfl⟩;have l:=wY x;have j:=wY y;have l1:=Gf.Mx x;have l2:=Gf.Mx y;refine⟨dB a,i0,a,i0,⟨i4,i4⟩,(Gf.lg x:Int),?_,a,i0,⟨i4,i4⟩,(Gf.lg y:Int),?_,i5,a,i0,?_⟩
 ·rw[show((x.toNat:Int).toNat*1)=x.toNat by omega];exact ID d x c
 ·rw[show((y.toNat:Int).toNat*1)=y.toNat by omega];exact ID d y b
 rw[al _];have e:wi ((Gf.lg x:Int)+(Gf.lg y:Int)) 255=(((Gf.lg x+Gf.lg y)%255:Nat):Int):=by rw[yO i4];rfl
 rw[e];have f:=vj (Gf.lg x+Gf.lg y) (show 255>0 by decide);refine⟨⟨i4,i4⟩,_,?_,by rw[Gf.mul,g0 (by simp[c,b])],i0⟩;rw[show((((Gf.lg x+Gf.lg y)%255:Nat):Int).toNat*1)=(Gf.lg x+Gf.lg y)%255 by omega];exact IC d _ f
theorem aeO(a:eX)(x:UInt8)(h:f8)(d:fM h a):ac xB 251 #[xt (dB a),xq xy x.toNat] h λv h'=>v=xq xy (Gf.inv x).toNat/\h'=h:=by
 refine LG (dB a) _ ?_;unfold DO;refine cy (λh0=>⟨by rw[Gf.inv,f9 (CU.1 h0)];rfl,i0⟩) λf=>?_;have b:x≠0:=λh0=>f (CU.2 h0);refine(tj a h).mono ?_;rintro v i ⟨rfl,rfl⟩;have g:=wY x;have l1:=Gf.Mx x;refine⟨dB a,i0,a,i0,⟨i4,i4⟩,(Gf.lg x:Int),?_,i5,a,i0,?_⟩
 ·rw[show((x.toNat:Int).toNat*1)=x.toNat by omega];exact ID d x b
 rw[al _];have e:wi (255-(Gf.lg x:Int)) 255=(((255-Gf.lg x)%255:Nat):Int):=by rw[yO i4];omega
 rw[e];have c:=vj (255-Gf.lg x) (show 255>0 by decide);refine⟨⟨i4,i4⟩,_,?_,by rw[Gf.inv,g0 b],i0⟩;rw[show((((255-Gf.lg x)%255:Nat):Int).toNat*1)=(255-Gf.lg x)%255 by omega];exact IC d _ c
theorem aeP(a:eX)(n:Int)(h:f8)(g:fM h a):ac xB 137 #[xt (dB a),xq xx n] h λv h'=>v=xq xy (Gf.pw (n%255).toNat).toNat/\h'=h:=by
 refine Ly (dB a) n ?_;unfold DC;have j:=vC n (show(0:Int)<255 by decide);have i:-255<n.tmod 255:=Int.lt_tmod_of_pos n i5;have b:=Tb n 255 i5;have d:=Int.emod_nonneg n (show(255:Int)≠0 by decide);have e:=Int.emod_lt_of_pos n (show(0:Int)<255 by decide);refine⟨i5,bX (λs h'=>s=n%255/\h'=h) ?_ ?_⟩
 ·refine ai (λc=>?_) (λf=>?_)
  ·rw[f9 c]at b;exact⟨by rw[al _,b],i0⟩
  ·rw[g0 f]at b;exact⟨b.symm,i0⟩
 ·rintro s h' ⟨rfl,rfl⟩;refine(tj a h').mono ?_;rintro v i ⟨rfl,rfl⟩;refine⟨dB a,i0,a,i0,⟨d,e⟩,_,?_,i0,i0⟩;rw[z6];exact IC g _ i4
theorem kI(p:Pm)(h:f8):ac xB 21 #[kS p] h λv h'=>v=xq xx (bK p)/\Sp h h' []:=by refine TT p ?_;unfold MN;refine(Sp.refl h).boxed λa g c=>?_;refine⟨p,(c.box 0 i0).aU _ i0,?_⟩;refine(eN p g).mono ?_;rintro v i ⟨rfl,f⟩;have b:=c.comp f;have d:=b.box 0 i0;refine⟨_,i0,bo (λe=>⟨by simp[bK,e],.zip b.aj⟩) λe=>?_⟩;refine⟨_,d.cell0 i0,_,d.cell i0,?_,.zip b.aj⟩;have:=(cu p).1 e;rw[al _,bK,f9 e]
theorem abZ(n i:Int)(h:f8):ac xB 136 #[xq xx n,xq xx i] h λv h'=>∃s:Sl,v=s/\
  Sp h h' [ak 5 s 1 aF (if 1<=n/\n<=64/\0<=i/\i<n then(qh n.toNat (0:UInt8)).set i.toNat 1 else[])]:=by
 refine Ug n i ?_;unfold Nj;have a:∀c:Prop,¬c->[Decidable c]->Sp h h [ak 5 ⟨eH,0,0⟩ 1 aF (if c then(qh n.toNat (0:UInt8)).set i.toNat 1 else[])]:=λc b _=>by
  rw[g0 b];exact(Sp.refl h).nil 5 1 aF
 refine bj ?_;refine ai (λe=>⟨⟨eH,0,0⟩,i0,a _ i4⟩) λg=>?_;refine ai (λe=>⟨⟨eH,0,0⟩,i0,a _ i4⟩) λe2=>?_;refine ai (λe=>⟨⟨eH,0,0⟩,i0,a _ i4⟩) λk=>?_;refine ai (λe=>⟨⟨eH,0,0⟩,i0,a _ i4⟩) λj=>?_;refine(Sp.refl h).make af aF ⟨_,_,i0,i0,i0,i0,i0,i0⟩ i5 0 i0 i0 n.toNat n.toNat i4 i4 (qm _) i4 λs o m b f=>?_;refine f.set af 0 i0 (λ_=>rfl) i0 i.toNat i4 i7 1 i0 i0 i0 λl d=>?_;refine⟨s,i0,?_⟩;rw[f9 i4];exact d
theorem Sa(s:Int)(h:f8):ac xB 223 #[xq xz s] h λv h'=>∃a:eX,v=xt (dB a)/\Sp h h' [au a 344 [xq xA (qc xA s)]]:=by refine Un s ?_;unfold Nx;exact(Sp.refl h).boxed λa c b=>⟨a,i0,b⟩
theorem DX(a:eX)(s:Int)(h:f8)(d:cx h a 344 [xq xA s]):ac xB 224 #[xt (dB a)] h λv h'=>v=xq xz (told s)/\cx h' a 344 [xq xA (FI s)]/\be (·≠a.block) h h':=by refine Il (dB a) ?_;unfold AP;refine Af i0 ⟨a,i0,s,d.cell0 i0,a,i0,?_⟩;refine Ep af d i0 _ i0 i0 i0 (qm _) λe b c _=>?_;exact⟨a,i0,_,b.cell0 i0,i5,i0,b,c⟩
theorem NP(a:eX)(s n:Int)(h:f8)(f:cx h a 344 [xq xA s])(g:0<n:=by omega)(d:n<=2^62:=by omega):ac xB 282 #[xt (dB a),xq xx n] h λv h'=>v=xq xx (mH s n)/\cx h' a 344 [xq xA (FI s)]/\be (·≠a.block) h h':=by refine GI (dB a) n ?_;unfold vy;refine bj (Af i0 (ai (λe=>i4) λ_=>?_));refine(DX a s h f).mono ?_;rintro v i ⟨rfl,b,c⟩;exact⟨_,i0,o7,i0,b,c⟩
theorem Ya(a b:Nat)(c:a<=2^40)(d:b<=2^40):qc xx ((a:Int)+(b:Int))=((a+b:Nat):Int):=by rw[al _];rfl
theorem aca(l:Nat)(h:f8)(f:l<=20):ac xB 316 #[xq xx l] h λv h'=>v=xq xx (fH l)/\h'=h:=by
 have k:∀l:Nat,l<=20->∀r:Nat,r<=5->(∀j,j<r->j*j<l)->r*r<l->r<5:=i5
 have n:∀l:Nat,l<=20->∀r:Nat,r<=5->(∀j,j<r->j*j<l)->¬r*r<l->r=fH l:=i5
 refine LI l ?_;unfold DR;refine aA (λr:Nat=>(r:Int)) (λr h'=>h'=h/\r<=5/\∀j,j<r->j*j<l) (λr=>5-r) 0 i0 ⟨i0,i4,λj c=>i4⟩ ?_;rintro r h' ⟨rfl,d,c⟩;have i:r*r<=25:=Nat.mul_le_mul d d;have e:qc xx ((r:Int)*(r:Int))=((r*r:Nat):Int):=by rw[<-wM];exact wf _
 rw[e];refine ai (λm=>?_) (λg=>?_)
 ·have a:r*r<l:=i4
  have o:=k l f r d c a;refine⟨r+1,js,⟨i0,i4,λj b=>?_⟩,i4⟩;rcases Nat.lt_succ_iff_lt_or_eq.1 b with b|rfl
  ·exact c j b
  ·exact a
 ·exact⟨by rw[n l f r d c i4],i0⟩
theorem acb(r:Nat)(h:f8)(b:r<=5):ac xB 187 #[xq xA r] h λv h'=>v=xq xx (Jt r)/\h'=h:=by
 intro w a;refine(Tryz.bits_Len (r:Int) w i4 i4).mono ?_;rintro e w' ⟨rfl,rfl⟩;have k:∀r:Nat,r<=5->Lib.bitLen r=Jt r:=j4
 exact⟨_,i0,dE.refl _,by rw[ql,k r b],a⟩
theorem WG(l k:Nat)(h:f8)(b:l<=20)(a:1<=l)(d:k<=20)(f:1<=k):ac xB 283 #[xq xx l,xq xx k] h λv h'=>v=xq xx (sT l k)/\h'=h:=by
 have o:∀k:Nat,k<=20->1<k->qc xx ((k:Int)*qc xx ((k:Int)-1))=((k*(k-1):Nat):Int)/\k*(k-1)≠0:=i5
 have w:∀l:Nat,l<=20->1<=l->1<=fH l/\fH l<=5:=i5
 have c3:∀l:Nat,l<=20->1<=l->qc xx (wy (l:Int) (fH l))=((l/fH l:Nat):Int):=i5
 have t:∀l:Nat,l<=20->1<=l->∀k:Nat,k<=20->1<=k->qc xx ((l:Int)*k)≠0:=j4
 have r:∀k:Nat,k<=20->1<k->qc xx (wy (1048576:Int) (qc xx ((k:Int)*qc xx ((k:Int)-1))))=((1048576/(k*(k-1)):Nat):Int):=j4
 have q:∀l:Nat,l<=20->1<=l->qc xx (wy (1048576:Int) (l:Int))=((1048576/l:Nat):Int):=j4
 have y:∀l:Nat,l<=20->1<=l->∀k:Nat,k<=20->1<=k->qc xx (wy (qc xx ((1048576:Int)*fH l)) (qc xx ((l:Int)*k)))=((1048576*fH l/(l*k):Nat):Int):=j4
 have n:∀l:Nat,l<=20->1<=l->qc xx (wy (qc xx ((qc xx ((1048576:Int)*fH l))*Jt (fH l))) (l:Int))=((1048576*fH l*Jt (fH l)/l:Nat):Int):=j4
 have x:∀l:Nat,l<=20->∀k:Nat,k<=20->1048576*fH l/(l*k)<=2^30/\1048576*fH l*Jt (fH l)/l<=2^30/\1048576/(k*(k-1))<=2^30/\1048576/l<=2^30:=j4
 refine Ir l k ?_;unfold AR;have i:=x l b k d;refine(aca l h b).mono ?_;rintro v u ⟨rfl,rfl⟩;have p:=w l b a;refine⟨_,i0,i4,bX (λs h'=>s=(((if k>1 then 1048576/(k*(k-1))else 1048576/l):Nat):Int)/\h'=u) ?_ ?_⟩
 ·refine ai (λe=>?_) (λe=>?_)
  ·have:=o k d i4;refine⟨by rw[this.1];omega,by rw[r k d i4,f9 i4],i0⟩
  ·refine⟨by rw[q l b a,g0 i4],i0⟩
 ·rintro s m ⟨rfl,rfl⟩;have z:(if k>1 then 1048576/(k*(k-1))else 1048576/l)<=2^30:=by split<;>first|exact i.2.2.1|exact i.2.2.2
  refine bj ?_;dsimp only;refine⟨show((fH l:Nat):Int)≠0 by omega,?_⟩;rw[c3 l b a];refine ai (λe=>⟨t l b a k d f,?_,i0⟩) (λe=>?_)
  ·rw[y l b a k d f,Ya _ _ i4 (zf i.1 i5),sT,f9 (c:=k<l/fH l) (Int.ofNat_lt.1 e)]
  ·refine cy (λe2=>?_) (λe2=>?_)
   ·have j:qc xA (fH l:Int)=(fH l:Int):=o7
    rw[j];refine(acb (fH l) m p.2).mono ?_;rintro v h3 ⟨rfl,rfl⟩;refine⟨_,i0,i4,?_,i0⟩;rw[n l b a,Ya _ _ i4 (zf i.2.1 i5),sT,g0 (c:=k<l/fH l) λg=>e (Int.ofNat_lt.2 g),f9 (c:=k=l/fH l) (Int.ofNat_inj.1 e2)]
   ·exact⟨by rw[sT,g0 (c:=k<l/fH l) λg=>e (Int.ofNat_lt.2 g),g0 (c:=k=l/fH l) λg=>e2 (Int.ofNat_inj.2 g),Nat.add_zero],i0⟩
theorem Zt(l:Nat)(h:f8)(b:l<=20)(c:1<=l):ac xB 226 #[xq xx l] h λv h'=>∃s:Sl,v=s/\Sp h h' [ak 3 s 1 av (ki l)]:=by
 refine JY l ?_;unfold Cd;refine bj (ai (λe=>i4) λ_=>ai (λe=>i4) λ_=>?_);refine(Sp.refl h).make af av gN i5 0 i0 i0 0 l i0 i0 i4 i4 λs r m q i=>?_;refine aA (λt:Sl×Nat=>(t.1,((nj l t.2:Nat):Int),((t.2+1:Nat):Int))) (λt h'=>t.2<=l/\Sp h h' [ak 3 t.1 1 av ((ki l).take t.2)]) (λt=>l-t.2) (s,0) i0 ⟨i9,by simpa using i⟩ ?_;rintro⟨s,k⟩ g ⟨n,a⟩;dsimp only at*;refine ai (λe=>?_) (λe=>?_)
 ·refine(WG l (k+1) g b c i4 i4).mono ?_;rintro v h3 ⟨rfl,rfl⟩;refine⟨_,i0,?_⟩;have u:=Ju l b k i4;have o:=My l b (k+1) i4;have e2:qc xx ((nj l k:Int)+(sT l (k+1):Int))=((nj l (k+1):Nat):Int):=by rw[al _,nj];rfl
  dsimp only;rw[e2];refine a.push af 0 i0 gN i0 i5 (λ_=>rfl) fD _ i0 i5 pa λf p j=>?_;refine⟨(f,k+1),jj,⟨i6,?_⟩,i6⟩;have d:(ki l).take (k+1)=(ki l).take k++[((nj l (k+1):Nat):Int)]:=by rw[aK _ _ q6];simp[ki]
  dsimp only;rw[d];exact j
 ·refine⟨s,i0,?_⟩;rw[qi q6]at a;exact a
theorem WH{p:aD}(t:Sl)(lt:aC)(x b:Int)(h:f8)(l:Seq h p t 1 av lt)(r:0<=x)(a:lt.getLast?=dB b)(c:x<b)(s:ii lt<=2^40):
  ac xB 281 #[t,xq xx x] h λv h'=>v=xq xx (YI lt x)/\h'=h:=by
 refine Iq t x ?_;unfold AQ;have q:=l.len;have f:lt≠[]:=λe=>by rw[e]at a;cases a
 have n:0<ii lt:=List.length_pos_iff.2 f;have j:lt[ii lt-1]=b:=by rw[List.getLast?_eq_getElem?,qd i4]at a;simpa using a
 refine bj (cy (λe=>i4) λ_=>ai (λe=>i4) λ_=>?_);rw[al _];refine l.bH (ii lt-1) i4 i4 _ i0 ?_;rw[j];refine ai (λe=>i4) λ_=>?_;have i:(lt.findIdx λy=>decide (y>x))<ii lt:=List.findIdx_lt_length_of_exists ⟨b,List.mem_of_getLast? a,l5⟩;refine aA (λk:Nat=>(k:Int)) (λk h'=>h'=h/\k<=(lt.findIdx λy=>decide (y>x))) (λk=>ii lt-k) 0 i0 ⟨i0,i4⟩ ?_;rintro k h' ⟨rfl,m⟩;refine ai (λe=>?_) (λe=>i4);have d:k<ii lt:=i4
 refine l.bH k i0 d _ i0 ?_;rw[al _];refine ai (λe2=>?_) (λe2=>?_)
 ·have:(lt.findIdx λy=>decide (y>x))=k:=Nat.le_antisymm (Nat.le_of_not_lt λg=>by have:=List.not_of_lt_findIdx g;simp at this;omega) m;exact⟨by rw[YI,this];rfl,i0⟩
 ·refine⟨k+1,i0,⟨i0,?_⟩,i4⟩;refine Nat.lt_of_le_of_ne m λo=>?_;have:=List.findIdx_getElem (xs:=lt) (p:=λy=>decide (y>x)) (w:=i);simp only[<-o]at this;simp at this;omega
theorem Ka(t:Sl)(n:Nat)(a:eX)(s:Int)(h:f8)(i:Seq h (·≠a.block) t 1 av (ki n))(m:cx h a 344 [xq xA s])(c:1<=n)(f:n<=20):
  ac xB 225 #[t,xt (dB a)] h λv h'=>v=xq xx (Jv s n)/\cx h' a 344 [xq xA (FI s)]/\be (·≠a.block) h h':=by
 refine LD t (dB a) ?_;unfold DJ;have l:=i.len;rw[ms]at l;refine cy (λe=>i4) λ_=>?_;rw[al _];refine i.bH (n-1) i4 q6 _ i0 ?_;have k:(ki n)[n-1]'(by rw[ms];omega)=((nj n n:Nat):Int):=by simp only[ki,List.getElem_map,List.getElem_range];rw[show n-1+1=n by omega]
 rw[k];have q:=Tm n f c;have j:=Ju n f n f;refine(NP a s _ h m).mono ?_;rintro v o ⟨rfl,g,d⟩;have b:=Al s (nj n n);refine⟨_,i0,(WH t (ki n) _ _ o (i.aj d) b.1 (Mz n c) b.2 q6).mono ?_⟩;rintro v p ⟨rfl,rfl⟩;exact⟨_,i0,i0,g,d⟩
theorem acd(a:eX)(s:Int)(n k:Nat)(h:f8)(F:cx h a 344 [xq xA s])(Q:n<=64)(O:k<=n):
  ac xB 227 #[xt (dB a),xq xx n,xq xx k] h λv h'=>∃r:Sl,v=r/\aa (λb=>b<h.size/\¬b=a.block) h h' [au a 344 [xq xA (gM n s (upto n) k).1],ak 3 r 1 av (Js s n k)]:=by
 refine Ny (dB a) n k ?_;unfold Gp;refine bj (ai (λe=>i4) λ_=>ai (λe=>i4) λ_=>ai (λe=>i4) λ_=>ai (λe=>i4) λ_=>?_);have H:aa (λb=>b<h.size/\¬b=a.block) h h [au a 344 [xq xA s]]:=.aaO (λb=>b=a.block) (λb x=>by rw[x];exact F.lt) ⟨F,i0⟩;refine H.make af av gN i5 0 i0 i0 n n i0 i0 (qm _) i4 λv V S U K=>?_;refine aA (λi:Nat=>(i:Int)) (λi h'=>i<=n/\aa (λb=>b<h.size/\¬b=a.block) h h' [au a 344 [xq xA s],ak 3 v 1 av ((upto n).take i++qh (n-i) 0)]) (λi=>n-i) 0 i0 ⟨i4,by simpa using K⟩ ?_;rintro i R ⟨T,o⟩;refine ai (λe=>?_) (λe=>?_)
 ·have l:i<n:=i4
  refine o.set af 1 i0 (λ_=>rfl) i0 i i0 (by simp[hY];omega) (i:Int) i0 i0 i0 λh3 f=>?_;refine⟨i+1,js,⟨i4,?_⟩,i4⟩;have e2:((upto n).take i++qh (n-i) 0).set i (i:Int)=(upto n).take (i+1)++qh (n-(i+1)) 0:=by
   have q:ii ((upto n).take i)=i:=by rw[q8,hY];omega
   rw[aK _ _ rb,qV _ _ i4,q,zc,show n-i=n-(i+1)+1 by omega,yh,zo];simp[upto]
  rw[<-e2];exact f
 ·have l:i=n:=i4
  subst l;have e2:(upto i).take i++qh (i-i) 0=upto i:=by rw[qi rb];simp
  rw[e2]at o;refine aA (λj:Nat=>(j:Int)) (λj h'=>j<=k/\aa (λb=>b<h.size/\¬b=a.block) h h' [au a 344 [xq xA (gM i s (upto i) j).1],ak 3 v 1 av (gM i s (upto i) j).2]) (λj=>k-j) 0 i0 ⟨i4,o⟩ ?_;rintro j h3 ⟨N,f⟩;have D:=Am i s (upto i) j;rw[hY]at D;refine ai (λJ=>?_) (λJ=>?_)
  ·rw[al _];have d:((i:Int)-(j:Int))=((i-j:Nat):Int):=i4
   rw[d];refine(NP a _ _ h3 (f.box 0 i0)).mono ?_;rintro w E ⟨rfl,B,p⟩;have m:=f.Dk 0 i0 p B;have I:=Al (gM i s (upto i) j).1 ((i-j:Nat):Int);refine⟨_,i0,?_⟩;dsimp only;rw[al _,al _];have L:(j:Int)+mH (gM i s (upto i) j).1 ((i-j:Nat):Int)=((j+(mH (gM i s (upto i) j).1 ((i-j:Nat):Int)).toNat:Nat):Int):=i4
   have c:j+(mH (gM i s (upto i) j).1 ((i-j:Nat):Int)).toNat<(gM i s (upto i) j).2.length:=i4
   rw[L];have g:=m.seq 1 i0 λ_=>rfl;refine g.bH _ i0 c _ i0 ?_;refine g.bH j i0 i4 _ i0 ?_;refine m.set af 1 i0 (λ_=>rfl) i0 j i0 i4 _ i0 i0 i0 λM z=>⟨trivial,?_⟩
   refine z.set af 1 i0 (λ_=>rfl) i0 _ i0 l5 _ i0 i0 i0 λP G=>⟨trivial,?_⟩
   refine⟨j+1,i0,⟨i4,?_⟩,i4⟩;rw[gM,tH,lN,lN,Go.Vc.getD_lt c,Go.Vc.getD_lt (show j<(gM i s (upto i) j).2.length by omega)];exact G
  ·have y:j=k:=i4
   subst y;refine⟨⟨i4,i4⟩,?_⟩;have A:=f.seq 1 i0 λ_=>rfl;refine(ka ⟨v.ptr,j,v.cap⟩ ((gM i s (upto i) j).2.take j) h3 (A.take j i4) pa).mono ?_;rintro w E ⟨r,rfl,m⟩;refine⟨r,i0,?_⟩;refine(Iu r _ E (m.own 0 i0) pa).mono ?_;rintro w M ⟨rfl,u,t⟩;have z:=(f.comp m).nP 2 i0 t u;exact⟨(),i0,r,i0,z.del 1⟩
theorem Ci(p:Pm)(seed id:Int)(h:f8):ac xB 161 #[kS p,xq xz seed,xq xx id] h λv h'=>∃r:Sl,v=r/\Sp h h' [ak 3 r 1 av (if bP p&&bZ id then dz (bK p).toNat seed id else[])]:=by
 refine Wp p seed id ?_;unfold QF;refine(Sp.refl h).boxed λa F B=>?_;refine bj ?_;refine⟨p,(B.box 0 i0).aU _ i0,(eN p F).mono ?_⟩;rintro v l ⟨rfl,L⟩;have g:=B.comp L;have y:(bP p&&bZ id)=eR->Sp h l [ak 3 ⟨eH,0,0⟩ 1 av (if bP p&&bZ id then dz (bK p).toNat seed id else[])]:=λH=>by
  rw[H];exact(g.nil 3 1 av).take 1 (λi A f=>by cases i with|zero=>exact f|succ i=>simp at f)
 refine⟨_,i0,bo (λe=>⟨⟨eH,0,0⟩,i0,y n0⟩) λu=>?_⟩;refine ai (λe=>⟨⟨eH,0,0⟩,i0,y l0⟩) λT=>?_;refine ai (λe=>⟨⟨eH,0,0⟩,i0,y l0⟩) λe2=>?_;have hid:bZ id=eL:=l0
 rw[u,hid];refine⟨p,(g.box 0 i0).aU _ i0,(kI p l).mono ?_⟩;rintro v h3 ⟨rfl,P⟩;have S:=g.comp P;have O:=(cu p).1 u;have U:bK p=p.1+p.2.1:=by rw[bK,f9 u]
 obtain⟨n,J⟩:∃n:Nat,bK p=n:=⟨(bK p).toNat,i4⟩
 refine⟨_,i0,?_⟩;dsimp only;rw[J,ql];refine(Sa _ h3).mono ?_;rintro v N ⟨d,rfl,E⟩;refine⟨dB d,i0,?_⟩;refine(DX d _ N (E.box 0 i0)).mono ?_;rintro v Q ⟨rfl,m,j⟩;have z:=E.Dk 0 i0 j m;refine⟨_,i0,?_⟩;refine(Zt n Q i4 i4).mono ?_;rintro v I ⟨t,rfl,w⟩;have c:=z.comp w;refine⟨t,i0,?_⟩;have s:∀b,t.on b->b≠d.block:=λb o V=>by
  have F:=(w.fresh 0 i0).2 b o;have l:=(z.box 0 i0).lt;omega
 refine(Ka t n d _ I ((w.own 0 i0).seq (λ_=>rfl) s) (c.box 0 i0) i4 i4).mono ?_;rintro v G ⟨rfl,x,k⟩;have D:=c.Dk 0 i0 k x;refine⟨_,i0,?_⟩;refine(acd d _ n _ G (D.box 0 i0) i4 (An _ n i4 i4)).mono ?_;rintro v h8 ⟨r,rfl,K⟩;have R:=D.call 0 i0 (λb=>b=d.block) (λq M b o=>by rw[o];exact M.2) K;exact⟨r,i0,r,i0,((S.comp R).take 3 λi A f=>by cases i with|zero=>exact f|succ i=>simp at f)⟩
end Go.Qw
