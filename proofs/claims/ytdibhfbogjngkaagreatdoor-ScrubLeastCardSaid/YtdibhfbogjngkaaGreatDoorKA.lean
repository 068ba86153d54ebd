/- Lemmas for the proof of the law; no condition. -/
import Derived.Test.YtdibhfbogjngkaaGreatDoorTabS
import Derived.Test.YtdibhfbogjngkaaGreatDoorShelfA
set_option linter.unusedVariables false
set_option linter.unusedSimpArgs false
open Go.Proofs.Tryz renaming prog -> xm
open Go.Value renaming agg -> xh, bool -> xg, int -> xb, pointer -> xd, slice -> xc, string -> xf
open Go.IntKind renaming bits -> qk, i64 -> xi, signed -> yV, u32 -> xk, u64 -> xl, u8 -> xj, wrap -> qc
open Option renaming isSome_iff_exists -> vo, some -> zS
open Int renaming fdiv -> q9, ofNat_lt -> vP, tdiv -> yb, tmod -> wg
open Nat renaming mod_eq_of_lt -> yT
open List renaming all_eq_false -> yO, exists_cons_of_length_eq_add_one -> yp, length -> vd, mem_of_getElem? -> wX, range -> qx, replicate -> qg, set_cons_succ -> wi, take_append_of_le_length -> yZ
open BitVec renaming ofInt -> qF, ofNat -> vN
open Prod renaming fst -> qM, snd -> zH
open Go.Instr renaming fill -> wq, storeAt -> qf
open UInt8 renaming ofNat -> yy, ofNat_toNat -> yN, toNat_lt -> wL
set_option maxRecDepth 100000
open Option renaming some -> dB, none -> eH
open Bool renaming true -> eR, false -> eS
open Go renaming Addr -> hU
open Go.Vc renaming cellOf -> hY, Heap -> hZ
open List renaming length -> j9
namespace Go.Vc
open Go Wl
abbrev Cells:=cC
abbrev powC(w:Pow)(l:Int):ba:=[xg w.off,xg w.fuse.isSome,xb xi l,xb xi w.offs]
def MH(w:Pow)(l:Int):Prop:=∀k,w.fuse=dB k->l=k/\k<2^62
def eE(t:Nat)(a:hU)(w:Pow):HP:=HP.ex λl:Int=>(ao a t (powC w l)).and (MH w l)
section
variable {B:aB} {h0 h h':hZ} {As:List HP} {t:Nat} {a:hU} {w:Pow}
theorem aa.Dn(H:aa B h0 h (eE t a w::As)):∃l,MH w l/\aa B h0 h (ao a t (powC w l)::As):=by obtain⟨l,H⟩:=H.sK;obtain⟨H,b⟩:=H.Km;exact⟨l,b,H⟩
theorem aa.KQ{l:Int}(b:MH w l)(H:aa B h0 h (ao a t (powC w l)::As)):aa B h0 h (eE t a w::As):=
 (H.toKm b).xI (F:=λl:Int=>(ao a t (powC w l)).and (MH w l)) l
end
end Go.Vc
namespace Go.Qw
open Go Go.Vc Go.Proofs Wl
section
variable {B:aB} {h0 h h':hZ} {As:List HP} {t:Nat} {a:hU} {w:Pow}
theorem IR(l:Int)(b:cA h a 92 (powC w l)):ab xm 121 #[xd (dB a)] h λv h'=>v=xg (!w.off)/\h'=h:=by refine GR (dB a) ?_;unfold zY;exact bQ (λ_=>⟨a,k0,w.off,b.cell0 k0,k0,k0⟩) λe=>ln
theorem PD(l:Int)(b:cA h a 92 (powC w l)):ab xm 41 #[xd (dB a)] h λv h'=>v=xb xi w.offs/\h'=h:=by refine Ei (dB a) ?_;unfold tq;exact bQ (λe=>ln) λ_=>⟨a,k0,w.offs,b.cell k0,k0,k0⟩
theorem Hu(h:hZ):ab xm 9 #[] h λv h'=>∃a,v=xd (dB a)/\Sp h h' [eE 92 a Pow.new]:=by refine Qy ?_;unfold Jv;refine(Sp.refl h).boxed λa c b=>⟨a,k0,aa.KQ (l:=0) (w:=Pow.new) (λk e=>ln) b⟩
theorem Hv(H:aa B h0 h (eE 92 a w::As)):ab xm 170 #[xd (dB a)] h λv h'=>v=xg w.step.1/\aa B h0 h' (eE 92 a w.step.2::As):=by
 obtain⟨l,p,c⟩:=H.Dn;refine Eo (dB a) ?_;unfold tH;refine(IR l (c.box 0 k0)).mono ?_;rintro _ u ⟨rfl,rfl⟩;refine⟨_,k0,bj (λe=>?_) λe=>?_⟩
 ·have:w.step=(eS,w):=by unfold Pow.step;rw[j1 n3]
  rw[this];exact⟨k0,H⟩
 have g:w.off=eS:=n3
 refine⟨a,k0,_,(c.box 0 k0).cell k0,bj (λe2=>?_) λe2=>?_⟩
 ·have:w.step=(eR,w):=by
   unfold Pow.step;rw[j3 qs];cases d:w.fuse with
   |none=>rfl
   |some k=>rw[d]at e2;cases e2
  rw[this];exact⟨k0,H⟩
 obtain⟨k,d⟩:∃k,w.fuse=dB k:=vo.1 e2;obtain⟨rfl,x⟩:=p k d;have o:powC w (k:Int)=[xg eS,xg eR,xb xi k,xb xi w.offs]:=by simp[powC,g,d]
 rw[o]at c;refine⟨a,k0,_,(c.box 0 k0).cell k0,dD (λs=>?_) λs=>?_⟩
 ·have i:k=0:=k4
  subst i;have m:w.step=(eS,⟨eR,dB 0,qc xi (w.offs+1)⟩):=by unfold Pow.step;rw[j3 qs,d]
  rw[m];refine⟨a,k0,c.lC ac 0 k0 k0 [xg eR] k0 k0 k0 k9 λt n=>?_⟩;refine⟨a,k0,w.offs,(n.box 0 k0).cell k0,a,k0,n.store ac 0 k0 k0 3 [xb xi (qc xi (w.offs+1))] k0 k0 k0 (by simp[powC]) λh3 f=>⟨k0,?_⟩⟩;refine aa.KQ (l:=((0:Nat):Int)) (λq b=>by cases b;exact⟨k0,k6⟩) ?_;exact f
 ·obtain⟨j,rfl⟩:∃j,k=j+1:=⟨k-1,k4⟩
  have m:w.step=(eR,⟨eS,dB j,w.offs⟩):=by unfold Pow.step;rw[j3 qs,d]
  rw[m];refine⟨a,k0,_,(c.box 0 k0).cell k0,a,k0,c.store ac 0 k0 k0 2 [xb xi (qc xi (((j+1:Nat):Int)-1))] k0 k0 k0 (by simp[powC]) λh3 f=>⟨k0,?_⟩⟩;refine aa.KQ (l:=(j:Int)) (λq b=>by cases b;exact⟨k0,k4⟩) ?_;rw[ag _]at f;have r:((j+1:Nat):Int)-1=(j:Int):=k4
  rw[r]at f;exact f
end
abbrev Pm:=Int×Int×Int
abbrev lN(p:Pm):Value:=xh #[xb xi p.1,xb xi p.2.1,xb xi p.2.2]
theorem fa(p:Pm)(h:hZ):ab xm 40 #[lN p] h λv h'=>v=xg (bH p)/\Sp h h' []:=by refine UW p ?_;unfold Pu;refine(Sp.refl h).boxed λa d g=>?_;have e:=g.box 0 k0;have c:Sp h d []:=.zip g.aj;have j:hY d a=dB (xb xi p.1):=e.cell0 k0;have i:hY d (a.add 1)=dB (xb xi p.2.1):=e.cell k0;have f:hY d (a.add 2)=dB (xb xi p.2.2):=e.cell k0;unfold bH;refine⟨_,j,ai (λb=>?_) λb=>⟨u5,c⟩⟩;rw[j6 b];refine⟨_,j,ai (λb=>?_) λb=>⟨u5,c⟩⟩;rw[j6 b];refine⟨_,i,ai (λb=>?_) λb=>⟨u5,c⟩⟩;rw[j6 b];refine⟨_,i,ai (λb=>?_) λb=>⟨u5,c⟩⟩;rw[j6 b];refine⟨_,f,ai (λb=>?_) λb=>⟨u5,c⟩⟩;rw[j6 b];exact⟨_,f,k0,c⟩
abbrev fN:ce C.toCG 22 3 1 [xb xi 0] 8:=⟨_,_,k0,k0,k0,k0,k0,k0⟩
abbrev gM:ce C.toCG 34 5 1 [xb xj 0] 1:=⟨_,_,k0,k0,k0,k0,k0,k0⟩
abbrev fH:ce C.toCG 85 34 1 [xc eH 0 0] 24:=⟨_,_,k0,k0,k0,k0,k0,k0⟩
theorem jS(s:Sl)(l:au)(h:hZ)(b:Rd h s 1 aq l)(c:j9 l<=2^30):ab xm 128 #[s] h λv h'=>∃r:Sl,v=r/\Sp h h' [al 3 r 1 aq l]:=by
 refine Aa s ?_;unfold oq;refine bQ (λe=>?_) (λe=>?_)
 ·have:=b.isNil e;subst this;exact⟨⟨eH,0,0⟩,k0,(Sp.refl h).nil 3 1 aq⟩
 ·refine(Sp.refl h).lit ac aq fN k0 [] k0 k6 k0 λj i a=>?_;refine a.append ac 0 k0 fN ⟨_,_,k0,k0⟩ k0 k6 (λ_=>rfl) (b.up a.aj) eT k8 λf g d=>⟨f,k0,d⟩
theorem fA(s:Sl)(l:aY)(h:hZ)(b:Rd h s 1 aD l)(c:j9 l<=2^30):ab xm 146 #[s] h λv h'=>∃r:Sl,v=r/\Sp h h' [al 5 r 1 aD l]:=by
 refine Mm s ?_;unfold Fl;refine bQ (λe=>?_) (λe=>?_)
 ·have:=b.isNil e;subst this;exact⟨⟨eH,0,0⟩,k0,(Sp.refl h).nil 5 1 aD⟩
 ·refine(Sp.refl h).lit ac aD gM k0 [] k0 k6 k0 λj i a=>?_;refine a.append ac 0 k0 gM ⟨_,_,k0,k0⟩ k0 k6 (λ_=>rfl) (b.up a.aj) iK k8 λf g d=>⟨f,k0,d⟩
theorem PE{e:TypeId}(s:Sl)(l:au)(h:hZ)(c:Own h e s 1 aq l)(a:j9 l<2^40):ab xm 148 #[s] h λv h'=>v=.tuple #[]/\Own h' e s 1 aq (lu l)/\aX (λb=>¬s.on b) h h':=
 RV Tryz.slices_Sort_int Tryz.slices_Sort_int_none c a
theorem fT(x n:Int)(h:hZ)(c:0<n)(f:n<=2^62):ab xm 12 #[xb xi x,xb xi n] h λv h'=>v=xb xi (x%n)/\h'=h:=by
 refine uX x n ?_;unfold nO;have g:=vt x c;have e:-n<x.tmod n:=Int.lt_tmod_of_pos x c;have d:=RL x n c;refine⟨k4,bi ?_⟩;refine ai (λa=>?_) (λb=>?_)
 ·rw[ag _];exact⟨by rw[d,j1 a],k0⟩
 ·exact⟨by rw[d,j3 b],k0⟩
end Go.Qw
namespace Wl
structure gQ (d:bp):Prop where
 wait:d.wait<=j9 d.l
 len:j9 d.l<=d.room
 room:d.room<=512
 cell:∀c∈d.l,j9 c=64
 laid:j9 d.laid<=d.room
 cellL:∀c∈d.laid,j9 c=64
section
variable {d:bp} {w:Pow} {b:aY}
theorem gQ.new{n:Nat}(h:n<=512):gQ (bp.new n):=⟨ql _,zy _,h,by simp[bp.new],zy _,by simp[bp.new]⟩
theorem gQ.rewrite{l:cC}(h:gQ d):gQ (d.rewrite w l).2.2:=by
 obtain⟨e,b,h3,a,f,g⟩:=h;unfold bp.rewrite;split
 ·exact⟨e,b,h3,a,f,g⟩
 ·rename_i i;have i:∀c∈l,j9 c=64:=by simpa using i
  split
  ·exact⟨e,b,h3,a,f,g⟩
  ·split
   ·exact⟨e,b,h3,a,f,g⟩
   ·split
    ·exact⟨e,b,h3,a,f,g⟩
    ·split
     ·exact⟨zy _,k7,h3,i,zy _,k9⟩
     ·exact⟨e,b,h3,a,k7,i⟩
end
end Wl
namespace Go.Vc
open Go Wl Go.Qw
abbrev gn(s:Sl)(l:Cells):HP:=dh 34 s 5 1 aD l
def ms(t:Nat)(f:bp->Sl->Sl->ba)(a:hU)(d:bp):HP:=
 (HP.ex λb:Sl×Sl=>(ao a t (f d b.1 b.2)).sep ((gn b.1 d.l).sep (gn b.2 d.laid))).and (gQ d)
section
variable {B:aB} {h0 h h':hZ} {As:List HP} {t:Nat} {f:bp->Sl->Sl->ba} {a:hU} {d:bp}
theorem aa.vE(H:aa B h0 h (ms t f a d::As)):gQ d/\∃s b:Sl,aa B h0 h (ao a t (f d s b)::gn s d.l::gn b d.laid::As):=by obtain⟨H,ok⟩:=H.Km;obtain⟨c,H⟩:=H.sK;exact⟨ok,c.1,c.2,H.sZ.sZ.bc 3 [2,1,0]⟩
theorem aa.Hw{s b:Sl}(ok:gQ d)(H:aa B h0 h (ao a t (f d s b)::gn s d.l::gn b d.laid::As)):aa B h0 h (ms t f a d::As):=
 ((((H.bc 3 [2,1,0]).mb).mb).xI (F:=λc:Sl×Sl=>(ao a t (f d c.1 c.2)).sep ((gn c.1 d.l).sep (gn c.2 d.laid))) (s,b)).toKm ok
end
end Go.Vc
namespace Go.Qw
open Go Go.Vc Go.Proofs Wl
abbrev iF(pw:hU)(d:bp)(s b:Sl):ba:=[xd (dB pw),xb xi d.room,s,xb xi d.wait,b,xg d.has,xg d.lost]
abbrev mu(pw a:hU)(d:bp):HP:=ms 156 (iF pw) a d
section
variable {B:aB} {h0 h h':hZ} {As:List HP} {a pw:hU} {d:bp} {w:Pow}
theorem XX(n:Int)(pw:hU)(h:hZ):ab xm 43 #[xb xi n,xd (dB pw)] h λv h'=>
  (1<=n/\n<=512->∃a,v=xd (dB a)/\Sp h h' [mu pw a (bp.new n.toNat)])/\(¬(1<=n/\n<=512)->v=xd eH/\Sp h h' []):=by
 refine Qz n (dB pw) ?_;unfold Jw;refine bi (ai (λe=>⟨λc=>absurd c k4,λ_=>⟨k0,Sp.refl h⟩⟩) λg=>ai (λe=>⟨λc=>absurd c k4,λ_=>⟨k0,Sp.refl h⟩⟩) λe2=>bQ (λe=>ln) λ_=>?_);refine(Sp.refl h).boxed λa i d=>⟨λ_=>⟨a,k0,?_⟩,λc=>absurd k4 c⟩
 refine aa.Hw (s:=⟨eH,0,0⟩) (b:=⟨eH,0,0⟩) (gQ.new k4) ?_;have e:((n.toNat:Nat):Int)=n:=k4
 have f:=((d.Gi 34 5 1 aD).Gi 34 5 1 aD).bc 3 [2,1,0];have e2:iF pw (bp.new n.toNat) ⟨eH,0,0⟩ ⟨eH,0,0⟩=[xd (dB pw),xb xi n,xc eH 0 0,xb xi 0,xc eH 0 0,xg eS,xg eS]:=by simp only[iF,bp.new,e];rfl
 rw[e2];exact f
theorem Hx(s b:Sl)(c:bp)(H:aa B h0 h (ao a 156 (iF pw d s b)::gn s d.l::gn b d.laid::eE 92 pw w::As))(ok:gQ d)(e:c={d with laid:=[],has:=eS}):
  ab xm 171 #[xd (dB a)] h λv h'=>v=xb xi 0/\aa B h0 h' (mu pw a c::eE 92 pw w::As):=by
 refine Ep (dB a) ?_;unfold tI;refine⟨a,k0,H.store ac 0 k0 k0 4 [xc eH 0 0] k0 k0 k0 o9 λi f=>?_⟩;refine⟨a,k0,f.store ac 0 k0 k0 5 [xg eS] k0 k0 k0 o9 λh3 g=>⟨k0,?_⟩⟩;subst e;refine aa.Hw (s:=s) (b:=⟨eH,0,0⟩) ⟨ok.wait,ok.len,ok.room,ok.cell,zy _,k9⟩ ?_;exact((g.Gi 34 5 1 aD).bc 5 [1,2,0,4])
theorem JM(x:Sl)(row:aY)(H:aa B h0 h (mu pw a d::eE 92 pw w::As))(N:Rd h x 1 aD row)(hr:j9 row<=2^20):
  ab xm 102 #[xd (dB a),x] h λv h'=>v=xb xi (d.append w row).1/\aa B h0 h' (mu pw a (d.append w row).2.2::eE 92 pw (d.append w row).2.1::As):=by
 refine om (dB a) x ?_;unfold mq;have P:=N.len;obtain⟨ok,s,b,z⟩:=H.vE;have o:=z.box 0 k0;obtain⟨T,_⟩:=aa.DO (z.bc 4 [1]);have G:=ok.room;have M:=ok.len;have I:=ok.wait;have same:∀(e:Int),d.append w row=(e,w,d)->(Value.int .i64 e=xb xi (d.append w row).1/\aa B h0 h (mu pw a (d.append w row).2.2::eE 92 pw (d.append w row).2.1::As)):=λe R=>by
  rw[R];exact⟨k0,H⟩
 refine bi (bR (λe=>same 1 (by unfold bp.append;rw[j1 k4])) λQ=>?_);have p:j9 row=64:=k4
 refine bi (bQ (λe=>ln) λ_=>⟨a,k0,d.lost,o.cell k0,bQ (λe=>same 5 ?_) λf=>?_⟩)
 ·unfold bp.append;rw[j3 k4,j1 e]
 refine⟨a,k0,s,o.cell k0,a,k0,(d.room:Int),o.cell k0,ai (λe=>same 7 ?_) λF=>?_⟩
 ·unfold bp.append;rw[j3 k4,j3 sb,j1 k4]
 obtain⟨l,Z,J⟩:=(z.bc 4 [3,0,1,2]).Dn;refine⟨a,k0,dB pw,o.cell0 k0,(IR l (J.box 0 k0)).mono ?_⟩;rintro _ U ⟨rfl,rfl⟩;refine⟨_,k0,bj (λe=>same 14 ?_) λt=>?_⟩
 ·unfold bp.append;rw[j3 k4,j3 sb,j3 k4,j1 n3]
 have j:w.off=eS:=yr
 refine bi ⟨a,k0,s,o.cell k0,(fA x row U N k4).mono ?_⟩;rintro _ h4 ⟨r,rfl,W⟩;have D:=(z.ck W).bc 5 [2,0,1,3,4];have q:=D.box 2 k0;refine⟨r,k0,⟨q.cell k0,trivial⟩,?_⟩;have S:=D;refine D.oT ac bo fH k0 [r] k0 (show 1*1<=2^20 by decide) k0 ⟨q.cell k0,trivial⟩ ?_;refine D.IA ac fH k4 λA Y L=>⟨trivial,?_⟩
 have L:=L.bc 4 [1,0,2,3];refine⟨a,k0,L.store ac 0 k0 k0 2 [A] k0 k0 k0 o9 λh7 O=>⟨trivial,?_⟩⟩;have K:=O.box 0 k0;refine⟨a,k0,(d.wait:Int),K.cell k0,a,k0,?_⟩;rw[ag ((d.wait:Int)+1)];refine O.store ac 0 k0 k0 3 [xb xi ((d.wait:Int)+1)] k0 k0 k0 o9 λh8 V=>?_;obtain⟨g,i⟩:∃g:bp,g={d with l:=d.l++[row],wait:=d.wait+1}:=⟨_,rfl⟩
 have u:gQ g:=by
  subst i;refine⟨k8,k8,ok.room,λc k=>?_,ok.laid,ok.cellL⟩;rcases qA.1 k with k|k
  ·exact ok.cell c k
  ·rw[qB.1 k];exact p
 have m:aa B h0 h8 (ao a 156 (iF pw g A b)::gn A g.l::gn b g.laid::eE 92 pw w::As):=by rw[i];exact V
 refine⟨a,k0,dB pw,(m.box 0 k0).cell0 k0,(Hv (m.bc 4 [3,0,1,2])).mono ?_⟩;rintro _ h9 ⟨rfl,y⟩;have y:=y.bc 4 [1,2,3,0];have n:d.append w row=if w.step.1 then(0,w.step.2,{g with laid:=[],has:=eS})else(14,w.step.2,g):=by rw[i];unfold bp.append;rw[j3 k4,j3 sb,j3 k4,j3 (by simp[j])]
 rw[n];refine⟨_,k0,bj (λe=>?_) λe=>?_⟩
 ·rw[e];exact⟨k0,y.Hw u⟩
 ·rw[e];refine(Hx A b _ y u k0).mono ?_;rintro _ X ⟨rfl,E⟩;exact⟨0,k0,k0,E⟩
theorem OA(x:Sl)(row:aY)(h:hZ)(b:Rd h x 1 aD row):ab xm 102 #[xd eH,x] h λv h'=>v=xb xi (if row.length≠64 then 1 else 5)/\h'=h:=by refine om eH x ?_;unfold mq;have a:=b.len;refine bi (bR (λe=>⟨by rw[j1 k4],k0⟩) λe=>?_);exact bi (bQ (λ_=>⟨by rw[j3 k4],k0⟩) λe=>ln)
theorem aam(H:aa B h0 h (mu pw a d::eE 92 pw w::As)):
  ab xm 173 #[xd (dB a)] h λv h'=>v=xb xi (d.sync w).1/\aa B h0 h' (mu pw a (d.sync w).2.2::eE 92 pw (d.sync w).2.1::As):=by
 refine ra (dB a) ?_;unfold nl;obtain⟨ok,s,b,i⟩:=H.vE;have j:=i.box 0 k0;refine bi (bQ (λe=>ln) λ_=>⟨a,k0,d.lost,j.cell k0,bQ (λe=>?_) λc=>?_⟩)
 ·have:d.sync w=(5,w,d):=by unfold bp.sync;rw[j1 e]
  rw[this];exact⟨k0,H⟩
 refine⟨a,k0,dB pw,j.cell0 k0,(Hv (i.bc 4 [3,0,1,2])).mono ?_⟩;rintro _ m ⟨rfl,g⟩;have g:=g.bc 4 [1,2,3,0];have f:d.sync w=if w.step.1 then(0,w.step.2,{{d with wait:=0}with laid:=[],has:=eS})else(14,w.step.2,d):=by unfold bp.sync;rw[j3 oj]
 rw[f];refine⟨_,k0,bj (λe=>?_) λe=>?_⟩
 ·rw[e];exact⟨k0,g.Hw ok⟩
 ·rw[e];refine⟨a,k0,g.store ac 0 k0 k0 3 [xb xi 0] k0 k0 k0 o9 λh3 k=>?_⟩;refine(Hx (d:={d with wait:=0}) s b _ k ⟨zy _,ok.len,ok.room,ok.cell,ok.laid,ok.cellL⟩ rfl).mono ?_;rintro _ n ⟨rfl,l⟩;exact⟨0,k0,k0,l⟩
theorem Ti(h:hZ):ab xm 173 #[xd eH] h λv h'=>v=xb xi 5/\h'=h:=by refine ra eH ?_;unfold nl;exact bi (bQ (λ_=>⟨k0,k0⟩) λe=>ln)
theorem mu.box(H:aa B h0 h (mu pw a d::As)):∃s b:Sl,cA h a 156 (iF pw d s b)/\fZ h s 1 aD d.l/\s.len=j9 d.l:=by obtain⟨ok,s,b,c⟩:=H.vE;exact⟨s,b,c.box 0 k0,(c.bc 3 [1]).Gj λ_=>rfl,(aa.DO (c.bc 3 [1])).1⟩
theorem aan(s b:Sl)(c:cA h a 156 (iF pw d s b)):ab xm 244 #[xd (dB a)] h λv h'=>v=xb xi d.room/\h'=h:=by refine Es (dB a) ?_;unfold tK;exact bQ (λe=>ln) λ_=>⟨a,k0,_,c.cell k0,k0,k0⟩
theorem PF(s b:Sl)(f:cA h a 156 (iF pw d s b))(c:s.len=j9 d.l):ab xm 191 #[xd (dB a)] h λv h'=>v=xb xi (j9 d.l:Int)/\h'=h:=by refine FK (dB a) ?_;unfold uE;exact bQ (λe=>ln) λ_=>⟨a,k0,_,f.cell k0,by rw[c],k0⟩
theorem Hy(s b:Sl)(c:cA h a 156 (iF pw d s b)):ab xm 149 #[xd (dB a)] h λv h'=>v=xg d.lost/\h'=h:=by refine En (dB a) ?_;unfold tG;exact bQ (λ_=>⟨a,k0,_,c.cell k0,k0,k0⟩) λe=>ln
theorem KR(l:Sl)(a:Cells)(h:hZ)(f:fZ h l 1 aD a)(u:j9 a<=2^20)(g:∀c∈a,j9 c<=2^20):ab xm 167 #[l] h λv h'=>∃r:Sl,v=r/\Sp h h' [gn r a]:=by
 refine QK l ?_;unfold JH;have j:=f.len;refine aw (λt:Sl×Nat=>(t.1,(t.2:Int))) (λt h'=>t.2<=j9 a/\Sp h h' [gn t.1 (a.take t.2)]) (λt=>j9 a-t.2) (⟨eH,0,0⟩,0) k0 ⟨k9,by simpa using(Sp.refl h).Gi 34 5 1 aD⟩ ?_;rintro⟨s,i⟩ o ⟨x,d⟩;dsimp only at*;refine ai (λe=>?_) (λe=>?_)
 ·have b:i<j9 a:=k4
  refine(f.up d.aj).get i k0 b λr q=>?_;have:=g _ (qh b);refine(fA r _ o q k4).mono ?_;rintro _ w ⟨m,rfl,k⟩;refine⟨m,k0,?_⟩;refine aa.IA ac (d.comp k) fH k8 λn h3 p=>?_;refine⟨(n,i+1),lb,⟨k7,?_⟩,k7⟩;dsimp only;rw[aH _ _ b];exact p
 ·rw[qi k4]at d;exact⟨s,k0,d⟩
theorem Tj(s b:Sl)(i:cA h a 156 (iF pw d s b))(g:fZ h s 1 aD d.l)(ok:gQ d):ab xm 96 #[xd (dB a)] h λv h'=>∃r:Sl,v=r/\Sp h h' [gn r d.l]:=by
 refine FI (dB a) ?_;unfold uC;have:=ok.len;have:=ok.room;refine bQ (λe=>ln) λ_=>⟨a,k0,s,i.cell k0,(KR s d.l h g k4 λc f=>by rw[ok.cell c f];decide).mono ?_⟩
 rintro _ k ⟨r,rfl,j⟩;exact⟨r,k0,r,k0,j⟩
end
theorem adm(b:Sl)(l:aY)(h:hZ)(q:Rd h b 1 aD l)(E:j9 l<=2^40):ab xm 213 #[b] h λv h'=>v=xb xk (CL l).toNat/\h'=h:=by
 refine Vd b ?_;unfold PA;have A:=q.len;refine aw (λt:Nat=>(((uP (l.take t)).toNat:Int),(t:Int))) (λt h'=>t<=j9 l/\h'=h) (λt=>j9 l-t) 0 k0 ⟨k4,k0⟩ ?_;rintro i z ⟨D,rfl⟩;refine ai (λe=>?_) (λe=>?_)
 ·have d:i<j9 l:=by have u:(i:Int)<(b.len:Int):=e;omega
  refine q.bC i k0 d (l[i].toNat:Int) k0 ?_;have s:qc xk (l[i].toNat:Int)=((vN 32 l[i].toNat).toNat:Int):=by rw[Zz,wV]
  rw[s,Xx];refine aw (λk:Nat=>(((CK k (uP (l.take i)^^^vN 32 l[i].toNat)).toNat:Int),(k:Int))) (λk h'=>k<=8/\h'=z) (λk=>8-k) 0 k0 ⟨k4,k0⟩ ?_;rintro k p ⟨B,rfl⟩;obtain⟨c,g⟩:∃c,c=CK k (uP (l.take i)^^^vN 32 l[i].toNat):=⟨_,rfl⟩
  dsimp only;rw[<-g];refine ai (λe2=>⟨k6,?_⟩) (λe2=>?_)
  ·have a:∀n:ta,n=LA c->∃f:Nat,(((n.toNat:Nat):Int),qc xi ((k:Int)+1))=(((CK f (uP (l.take i)^^^vN 32 l[i].toNat)).toNat:Int),(f:Int))/\(f<=8/\p=p)/\8-f<8-k:=λn r=>
    ⟨k+1,by rw[ag _,r,g];rfl,⟨k4,k0⟩,k4⟩
   have y:qc xk ((qF (qk xk) (c.toNat:Int)&&&qF (qk xk) (1:Int)).toNat:Nat)=((c&&&1#32).toNat:Int):=aii c 1#32;have w:qc xk ((qF (qk xk) ((c>>>1).toNat:Int)^^^qF (qk xk) (3988292384:Int)).toNat:Nat)=(((c>>>1)^^^3988292384#32).toNat:Int):=Xx (c>>>1) 3988292384#32;rw[y,afG,w];refine dD (λo=>a _ ?_) (λo=>a _ ?_)
   ·unfold LA;rw[j1 ((Wy c).1 o)]
   ·unfold LA;rw[j3 λx=>o ((Wy c).2 x)]
  ·have j:k=8:=k4
   subst j;refine⟨i+1,?_,⟨k4,k0⟩,k4⟩;rw[ag _,aH _ _ d,Xw,g];rfl
 ·have m:i=j9 l:=by have u:¬(i:Int)<(b.len:Int):=e;omega
  subst m;refine⟨?_,k0⟩;rw[qS];exact congrArg (Value.int .u32) (Xx 4294967295#32 (uP l))
theorem Hz(a:Int)(b:Sl)(l:aY)(h:hZ)(y:Rd h b 1 aD l)(S:j9 l<=2^40:=by omega):ab xm 147 #[xb xi a,b] h λv h'=>∃r:Sl,v=r/\Sp h h' [al 5 r 1 aD (eG a l)]:=by
 refine Tb a b ?_;unfold Mn;have O:=y.len;have g:¬(1<=a/\a<=255/\l.length<=55)->∃r:Sl,Value.slice eH 0 0=xc r.ptr r.len r.cap/\Sp h h [al 5 r 1 aD (eG a l)]:=λe=>by
  unfold eG;rw[j3 e];exact⟨⟨eH,0,0⟩,k0,(Sp.refl h).nil 5 1 aD⟩
 refine bi (ai (λe=>g k4) λM=>ai (λe=>g k4) λe2=>ai (λe=>g k4) λP=>?_);refine(Sp.refl h).make ac aD gM k6 0 k0 k0 64 64 k0 k0 (ql _) k6 λo x n u D=>?_;rw[eV];refine D.lit ac aD gM k0 [87,115,1,b8 a] k0 (show 4*1<=2^20 by decide) k0 λv3 h3 z=>?_;refine z.Lu ac 0 k0 gM (λ_=>rfl) (z.seq 1 k0 λ_=>rfl) iK λ_ t k=>⟨⟨k6,by rw[n];decide⟩,?_⟩
 have k:Sp h t [al 5 o 1 aD ([87,115,1,b8 a]++qg 60 0)]:=by have:=k.cD [0];simpa using this
 refine k.RZ ac 0 k0 gM (λ_=>rfl) (Seq.up y k.aj) iK 4 k9 k0 k0 λ_ A s=>⟨⟨k6,by rw[u];decide⟩,?_⟩
 have I:([87,115,1,b8 a]++qg 60 0).take 4++(l.take (j9 ([87,115,1,b8 a]++qg 60 (0:UInt8))-4)++([87,115,1,b8 a]++qg 60 0).drop (4+j9 l))=eC a l++qg 5 0:=by
  have K:j9 ([87,115,1,b8 a]++qg 60 (0:UInt8))=64:=k9
  rw[K,qi (l:=l) k4,<-zL];have x:([87,115,1,b8 a]++qg 60 (0:UInt8)).drop 4=qg 60 0:=rfl;have h3:([87,115,1,b8 a]++qg 60 (0:UInt8)).take 4=[87,115,1,b8 a]:=rfl;rw[x,h3,List.drop_replicate];unfold eC;have t:qg (60-j9 l) (0:UInt8)=qg (55-j9 l) 0++qg 5 0:=by rw[List.replicate_append_replicate];congr 1;omega
  rw[t];simp[qt]
 rw[I]at s;have d:j9 (eC a l)=59:=Gm k4;have L:Rd A ⟨o.ptr,59,o.cap⟩ 1 aD (eC a l):=by have:=(s.seq 0 k0 λ_=>rfl).take 59 u6;rw[yZ k4,qi k4]at this;exact this
 refine(adm ⟨o.ptr,59,o.cap⟩ (eC a l) A L k4).mono ?_;rintro _ N ⟨rfl,rfl⟩;obtain⟨c,w⟩:∃c,c=CL (eC a l):=⟨_,rfl⟩
 rw[<-w];refine⟨_,k0,?_⟩;refine aw (λi:Nat=>(i:Int)) (λi h'=>i<=4/\Sp h h' [al 5 o 1 aD (eC a l++((oL c).take i++qg (5-i) 0))]) (λi=>4-i) 0 k0 ⟨k4,v6⟩ ?_;rintro i Q ⟨R,B⟩;have f:=Sb c;refine ai (λe=>?_) (λe=>?_)
 ·have E:i<4:=by have G:(i:Int)<4:=e;omega
  rw[ag ((8:Int)*i),ag ((59:Int)+i)];refine⟨k4,?_⟩;have J:((8:Int)*(i:Int)).toNat=8*i:=k4
  have F:min (8*i) (qk xk)=8*i:=by have:qk xk=32:=rfl;omega
  rw[J,F,eV];have H:b8 (q9 (c.toNat:Int) (2^(8*i)))=(oL c)[i]'(by omega):=by simp[oL]
  rw[H];refine B.set ac 0 k0 (λ_=>rfl) k0 (59+i) k4 (by simp[d];omega) ((oL c)[i]'(by omega)) k0 k0 k0 λh8 j=>?_;refine⟨i+1,ld,⟨k4,?_⟩,k4⟩;have q:(eC a l++((oL c).take i++qg (5-i) 0)).set (59+i) ((oL c)[i]'(by omega))=eC a l++((oL c).take (i+1)++qg (5-(i+1)) 0):=by
   rw[qX _ _ k4,d,zr,qX _ _ k8,aH _ _];have:5-i=(5-(i+1))+1:=k4
   rw[this,yd];simp[f,Nat.min_eq_left (show i<=4 by omega)];rw[aH _ _ (show i<j9 (oL c) by omega),qt];rfl
  rw[q]at j;exact j
 ·have p:i=4:=by have G:¬(i:Int)<4:=e;omega
  subst p;refine B.set ac 0 k0 (λ_=>rfl) k0 63 k0 (by simp[d,f]) 165 k0 k0 k0 λh8 j=>⟨o,k0,?_⟩
  have m:(eC a l++((oL c).take 4++qg (5-4) 0)).set 63 165=eG a l:=by unfold eG;rw[j1 ⟨k4,k4,k4⟩,<-w,qi k4,qX _ _ k4,d,qX _ _ sb];simp[f]
  rw[m]at j;exact j
end Go.Qw
namespace Go.Vc
open Go Wl
abbrev eF:=ByteArray×Int×Int×Sl
abbrev cw:=Int×Int×Int×Int×Int×Int×Sl×Sl
abbrev bN(x:eF):ba:=[xf x.1,xb xi x.2.1,xb xi x.2.2.1,x.2.2.2]
abbrev bn(x:cw):ba:=[xb xi x.1,xb xi x.2.1,xb xi x.2.2.1,xb xi x.2.2.2.1,xb xi x.2.2.2.2.1,xb xi x.2.2.2.2.2.1,x.2.2.2.2.2.2.1,x.2.2.2.2.2.2.2]
abbrev ge(x:cw):Value:=xh #[xb xi x.1,xb xi x.2.1,xb xi x.2.2.1,xb xi x.2.2.2.1,xb xi x.2.2.2.2.1,xb xi x.2.2.2.2.2.1,x.2.2.2.2.2.2.1,x.2.2.2.2.2.2.2]
def jA:jy eF Wl.bK:=⟨λh q a b=>(a.1=b.name/\a.2.1=b.object/\a.2.2.1=b.length)/\Seq h q a.2.2.2 1 aq b.tries,λa d=>⟨a.1,a.2.aj d⟩,λa c=>⟨a.1,a.2.mono c⟩⟩
abbrev xC:jy Sl (List Wl.bK):=bF jA 4 bN
structure sP (h:hZ) (q:aB) (x:cw) (m:aE):Prop where
 seq:x.1=m.seq
 next:x.2.1=m.next
 p:(x.2.2.1,x.2.2.2.1,x.2.2.2.2.1)=m.p
 extra:x.2.2.2.2.2.1=m.extra
 drives:Seq h q x.2.2.2.2.2.2.1 1 aq m.drives
 aG:xC.p h q x.2.2.2.2.2.2.2 m.aG
 dcap:x.2.2.2.2.2.2.1.len<=x.2.2.2.2.2.2.1.cap
 ocap:x.2.2.2.2.2.2.2.len<=x.2.2.2.2.2.2.2.cap
abbrev dV(h:hZ)(x:cw)(m:aE):Prop:=sP h (λb=>b<h.size) x m
theorem sP.aj{h h':hZ}{q:aB}{x:cw}{m:aE}(a:sP h q x m)(b:aX q h h'):sP h' q x m:=⟨a.seq,a.next,a.p,a.extra,a.drives.aj b,xC.loc a.aG b,a.dcap,a.ocap⟩
theorem sP.mono{h:hZ}{q q':aB}{x:cw}{m:aE}(a:sP h q x m)(c:∀b,q b->q' b):sP h q' x m:=⟨a.seq,a.next,a.p,a.extra,a.drives.mono c,xC.mono a.aG c,a.dcap,a.ocap⟩
theorem dV.up{h h':hZ}{x:cw}{m:aE}(a:dV h x m)(c:aX (λb=>b<h.size) h h'):dV h' x m:=(sP.aj a c).mono λ_ d=>q7 d c.1
def dC(x:cw)(m:aE):HP:=⟨λh q=>sP h q x m,λa c=>a.aj c,λa b=>a.mono b⟩
theorem WL:∀x,∀c∈bN x,c.oneCell'=eR:=by intro x c a;simp[bN]at a;rcases a with rfl|rfl|rfl|rfl<;>rfl
end Go.Vc
namespace Go.Qw
open Go Go.Vc Go.Proofs Wl
theorem so(n a b:Int)(h:hZ):ab xm 162 #[xb xi n,xb xi a,xb xi b] h λv h'=>v=xg (fp n a b)/\h'=h:=by
 refine Mp n a b ?_;unfold Fo fp;refine ai (λe=>⟨?_,k0⟩) (λe=>⟨?_,k0⟩)
 ·rw[j6 (show a<=n from e)];rfl
 ·rw[j7 (show¬a<=n from e)];rfl
theorem PG(s:ByteArray)(h:hZ)(G:s.size<=2^40):ab xm 104 #[xf s] h λv h'=>v=xg (mg s)/\Sp h h' []:=by
 refine QE s ?_;unfold JB;refine afH ac ⟨_,k0,k0⟩ ⟨_,k0,k0⟩ ⟨_,k0,k0⟩ s λr E n=>?_;have y:=n.rd 0 k0;have B:=y.len;have D:=DQ s;refine aw (λi:Nat=>(i:Int)) (λi h'=>i<=s.size/\h'=E/\∀c∈(jr s).take i,ne c=eR) (λi=>s.size-i) 0 k0 ⟨k4,k0,k9⟩ ?_;rintro i u ⟨F,rfl,d⟩;refine ai (λe=>?_) (λe=>?_)
 ·have j:i<j9 (jr s):=by have z:(i:Int)<(r.len:Int):=e;omega
  refine y.bC i k0 j ((jr s)[i].toNat:Int) k0 ?_;obtain⟨c,q⟩:∃c,c=(jr s)[i]:=⟨_,rfl⟩
  rw[<-q];have a:ne c=eR->∃o:Nat,qc xi ((i:Int)+1)=(o:Int)/\(o<=s.size/\u=u/\∀c∈(jr s).take o,ne c=eR)/\s.size-o<s.size-i:=λt=>
   ⟨i+1,ld,⟨k4,k0,λx k=>by
    rw[aH _ _ j]at k;rcases qA.1 k with k|k
    ·exact d x k
    ·rw[qB.1 k,<-q];exact t⟩,k4⟩
  have g:ne c=eS->Value.bool eS=xg (mg s)/\Sp h u []:=λt=>by
   refine⟨?_,n.cD []⟩;unfold mg;have:s.data.toList.all ne=eS:=yO.2 ⟨c,by rw[q];exact qh j,by rw[t];simp⟩;rw[this];rfl
  have b:ne c=eR↔((97<=(c.toNat:Int)/\(c.toNat:Int)<=122)∨(48<=(c.toNat:Int)/\(c.toNat:Int)<=57)∨(c.toNat:Int)=45):=by unfold ne;simp[or_assoc];omega
  have f:ne c=eS↔¬((97<=(c.toNat:Int)/\(c.toNat:Int)<=122)∨(48<=(c.toNat:Int)/\(c.toNat:Int)<=57)∨(c.toNat:Int)=45):=by rw[<-b];cases ne c<;>simp
  refine ai (λp=>ai (λe2=>bR (λm=>g (f.2 k4)) λm=>a (b.2 k4)) λe2=>ai (λm=>bR (λl=>g (f.2 k4)) λl=>a (b.2 k4)) λm=>a (b.2 k4)) λp=>ai (λe2=>ai (λm=>bR (λl=>g (f.2 k4)) λl=>a (b.2 k4)) λm=>ai (λl=>bR (λA=>g (f.2 k4)) λA=>a (b.2 k4)) λl=>a (b.2 k4)) λe2=>a (b.2 k4)
 ·have z:¬(i:Int)<(r.len:Int):=e;rw[qi k4]at d;have w:s.data.toList.all ne=eR:=qU.2 d;refine ai (λp=>⟨?_,n.cD []⟩) (λp=>⟨?_,n.cD []⟩)
  ·unfold mg;rw[w,j6 (show 1<=s.size by omega)];congr 1;simp;omega
  ·unfold mg;rw[w,j7 (show¬1<=s.size by omega)];rfl
theorem aao(s:Sl)(l:au)(most:Int)(h:hZ)(q:Rd h s 1 aq l)(x:j9 l<=2^40):ab xm 163 #[s,xb xi most] h λv h'=>v=xg (pI l most)/\h'=h:=by
 refine QJ s most ?_;unfold JG;have u:=q.len;refine aw (λi:Nat=>(i:Int)) (λi h'=>i<=j9 l/\h'=h/\∀j,j<i->jW l most j=eR) (λi=>j9 l-i) 0 k0 ⟨k4,k0,k4⟩ ?_;rintro i g ⟨y,rfl,a⟩;refine ai (λe=>?_) (λe=>?_)
 ·have c:i<j9 l:=by have t:(i:Int)<(s.len:Int):=e;omega
  refine q.bC i k0 c l[i] k0 ?_;have m:l.getD i 0=l[i]:=getD_lt c;have k:jW l most i=eS->Value.bool eS=xg (pI l most)/\g=g:=λp=>⟨by unfold pI;rw[Gn c p],k0⟩
  have b:jW l most i=eR->∃n:Nat,qc xi ((i:Int)+1)=(n:Int)/\(n<=j9 l/\g=g/\∀j,j<n->jW l most j=eR)/\l.length-n<j9 l-i:=λp=>
   ⟨i+1,ld,⟨k4,k0,λj r=>by
    by_cases o:j=i
    ·rw[o];exact p
    ·exact a j k4⟩,k4⟩
  refine(so l[i] 0 most g).mono ?_;rintro _ _ ⟨rfl,rfl⟩;refine⟨_,k0,bj (λd=>k (by unfold jW;rw[m,d];rfl)) λd=>ai (λe2=>?_) λe2=>b (by unfold jW;rw[m,d,j6 (show i=0 by omega)];rfl)⟩;rw[ag ((i:Int)-1)];refine q.bC (i-1) k4 k4 (l[i-1]'(by omega)) k0 ?_;have f:l.getD (i-1) 0=l[i-1]'(by omega):=getD_lt;refine ai (λw=>k ?_) (λw=>b ?_)
  ·unfold jW;rw[m,f,d,j7 (show¬i=0 by omega),j7 k4];rfl
  ·unfold jW;rw[m,f,d,j6 (show l[i-1]'(by omega)<l[i]by omega)];simp
 ·have t:¬(i:Int)<(s.len:Int):=e;exact⟨by unfold pI;rw[uj λj r=>a j k4],k0⟩
theorem Ev(p:Pm)(n:Int)(h:hZ)(m:n<=2^40:=by omega):ab xm 48 #[lN p,xb xi n] h λv h'=>v=xb xi (countP p n)/\Sp h h' []:=by
 refine LR p n ?_;unfold Fb;refine(Sp.refl h).boxed λo g f=>?_;refine bi ⟨p,(f.box 0 k0).aS _ k0,(fa p g).mono ?_⟩;rintro _ j ⟨rfl,i⟩;have b:=f.up i.aj;refine⟨_,k0,bj (λe=>⟨?_,b.cD []⟩) λd=>ai (λe=>⟨?_,b.cD []⟩) λe=>?_⟩
 ·unfold countP;rw[e];rfl
 ·unfold countP;rw[j7 (show¬0<n by omega),Bool.and_false];rfl
 ·have l:=(bZ p).1 d;refine⟨p,(b.box 0 k0).aS _ k0,?_⟩;refine(CV p (R:=λv h'=>v=xb xi (p.1*p.2.2)/\Sp h h' []) ?_).mono ?_
  ·unfold yF;refine b.boxed λq h3 c=>⟨p.1,(c.box 1 k0).cell0 k0,p.2.2,(c.box 1 k0).cell k0,?_,c.cD []⟩
   have r:p.1*p.2.2<=16*24:=yC k4 k4 k4 k4;have a:0<=p.1*p.2.2:=vB k4 k4;rw[ag _]
  ·rintro _ h3 ⟨rfl,k⟩;have a:0<p.1*p.2.2:=vU k4 k4;refine⟨_,k0,Int.ne_of_gt a,?_,k⟩;have g:(n-1)/(p.1*p.2.2)<=n-1:=Int.ediv_le_self _ k4;have j:0<=(n-1)/(p.1*p.2.2):=Int.ediv_nonneg k4 k4;rw[ag (n-1),Int.tdiv_eq_ediv_of_nonneg k4,ag ((n-1)/(p.1*p.2.2)),ag _];unfold countP;rw[d,j6 (show 0<n by omega)];rfl
theorem Vg(s:Sl)(l:au)(h:hZ)(f:Rd h s 1 aq l)(k:j9 l<=2^40):ab xm 116 #[s,.func (.func 228) #[] #[]] h λv h'=>v=xg (!l.all (fp · 0 15))/\h'=h:=by
 refine kp s (228,#[],#[]) ?_;unfold iE;have j:=f.len;refine(iQ s (228,#[],#[]) (R:=λv h'=>(∃i:Int,v=xb xi i/\(decide (i>=0)=!l.all (fp · 0 15)))/\h'=h) ?_).mono ?_
 ·unfold gz;refine aw (λi:Nat=>(i:Int)) (λi h'=>i<=j9 l/\(l.take i).all (fp · 0 15)=eR/\h'=h) (λi=>j9 l-i) 0 k0 ⟨k4,k9,k0⟩ ?_;rintro i c ⟨d,a,rfl⟩;refine ai (λe=>?_) (λe=>?_)
  ·have b:i<j9 l:=by have g:(i:Int)<(s.len:Int):=e;omega
   refine f.bC i k0 b l[i] k0 (fq m7 ?_);refine(KM l[i] (R:=λv h'=>v=xg (!fp l[i] 0 15)/\h'=c) ?_).mono ?_
   ·unfold Dg;refine(so l[i] 0 15 c).mono ?_;rintro _ _ ⟨rfl,rfl⟩;exact⟨_,k0,k0,k0⟩
   ·rintro _ _ ⟨rfl,rfl⟩;refine⟨_,k0,bj (λe2=>?_) λe2=>?_⟩
    ·refine⟨⟨i,k0,?_⟩,k0⟩;rw[j6 (show(i:Int)>=0 by omega)];have:l.all (fp · 0 15)=eS:=yO.2 ⟨_,qh b,by rw[e2];simp⟩;rw[this];rfl
    ·refine⟨i+1,ld,⟨k4,?_,k0⟩,k4⟩;rw[aH _ _ b,y7,a];simp[e2]
  ·have g:¬(i:Int)<(s.len:Int):=e;refine⟨⟨-1,k0,?_⟩,k0⟩;rw[qi k4]at a;rw[a];rfl
 ·rintro _ c ⟨⟨i,rfl,d⟩,rfl⟩;exact⟨i,k0,by rw[d],k0⟩
end Go.Qw
namespace Wl
structure dO (m:aE):Prop where
 dr:m.drives.length<=2^30
 ob:m.aG.length<=2^30
 nm:∀e∈m.aG,e.name.size<=2^30/\e.tries.length<=2^30
end Wl
namespace Go.Vc
open Go
theorem addr_add(a:hU)(i j:Nat):(a.add i).add j=a.add (i+j):=by unfold Addr.add;by_cases b:i=0<;>by_cases c:j=0<;>simp[b,c,yk]
theorem cA.BG{h:hZ}{a:hU}{e:TypeId}{b:ba}{v:Value}(d:cA h a e b)(i j:Nat)(c:b[i+j]?=dB v):hY h ((a.add i).add j)=dB v:=by rw[addr_add];exact d.cell c
theorem cA.IS{h:hZ}{a:hU}{e:TypeId}{b:ba}{u v w:Value}(c:cA h a e b)(i:Nat)(d:b[i]?=dB u)(g:b[i+1]?=dB v)(f:b[i+2]?=dB w):an h (a.add i) 0 [u,v,w]:=
 ⟨c.BG i 0 d,c.BG i 1 g,c.BG i 2 f,trivial⟩
end Go.Vc
namespace Go.Qw
open Go Go.Vc Go.Proofs Wl
abbrev adn:ce C.toCG 42 94 4 [xf ⟨#[]⟩,xb xi 0,xb xi 0,xc eH 0 0] 56:=⟨_,_,k0,k0,k0,k0,k0,k0⟩
theorem XY(x:cw)(m:aE)(e:eF)(E:Wl.bK)(h:hZ)(l:dV h x m)(A:dS jA h e E)(I:lx m=eR)(L:E.name.size<=2^30)(R:E.tries.length<=2^30):
  ab xm 164 #[ge x,xh #[xf e.1,xb xi e.2.1,xb xi e.2.2.1,e.2.2.2]] h λv h'=>v=xg (hO m E)/\Sp h h' []:=by
 refine Ol x e ?_;unfold Ha;obtain⟨_,B,c,_⟩:=Se I;have J:=(bZ m.p).1 c;obtain⟨⟨y,e2,u⟩,t⟩:=A;have f:x.2.2.1=m.p.1:=congrArg (·.1) l.p;have n:x.2.2.2.1=m.p.2.1:=congrArg (·.2.1) l.p;have d:x.2.2.2.2.1=m.p.2.2:=congrArg (·.2.2) l.p;have P:m.p.1*m.p.2.2<=16*24:=yC k4 k4 k4 k4;have D:0<=m.p.1*m.p.2.2:=vB k4 k4;refine(Sp.refl h).boxed λM O F=>?_;refine F.boxed λN G r=>?_;have k:∀{h':hZ} {As:List HP},Sp h h' As->hO m E=eS->Value.bool eS=xg (hO m E)/\Sp h h' []:=λ{h' As} H' g=>⟨by rw[g],.zip H'.aj⟩
 refine bi ⟨E.name,by rw[<-y];exact(r.box 1 k0).cell0 k0,(PG E.name G k4).mono ?_⟩;rintro _ h3 ⟨rfl,H⟩;have a:=r.up H.aj;refine⟨_,k0,bj (λb=>k a (by unfold hO;rw[b];rfl)) λi=>?_⟩;refine⟨E.object,by rw[<-e2];exact(a.box 1 k0).cell k0,m.next,by rw[<-l.next];exact(a.box 0 k0).cell k0,?_⟩;dsimp only;rw[ag (m.next-1)];refine(so E.object 0 (m.next-1) h3).mono ?_;rintro _ _ ⟨rfl,rfl⟩;refine⟨_,k0,bj (λb=>k a (by unfold hO;rw[i,b];rfl)) λo=>?_⟩;have g:=a.box 0 k0;refine⟨E.length,by rw[<-u];exact(a.box 1 k0).cell k0,m.p.1,by rw[<-f];exact g.cell k0,m.p.2.2,by rw[<-d];exact g.BG 2 2 k0,?_⟩;dsimp only;rw[ag (m.p.1*m.p.2.2),ag (m.p.1*m.p.2.2*8)];refine(so E.length 0 (m.p.1*m.p.2.2*8) _).mono ?_;rintro _ _ ⟨rfl,rfl⟩;refine⟨_,k0,bj (λb=>k a (by unfold hO;rw[i,o,b];rfl)) λj=>?_⟩;have s:0<=E.length/\E.length<=m.p.1*m.p.2.2*8:=by unfold fp at j;simpa using j
 refine⟨e.2.2.2,(a.box 1 k0).cell k0,?_⟩;refine(Vg e.2.2.2 E.tries _ (Seq.up t a.aj) k4).mono ?_;rintro _ _ ⟨rfl,rfl⟩;refine⟨_,k0,bj (λb=>?_) λb=>⟨trivial,k a ?_⟩⟩
 ·have q:E.tries.all (fp · 0 15)=eR:=m5
  refine⟨e.2.2.2,(a.box 1 k0).cell k0,m.p,?_,E.length,by rw[<-u];exact(a.box 1 k0).cell k0,?_⟩
  ·rw[<-f,<-n,<-d];exact g.IS 2 k0 k0 k0
  ·refine(Ev m.p E.length _).mono ?_;rintro _ Q ⟨rfl,K⟩;have w:=a.up K.aj;refine⟨_,k0,⟨(w.box 1 k0).cell k0,trivial⟩,?_,.zip w.aj⟩;unfold hO;have z:=t.len;rw[i,o,j,q,z];simp;rfl
 ·have q:E.tries.all (fp · 0 15)=eS:=m5
  unfold hO;rw[i,o,j,q];rfl
theorem Vh(a:hU)(e:eF)(l:Sl)(b:List Wl.bK)(h:hZ)(q:cA h a 94 (bN e))(p:dS xC h l b)(F:b.length<=2^30):
  ab xm 165 #[l,.func (.func 166) #[] #[xd (dB a)]] h λv h'=>v=xg (b.any λy=>decide (y.object=e.2.1))/\Sp h h' []:=by
 refine gD l (166,#[],#[xd (dB a)]) ?_;unfold ff;refine(ig l (166,#[],#[xd (dB a)]) (R:=λv h'=>(∃i:Int,v=xb xi i/\(decide (i>=0)=b.any λy=>decide (y.object=e.2.1)))/\Sp h h' []) ?_).mono ?_
 ·unfold fC;obtain⟨o,s,D,A⟩:=bF.jh p;have t:=bF.len p;refine aw (λi:Nat=>(i:Int)) (λi h'=>i<=b.length/\(b.take i).any (λy=>decide (y.object=e.2.1))=eS/\Sp h h' []) (λi=>b.length-i) 0 k0 ⟨k4,k9,Sp.refl h⟩ ?_;rintro i n ⟨r,c,j⟩;refine ai (λk=>?_) (λk=>?_)
  ·have d:i<b.length:=by have u:(i:Int)<(l.len:Int):=k;omega
   obtain⟨⟨_,x,_⟩,_⟩:=A i k4 d;refine(Seq.up s j.aj).ey (g:=bN) i k0 k4 (o[i]'(by omega)) k0 (fq m7 ?_);refine(Om (o[i]'(by omega)) a (R:=λv h'=>v=xg (b[i].object==e.2.1)/\Sp n h' []) ?_).mono ?_
   ·unfold Hb;refine(Sp.refl n).boxed λE z f=>?_;have m:=q.aj (up j.aj f.aj) q.lt;exact⟨b[i].object,by rw[<-x];exact(f.box 0 k0).cell k0,e.2.1,m.cell k0,k0,.zip f.aj⟩
   ·rintro _ z ⟨rfl,w⟩;have f:=j.up w.aj;refine⟨_,k0,dD (λe2=>?_) λe2=>?_⟩
    ·refine⟨⟨i,k0,?_⟩,f⟩;rw[j6 (show(i:Int)>=0 by omega)];exact(wc.2 ⟨_,qh d,pb⟩).symm
    ·refine⟨i+1,ld,⟨k4,?_,f⟩,k4⟩;rw[aH _ _ d,yK,c];simpa using e2
  ·have u:¬(i:Int)<(l.len:Int):=k;refine⟨⟨-1,k0,?_⟩,j⟩;rw[qi k4]at c;rw[c];rfl
 ·rintro _ n ⟨⟨i,rfl,r⟩,B⟩;exact⟨i,k0,tp,B⟩
theorem ado(x:cw)(m:aE)(h:hZ)(c:dV h x m)(S:dO m):ab xm 95 #[ge x] h λv h'=>v=xg (bV m)/\Sp h h' []:=by
 refine SS x ?_;unfold Md;refine(Sp.refl h).boxed λN h1 G=>?_;have s:=G.box 0 k0;have O:x.2.2.1=m.p.1:=congrArg (·.1) c.p;have Q:x.2.2.2.1=m.p.2.1:=congrArg (·.2.1) c.p;have P:x.2.2.2.2.1=m.p.2.2:=congrArg (·.2.2) c.p;have y:∀{h':hZ} {As:List HP},Sp h h' As->bV m=eS->Value.bool eS=xg (bV m)/\Sp h h' []:=λ{h' As} H' s=>⟨by rw[s],.zip H'.aj⟩
 refine bi ⟨m.seq,by rw[<-c.seq];exact s.cell0 k0,(so m.seq 1 2147483647 h1).mono ?_⟩;rintro _ _ ⟨rfl,rfl⟩;refine⟨_,k0,bj (λb=>y G (by unfold bV lx;rw[b];rfl)) λE=>?_⟩;refine⟨m.next,by rw[<-c.next];exact s.cell k0,(so m.next 0 16777216 _).mono ?_⟩;rintro _ _ ⟨rfl,rfl⟩;refine⟨_,k0,bj (λb=>y G (by unfold bV lx;rw[E,b];rfl)) λI=>?_⟩;refine⟨m.p,by rw[<-O,<-Q,<-P];exact s.IS 2 k0 k0 k0,(fa m.p _).mono ?_⟩;rintro _ h2 ⟨rfl,R2⟩;have q:=G.up R2.aj;refine⟨_,k0,bj (λb=>y q (by unfold bV lx;rw[E,I,b];rfl)) λY=>?_⟩;refine⟨m.extra,by rw[<-c.extra];exact(q.box 0 k0).cell k0,(so m.extra 0 16 _).mono ?_⟩;rintro _ _ ⟨rfl,rfl⟩;refine⟨_,k0,bj (λb=>y q (by unfold bV lx;rw[E,I,Y,b];rfl)) λb4=>?_⟩;have H:lx m=eR:=by unfold lx;rw[E,I,Y,b4];rfl
 have R:=c.up q.aj;have A:=q.box 0 k0;have ar:=S.dr;have ap:=S.ob;refine bi ⟨_,A.cell k0,(aao _ m.drives 63 _ R.drives k4).mono ?_⟩;rintro _ _ ⟨rfl,rfl⟩;refine⟨_,k0,bj (λb=>y q (by unfold bV;rw[H,b];rfl)) λb5=>?_⟩;have ad:=bF.len c.aG;refine⟨x.2.2.2.2.2.2.2,A.cell k0,ai (λe=>y q ?_) λah=>?_⟩
 ·unfold bV;rw[H,b5,j7 k4];rfl
 have U:j9 m.aG<=12:=k4
 refine⟨x.2.2.2.2.2.2.2,A.cell k0,?_⟩;obtain⟨l,B⟩:=bF.fix c.aG;have am:=B.2.1;refine aw (λi:Nat=>(i:Int)) (λi h'=>i<=j9 m.aG/\(∀j,j<i->pJ m j=eR)/\Sp h h' [ao N 44 (bn x)]) (λi=>j9 m.aG-i) 0 k0 ⟨k4,k4,q⟩ ?_;rintro i h3 ⟨hi,o,M⟩;refine ai (λe=>?_) (λe=>?_)
 ·have f:i<j9 m.aG:=by have e':(i:Int)<(x.2.2.2.2.2.2.2.len:Int):=e;omega
  have D:=S.nm _ (qh f);have k:pH m.aG i=m.aG[i]:=oM f;have u:∀{h':hZ} {As:List HP},Sp h h' As->pJ m i=eS->Value.bool eS=xg (bV m)/\Sp h h' []:=λ{h' As} H' s=>y H' (by unfold bV;rw[Gn f s];simp);have F3:=oa.up B M.aj;refine F3.1.ey (g:=bN) i k0 k4 (l[i]'(by omega)) k0 ?_;refine M.alloc ac k0 λw h4 H4=>?_;refine H4.storeAll ac 1 k0 k0 (bN (l[i]'(by omega))) k0 k0 k0 k0 λV r=>?_;have r:Sp h V [ao N 44 (bn x),ao w 94 (bN (l[i]'(by omega)))]:=r;have X:=oa.up B r.aj;obtain⟨⟨y1,y2,y3⟩,y4⟩:=Fix.row X f;obtain⟨b6,d⟩:∃b,b=(decide (i=0)||ft (pH m.aG (i-1)).name (pH m.aG i).name):=⟨_,rfl⟩
  refine bO (λ_ h'=>hO m m.aG[i]=eR/\b6=eR/\Sp h h' [ao N 44 (bn x),ao w 94 (bN (l[i]'(by omega)))]) ?_ ?_
  ·refine⟨x,(r.box 0 k0).aS _ k0,l[i]'(by omega),(r.box 1 k0).aS _ k0,?_⟩;refine(XY x m (l[i]'(by omega)) m.aG[i] V (c.up r.aj) (Fix.row X f) H D.1 D.2).mono ?_;rintro _ Z ⟨rfl,R6⟩;have a:=r.up R6.aj;have F:=oa.up B a.aj;refine⟨_,k0,trivial,bj (λb=>u a (by unfold pJ;rw[k,b];rfl)) λb=>ai (λe2=>?_) λe2=>⟨b,by rw[d,j6 (show i=0 by omega)];rfl,a⟩⟩;rw[ag ((i:Int)-1)];obtain⟨L,ha,zz,hc,rfl⟩:=F.1.ey (g:=bN) (i:=(i:Int)-1) (i-1) k4 k4 (l[i-1]'(by omega)) rfl (K:=λt=>t=l[i-1]'(by omega)) rfl;refine⟨x.2.2.2.2.2.2.2,(a.box 0 k0).cell k0,L,ha,m.aG[i-1].name,?_,m.aG[i].name,?_,?_⟩
   ·rw[<-(Fix.row F (show i-1<j9 m.aG by omega)).1.1];exact hc.1
   ·rw[<-y1];exact(a.box 1 k0).cell0 k0
   ·have n:pH m.aG (i-1)=m.aG[i-1]:=oM;rw[k,n]at d;refine bj (λz=>u a ?_) (λz=>⟨b,?_,a⟩)
    ·unfold pJ;rw[k,n,b,j7 (show¬i=0 by omega)];unfold ft;rw[z];rfl
    ·rw[d];unfold ft;rw[z];simp
  ·rintro _ Z ⟨b,T,a⟩;have F:=oa.up B a.aj;refine⟨x.2.2.2.2.2.2.2,(a.box 0 k0).cell k0,⟨k4,by have:=c.ocap;omega⟩,?_⟩;rw[qn];refine(Vh w (l[i]'(by omega)) ⟨x.2.2.2.2.2.2.2.ptr,i,x.2.2.2.2.2.2.2.cap⟩ (m.aG.take i) Z (a.box 1 k0) (bF.take F.elt i k4) k8).mono ?_;rintro _ h7 ⟨rfl,R7⟩;have W:=a.up R7.aj;rw[y2];refine⟨_,k0,bQ (λz=>u W ?_) λz=>?_⟩
   ·unfold pJ;rw[k,z];simp
   ·refine⟨i+1,ld,⟨k4,λj hj=>?_,W.cD [0]⟩,k4⟩;by_cases J:j=i
    ·subst J;rw[T]at d;unfold pJ;rw[<-d,k,b,z];rfl
    ·exact o j k4
 ·have e':¬(i:Int)<(x.2.2.2.2.2.2.2.len:Int):=e;refine⟨?_,.zip M.aj⟩;unfold bV;rw[H,b5,j6 U,uj λj hj=>o j k4];rfl
section
variable {B:aB} {h0 h:hZ} {As:List HP}
theorem sQ(s:Sl)(l:aY)(n:Int)(k:Nat)(x:k<=4)(r:j9 l<=2^20)(H:aa B h0 h (al 5 s 1 aD l::As)):
  ab xm 169 #[s,xb xi n,xb xi k] h λv h'=>∃b:Sl,v=b/\aa B h0 h' (al 5 b 1 aD (l++cb n k)::As):=by
 refine Mq s n k ?_;unfold Fp;have m:=cG n k;refine aw (λt:Sl×Nat=>(t.1,(k:Int)-1-t.2)) (λt h'=>t.2<=k/\aa B h0 h' (al 5 t.1 1 aD (l++(cb n k).take t.2)::As)) (λt=>k-t.2) (s,0) (by rw[ag _];simp) ⟨k9,n4⟩ ?_;rintro⟨o,j⟩ w ⟨q,a⟩;dsimp only at*;refine ai (λe=>?_) (λe=>?_)
 ·have i:j<k:=k4
  rw[ag ((8:Int)*((k:Int)-1-j))];refine⟨k4,?_⟩;have p:((8:Int)*((k:Int)-1-j)).toNat=8*(k-1-j):=k4
  have d:min (8*(k-1-j)) (qk xi)=8*(k-1-j):=by have:qk xi=64:=rfl;omega
  rw[p,d,eV];have f:b8 (q9 n (2^(8*(k-1-j))))=(cb n k)[j]'(by omega):=by simp[cb]
  rw[f];refine a.push ac 0 k0 gM k0 k6 (λ_=>rfl) iK ((cb n k)[j]'(by omega)) k0 k6 k8 λg u c=>?_;refine⟨(g,j+1),by dsimp only;rw[ag _];congr 1;omega,⟨k7,?_⟩,k7⟩;dsimp only;rw[aH _ _ (show j<j9 (cb n k) by omega),<-qt];exact c
 ·rw[qi k4]at a;exact⟨o,k0,a⟩
theorem MI(b:Sl)(l:au)(o:Sl)(c:aY)(H:aa B h0 h (al 5 o 1 aD c::As))(q:St B h0 As λh=>Rd h b 1 aq l)(D:j9 c<=2^30)(E:j9 l<=2^30){K:Sl×Int->hZ->Prop}
  (z:∀r h',aa B h0 h' (al 5 r 1 aD (c++l.map b8)::As)->K (r,(j9 l:Int)) h'):
  aJ (σ:=Sl×Int) (λa v h8=>
 Br (decide (a.2<((b.len:Nat):Int)))
 (∃j:hU,(b.ptr=dB j/\0<=a.2/\a.2<((b.len:Nat):Int))/\
 ∃k:Int,hY h8 (j.add (a.2.toNat*1))=dB (xb xi k)/\
 aA xm (Instr.buildSlice 34 1 #[(0,(xb xj (qc xj k)))]) (.one (.sc .slc)) h8 λd A=>
 aA xm (Builtin.append_ #[34,34] 34 #[(xc a.1.ptr a.1.len a.1.cap),(xc d.ptr d.len d.cap)]) (.one (.sc .slc)) A λf p=>
 v ((⟨f.ptr,f.len,f.cap⟩:Sl),qc xi (a.2+(1:Int))) p)
 (K a h8)) (o,(0:Int)) h:=by
 have x:b.len=j9 l:=(q.at [_] H).len;refine aw (λt:Sl×Nat=>(t.1,(t.2:Int))) (λt h'=>t.2<=j9 l/\aa B h0 h' (al 5 t.1 1 aD (c++(l.take t.2).map b8)::As)) (λt=>j9 l-t.2) (o,0) k0 ⟨k9,n4⟩ ?_;rintro⟨u,i⟩ y ⟨G,m⟩;dsimp only at*;refine ai (λe=>?_) (λe=>?_)
 ·have g:i<j9 l:=k4
  refine(q.at [_] m).bC i k0 g l[i] k0 ?_;rw[eV];refine m.push ac 0 k0 gM k0 k6 (λ_=>rfl) iK (b8 l[i]) k0 k6 k8 λw F s=>?_;refine⟨(w,i+1),lb,⟨k7,?_⟩,k7⟩;dsimp only;rw[aH _ _ g,qW,<-qt];exact s
 ·have n:i=j9 l:=k4
  subst n;rw[qS]at m;exact z u y m
end
theorem afZ{m:aE}(a:bV m=eR){i:Nat}(b:i<j9 m.aG):hO m m.aG[i]=eR:=by
 unfold bV at a;simp only[qz]at a;have:=qU.1 a.2.2.2 i (qD.2 b);unfold pJ at this;simp only[qz]at this;have c:=this.1
 rwa [oM b]at c
theorem aap{m:aE}(d:bV m=eR){i:Nat}(h:i<m.aG.length):m.aG[i].name.size<=12/\m.aG[i].tries.length<=3073:=by
 have b:=afZ d h;unfold hO mg at b;simp only[qz,decide_eq_true_eq]at b;obtain⟨⟨_,_,f⟩,_,h3,_,c⟩:=b;refine⟨f,?_⟩;obtain⟨_,_,a,_⟩:=Se (ZC d);have e:=(bZ m.p).1 a;unfold fp at h3;simp only[qz,decide_eq_true_eq]at h3;have j:m.p.1*m.p.2.2<=16*24:=yC k4 k4 k4 k4;unfold countP at c;split at c
 ·have:(m.aG[i].length-1)/(m.p.1*m.p.2.2)<=m.aG[i].length-1:=Int.ediv_le_self _ (by rename_i g;simp at g;omega);omega
 ·omega
theorem aaq{m:aE}(b:bV m=eR){i:Nat}(a:i<j9 m.aG):j9 (jD m.aG[i])<=4000:=by have:=aap b a;unfold jD;simp[cG];have:m.aG[i].name.data.size=m.aG[i].name.size:=rfl;omega
theorem HB{m:aE}(a:bV m=eR):∀n,n<=j9 m.aG->j9 ((m.aG.take n).flatMap jD)<=n*4000
 |0,_=>k9
 |n+1,hn=>by
  rw[aH _ _ (show n<j9 m.aG by omega),zj,qy];have c:=HB a n k4;have b:=aaq a (show n<j9 m.aG by omega);have h3:j9 ([m.aG[n]].flatMap jD)=j9 (jD m.aG[n]):=by rw[zg,zT,qL]
  omega
theorem KS{m:aE}(a:bV m=eR):j9 m.aG<=12:=by unfold bV at a;simp only[qz,decide_eq_true_eq]at a;exact a.2.2.1
theorem KT(m:aE)(h:dO m):j9 (gO m)<=100000:=by
 unfold gO;split
 ·rename_i f;have d:=f;unfold bV at d;simp only[qz,decide_eq_true_eq]at d;have j:j9 m.drives<=64:=by
   have a:=d.2.1;unfold pI at a;rw[qU]at a;by_cases g:j9 m.drives<=64
   ·exact g
   ·exfalso;have c:∀i,i<j9 m.drives->(i:Int)<=m.drives.getD i 0:=λi=>by
     induction i with
     |zero=>
      intro e;have:=a 0 (qD.2 e);unfold jW fp at this;simp at this;simpa using this.1
     |succ i ih=>
      intro e;have:=a (i+1) (qD.2 e);have h3:=ih k4;unfold jW fp at this;simp at this;have b:=this.2;simp only[qe]at h3⊢;omega
    have h3:=c 64 k4;have b:=a 64 (qD.2 k4);unfold jW fp at b;simp at b;simp only[qe]at h3;omega
  have k:j9 (m.aG.flatMap jD)<=12*4000:=by have a:=HB f m.aG.length (ql _);rw[qS]at a;have:=zo 4000 (KS f);omega
  simp only[qy,zm,yw,qw,cG];omega
 ·simp
theorem aar(x:cw)(m:aE)(h:hZ)(d:dV h x m)(hz:dO m):ab xm 100 #[ge x] h λv h'=>∃r:Sl,v=r/\Sp h h' [al 5 r 1 aD (gO m)]:=by
 refine QD x ?_;unfold JA;refine(Sp.refl h).boxed λY h1 H1=>?_;refine⟨x,(H1.box 0 k0).aS _ k0,(ado x m h1 (d.up H1.aj) hz).mono ?_⟩;rintro _ h2 ⟨rfl,R2⟩;have W:=H1.up R2.aj;refine⟨_,k0,bj (λe=>?_) λz=>?_⟩
 ·unfold gO;rw[e];exact⟨⟨eH,0,0⟩,k0,((W.nil 5 1 aD).cD [1])⟩
 have ap:x.2.2.1=m.p.1:=congrArg (·.1) d.p;have a2:x.2.2.2.1=m.p.2.1:=congrArg (·.2.1) d.p;have a0:x.2.2.2.2.1=m.p.2.2:=congrArg (·.2.2) d.p;have K:=W.box 0 k0;have c:=KT m hz;unfold gO at c;rw[z,j1 rfl]at c;have hM:∀{h':hZ} {As:List HP},Sp h h' As->dV h' x m:=λ{h' As} J=>d.up J.aj;refine bi ⟨m.seq,by rw[<-d.seq];exact K.cell0 k0,m.next,by rw[<-d.next];exact K.cell k0,?_⟩;have H3:=(W.nil 5 1 aD).bu;refine(sQ ⟨eH,0,0⟩ [] m.seq 4 k6 k9 H3).mono ?_;rintro _ h4 ⟨s4,rfl,H4⟩;refine⟨s4,k0,⟨by rw[<-d.next];exact(H4.box 1 k0).cell k0,trivial⟩,?_⟩;refine(sQ s4 _ m.next 4 k6 sL H4).mono ?_;rintro _ h5 ⟨s5,rfl,H5⟩;refine⟨s5,k0,trivial,?_⟩;have f:=H5.box 1 k0;refine⟨m.p.1,by rw[<-ap];exact f.cell k0,m.p.2.1,by rw[<-a2];exact f.BG 2 1 k0,m.p.2.2,by rw[<-a0];exact f.BG 2 2 k0,m.extra,by rw[<-d.extra];exact f.cell k0,x.2.2.2.2.2.2.1,f.cell k0,?_⟩;have am:=d.drives.len;have X:=bF.len d.aG;dsimp only;rw[eV,eV,eV,eV,eV,am];refine H5.lit ac aD gM k0 [b8 m.p.1,b8 m.p.2.1,b8 m.p.2.2,b8 m.extra,b8 (m.drives.length:Nat)] k0 (show 5*1<=2^20 by decide) k0 λa7 h6 H6=>?_;refine H6.append ac 0 k0 gM ⟨_,_,k0,k0⟩ k0 k6 (λ_=>rfl) (H6.seq 2 k0 λ_=>rfl) iK sL λs7 h7 P=>?_;have P:=P.cD [0,1];refine⟨x.2.2.2.2.2.2.1,(P.box 1 k0).cell k0,?_⟩;have a5:(([]++cb m.seq 4)++cb m.next 4++[b8 m.p.1,b8 m.p.2.1,b8 m.p.2.2,b8 m.extra,b8 (m.drives.length:Nat)]).length=13:=sL
 have bl:=hz.dr;refine MI x.2.2.2.2.2.2.1 m.drives s7 _ P (St.mk' λh' J=>(hM J).drives) k4 k4 λs8 h8 H8=>?_;dsimp only;refine⟨x.2.2.2.2.2.2.2,(H8.box 1 k0).cell k0,?_⟩;dsimp only;rw[eV,X];obtain⟨a,b⟩:∃a,a=([]++cb m.seq 4)++cb m.next 4++[b8 m.p.1,b8 m.p.2.1,b8 m.p.2.2,b8 m.extra,b8 (m.drives.length:Nat)]++m.drives.map b8:=⟨_,rfl⟩
 rw[<-b]at H8;have ar:a.length=13+m.drives.length:=by rw[b];simp[cG];omega
 simp only[qy,zm,yw,qw,cG]at c;refine H8.push ac 0 k0 gM k0 k6 (λ_=>rfl) iK (b8 (m.aG.length:Nat)) k0 k6 k4 λs9 h9 R=>?_;have R:Sp h h9 [al 5 s9 1 aD (a++[b8 (m.aG.length:Nat)]),ao Y 44 (bn x)]:=R;refine⟨x.2.2.2.2.2.2.2,(R.box 1 k0).cell k0,?_⟩;obtain⟨I,Q⟩:=bF.fix d.aG;have bk:=Q.2.1;refine aw (λt:Sl×Nat=>(t.1,(t.2:Int))) (λt h'=>t.2<=m.aG.length/\Sp h h' [al 5 t.1 1 aD (a++[b8 (m.aG.length:Nat)]++(m.aG.take t.2).flatMap jD),ao Y 44 (bn x)]) (λt=>m.aG.length-t.2) (s9,0) k0 ⟨k9,by simpa using R⟩ ?_;rintro⟨o,i⟩ bq ⟨hi,l⟩;dsimp only at*;refine ai (λe=>?_) (λe=>?_)
 ·have q:i<m.aG.length:=k4
  have ay:=oa.up Q l.aj;have ah:=aap z q;have s:((m.aG.take i).flatMap jD).length<=50000:=by have h1:=HB z i hi;have:=KS z;have:i*4000<=12*4000:=zo _ k4;omega
  refine ay.1.ey (g:=bN) i k0 k4 (I[i]'(by omega)) k0 ?_;refine l.alloc ac k0 λT bx ax=>?_;refine ax.storeAll ac 2 k0 k0 (bN (I[i]'(by omega))) k0 k0 k0 k0 λa4 k=>?_;have V:=oa.up Q k.aj;obtain⟨⟨w,y2,y3⟩,y4⟩:=Fix.row V q;obtain⟨E,Z⟩:∃E,E=m.aG[i]:=⟨_,rfl⟩
  rw[<-Z]at w y2 y3 y4 ah;have n:=k.box 2 k0;refine bi ⟨E.name,o8,E.name,o8,?_⟩;rw[eV];refine k.oT ac aD gM k0 [b8 (E.name.size:Nat)] k0 (show 1*1<=2^20 by decide) k0 ⟨o8,o8,trivial⟩ ?_;have B:(a++[b8 (m.aG.length:Nat)]++(m.aG.take i).flatMap jD).length<=160000:=by rw[qy,qy,ar];simp;simp at s;omega
  obtain⟨j,N⟩:∃j,j=a++[b8 (m.aG.length:Nat)]++(m.aG.take i).flatMap jD:=⟨_,rfl⟩
  rw[<-N]at k B;refine k.push ac 0 k0 gM k0 k6 (λ_=>rfl) iK (b8 (E.name.size:Nat)) k0 k6 k4 λa6 bb F=>?_;have H:=F.box 2 k0;refine⟨⟨by rw[<-w];exact H.cell0 k0,by rw[<-w];exact H.cell0 k0,trivial⟩,?_⟩;refine F.ZB ac 0 k0 gM ⟨_,k0,k0⟩ k0 k6 E.name k8 λD ad u=>?_;have y:=u.box 2 k0;refine⟨⟨by rw[<-w];exact y.cell0 k0,trivial⟩,?_⟩;have u:Sp h ad [al 5 D 1 aD (j++[b8 (E.name.size:Nat)]++jr E.name),ao Y 44 (bn x),ao T 94 (bN (I[i]'(by omega)))]:=u;refine bi ⟨E.object,by rw[<-y2];exact y.cell k0,E.length,by rw[<-y3];exact y.cell k0,?_⟩;have a8:=DQ E.name;refine(sQ D _ E.object 3 k6 k8 u).mono ?_;rintro _ a9 ⟨G,rfl,L⟩;have a3:=L.box 2 k0;refine⟨G,k0,⟨by rw[<-y3];exact a3.cell k0,trivial⟩,?_⟩;refine(sQ G _ E.length 2 k6 n7 L).mono ?_;rintro _ br ⟨O,rfl,A⟩;have S:=A.box 2 k0;refine⟨O,k0,trivial,(I[i]'(by omega)).2.2.2,S.cell k0,?_⟩;refine MI (I[i]'(by omega)).2.2.2 E.tries O _ A (St.mk' λh' J=>by rw[Z];exact(Fix.row (oa.up Q J.aj) q).2) n7 k4 λU bd M=>?_;dsimp only;have a4:=KS z;refine⟨(U,i+1),lb,⟨k7,?_⟩,k7⟩;dsimp only;rw[aH _ _ q,zj,<-qt,<-N,zg,zT,qL,<-Z];have e3:j++[b8 (E.name.size:Nat)]++jr E.name++cb E.object 3++cb E.length 2++E.tries.map b8=j++jD E:=by unfold jD jr;simp[qt]
  rw[e3]at M;exact M.cD [0,1]
 ·rw[qi k4]at l;refine⟨o,k0,?_⟩;have e2:a++[b8 (m.aG.length:Nat)]++m.aG.flatMap jD=gO m:=by rw[b];unfold gO;rw[z,j1 rfl];simp[qt]
  rw[e2]at l;exact l.cD [0]
end Go.Qw
namespace Go.Vc
open Go Wl
def go{α:Type}(k:Nat)(f:α->ba)(L:List (Sl×List α)):HP:=⟨λh q=>∀y∈L,Seq h q y.1 k f y.2,λa d y b=>(a y b).aj d,λa c y b=>(a y b).mono c⟩
section
variable {α:Type} {B:aB} {h0 h:hZ} {As:List HP} {k:Nat} {f:α->ba} {L:List (Sl×List α)} {s:Sl} {l:List α}
theorem aa.WM(H:aa B h0 h As)(k:Nat)(f:α->ba):aa B h0 h (go k f []::As):=
 (H.comp (.one (A:=go k f []) (aX.refl _ _) λy a=>by cases a)).bu
theorem aa.WN(H:aa B h0 h (go k f L::uh s k f l::As)):aa B h0 h (go k f ((s,l)::L)::As):=by
 have g:aa B h0 h ((uh s k f l).sep (go k f L)::As):=H.mb;refine g.gF 0 k0 λq ⟨j,i,_,b,c,d,e⟩ y a=>?_;rcases qV.1 a with rfl|a
 ·exact d.mono b
 ·exact(e y a).mono c
end
end Go.Vc
namespace Go.Qw
open Go Go.Vc Go.Proofs Wl
theorem ahz(n:Int):cb n 4=[b8 (q9 n (2^24)),b8 (q9 n (2^16)),b8 (q9 n (2^8)),b8 n]:=by
 have e:q9 n (2^0)=n:=k9
 show[b8 (q9 n (2^24)),b8 (q9 n (2^16)),b8 (q9 n (2^8)),b8 (q9 n (2^0))]=_;rw[e]
theorem aas(seq a c:Int)(b:Sl)(l:aY)(h:hZ)(q:Rd h b 1 aD l)(u:j9 l<=2^20):ab xm 101 #[xb xi seq,xb xi a,xb xi c,b] h λv h'=>∃r:Sl,v=r/\Sp h h' [al 5 r 1 aD (kw seq a c l)]:=by
 refine SU seq a c b ?_;unfold Mf;refine⟨k6,k6,k6,?_⟩;have i:min (24:Int).toNat (qk xi)=24:=rfl;have g:min (16:Int).toNat (qk xi)=16:=rfl;have t:min (8:Int).toNat (qk xi)=8:=rfl;rw[i,g,t,eV,eV,eV,eV,eV,eV,eV];have d:=ahz seq;generalize b8 (q9 seq (2^24))=c1 at d⊢;generalize b8 (q9 seq (2^16))=c2 at d⊢;generalize b8 (q9 seq (2^8))=c3 at d⊢;generalize b8 seq=c4 at d⊢;have e:kw seq a c l=eG 2 ([c1,c2,c3,c4]++([b8 a,b8 c,b8 (b.len:Nat)]++l)):=by unfold kw;rw[d,q.len]
 generalize b8 a=c5 at e⊢;generalize b8 c=c6 at e⊢;generalize b8 (b.len:Nat)=c7 at e⊢;refine(Sp.refl h).lit ac aD gM k0 [c1,c2,c3,c4,c5,c6,c7] k0 (show 7*1<=2^20 by decide) l0 λx w n=>?_;refine n.append ac 0 k0 gM ⟨_,_,k0,k0⟩ k0 k6 (λ_=>rfl) (Seq.up q n.aj) iK k8 λm o k=>?_;have p:Rd o m 1 aD ([c1,c2,c3,c4,c5,c6,c7]++l):=k.seq 0 k0 λ_=>rfl;have f:j9 ([c1,c2,c3,c4,c5,c6,c7]++l)<=2^40:=k8
 rw[e];have j:[c1,c2,c3,c4,c5,c6,c7]++l=[c1,c2,c3,c4]++([c5,c6,c7]++l):=rfl;rw[<-j];generalize [c1,c2,c3,c4,c5,c6,c7]++l=ll at p f⊢;refine(Hz 2 m ll o p f).mono ?_;rintro _ h3 ⟨r,rfl,s⟩;exact⟨r,k0,r,k0,(aa.comp (Sp.zip k.aj) s)⟩
theorem wd(x:cw)(m:aE)(h:hZ)(z:dV h x m)(B:dO m):ab xm 42 #[ge x] h λv h'=>∃r:Sl,v=r/\Sp h h' [gn r (bs m)]:=by
 refine Ob x ?_;unfold GM;refine(Sp.refl h).boxed λw O s=>?_;refine⟨x,(s.box 0 k0).aS _ k0,(aar x m O (z.up s.aj) B).mono ?_⟩;rintro _ M ⟨b,rfl,I⟩;have j:=s.comp I;have k:=KT m B;obtain⟨l,p⟩:∃l,l=gO m:=⟨_,rfl⟩
 rw[<-p]at j k;have J:=(j.own 1 k0).len;have u:=(j.own 1 k0).cap;refine⟨b,k0,k6,?_⟩;have d:qc xi (yb (qc xi ((qc xi (((b.len:Nat):Int)+(48:Int)))-(1:Int))) (48:Int))=(iH l:Int):=by rw[ag ((b.len:Int)+48),ag ((b.len:Int)+48-1),Int.tdiv_eq_ediv_of_nonneg k4];unfold iH;rw[ag (((b.len:Int)+48-1)/48)];omega
 have H:iH l<=3000:=by unfold iH;omega
 rw[d];obtain⟨f,a⟩:∃f:cC,f=bs m:=⟨_,rfl⟩
 have A:j9 f=iH l:=by rw[a,p];simp[bs]
 have g:Sp h M [gn ⟨eH,0,0⟩ (f.take 0),ao w 44 (bn x),al 5 b 1 aD l]:=j.Gi 34 5 1 aD;refine aw (λt:Sl×Nat=>(t.1,(t.2:Int))) (λt h'=>t.2<=iH l/\Sp h h' [gn t.1 (f.take t.2),ao w 44 (bn x),al 5 b 1 aD l]) (λt=>iH l-t.2) (⟨eH,0,0⟩,0) k0 ⟨k9,g⟩ ?_;rintro⟨o,i⟩ h3 ⟨T,g⟩;dsimp only at*;refine ai (λe=>?_) (λe=>?_)
 ·have n:i<iH l:=k4
  have y:48*i<j9 l:=by unfold iH at n;omega
  rw[ag ((i:Int)*48),ag ((i:Int)+1),ag (((i:Int)+1)*48)];obtain⟨c,L⟩:∃c:Nat,c=min (48*i+48) l.length:=⟨_,rfl⟩
  have q:(if((i:Int)+1)*48<((b.len:Nat):Int)then((i:Int)+1)*48 else((b.len:Nat):Int))=(c:Int):=by split<;>omega
  rw[q];refine⟨m.seq,by rw[<-z.seq];exact(g.box 1 k0).cell0 k0,⟨k4,k4,k4⟩,?_⟩;have F:((i:Int)*48).toNat=48*i:=k4
  rw[F,qn];have D:=((g.seq 2 k0 λ_=>rfl).drop (48*i) u).take (c-48*i) ns;have e2:(l.drop (48*i)).take (c-48*i)=(l.drop (48*i)).take 48:=by
   by_cases Q:48*i+48<=j9 l
   ·rw[show c-48*i=48 by omega]
   ·rw[qi ns,qi ns]
  rw[e2,wU]at D;refine(aas m.seq i (iH l) ⟨_,c-48*i,b.cap-48*i⟩ _ h3 (by rw[wU];exact D) k8).mono ?_;rintro _ R ⟨r,rfl,P⟩;have E:=(g.ck P).bc 4 [1,0,2,3];refine⟨r,k0,trivial,?_⟩;refine E.oT ac bo fH k0 [r] k0 (show 1*1<=2^20 by decide) k0 trivial ?_;refine E.IA ac fH k8 λG S K=>⟨trivial,?_⟩
  refine⟨(G,i+1),k0,⟨k7,?_⟩,k7⟩;dsimp only;rw[aH _ _ (show i<j9 f by omega)];have N:f[i]'(by omega)=kw m.seq i (iH l) ((l.drop (48*i)).take 48):=by subst a;subst p;simp[bs]
  rw[N];exact K
 ·rw[qi k4,a]at g;exact⟨o,k0,g.cD [0]⟩
theorem Vi(s:Sl)(a:List eF)(h:hZ)(c:Rd h s 4 bN a)(d:j9 a<=2^30):ab xm 129 #[s] h λv h'=>∃r:Sl,v=r/\Sp h h' [al 94 r 4 bN a]:=by
 refine nk s ?_;unfold jz;refine bQ (λe=>?_) (λe=>?_)
 ·have:=c.isNil e;subst this;exact⟨⟨eH,0,0⟩,k0,(Sp.refl h).nil 94 4 bN⟩
 ·refine(Sp.refl h).lit ac bN adn k0 ([]:List eF) k0 k6 k0 λj k b=>?_;refine b.append ac 0 k0 adn ⟨_,_,k0,k0⟩ k0 k6 (λ_=>rfl) (Seq.up c b.aj) WL k8 λg i f=>?_;exact⟨g,k0,f⟩
def IT(pool:List (Sl×au))(p:eF×Wl.bK):Prop:=(p.1.1=p.2.name/\p.1.2.1=p.2.object/\p.1.2.2.1=p.2.length)/\(p.1.2.2.2,p.2.tries)∈pool
theorem aa.Tk{B:aB}{l h:hZ}{As:List HP}{y:cw}{m:aE}{L:List (eF×Wl.bK)}{pool:List (Sl×au)}(d:y.1=m.seq/\y.2.1=m.next/\(y.2.2.1,y.2.2.2.1,y.2.2.2.2.1)=m.p/\y.2.2.2.2.2.1=m.extra)(n:L.map zH=m.aG)(z:∀p∈L,IT pool p)
  (H:aa B l h (go 1 aq pool::al 3 y.2.2.2.2.2.2.1 1 aq m.drives::al 94 y.2.2.2.2.2.2.2 4 bN (L.map qM)::As)):aa B l h (dC y m::As):=by
 have k:=(H.own 2 k0)
 have g:=(H.own 1 k0)
 have v:=((H.freeze 1 k0 λ_=>rfl).freeze 2 k0 λ_=>rfl).mb.mb;refine v.gF 0 k0 λq ⟨F,E,_,b,c,u,w⟩=>?_;obtain⟨I,G,_,D,A,z3,z4⟩:=w;refine⟨d.1,d.2.1,d.2.2.1,d.2.2.2,z3.mono λx i=>c x (D x i),⟨L.map qM,u.mono b,by rw[<-n];simp,λj r e a f=>?_⟩,g.cap,k.cap⟩;rw[<-n]at f;rw[qR]at a f;cases hj:L[j]? with
 |none=>rw[hj]at a;cases a
 |some p=>
  rw[hj]at a f;have s:=zS.inj (show dB p.1=dB r from a);have e2:=zS.inj (show dB p.2=dB e from f);subst s;subst e2;obtain⟨o,t⟩:=z p (wX hj);exact⟨o,(z4 _ t).mono λx i=>c x (A x i)⟩
theorem Do(x:cw)(m:aE)(h:hZ)(w:dV h x m)(Q:dO m):ab xm 61 #[ge x] h λv h'=>∃(y:cw) (L:List (eF×Wl.bK)) (pool:List (Sl×au)),v=ge y/\(y.1=m.seq/\y.2.1=m.next/\(y.2.2.1,y.2.2.2.1,y.2.2.2.2.1)=m.p/\y.2.2.2.2.2.1=m.extra)/\L.map zH=m.aG/\(∀p∈L,IT pool p)/\
  Sp h h' [go 1 aq pool,al 3 y.2.2.2.2.2.2.1 1 aq m.drives,al 94 y.2.2.2.2.2.2.2 4 bN (L.map qM)]:=by
 refine SK x ?_;unfold LU;refine(Sp.refl h).boxed λR k H1=>?_;refine H1.alloc ac k0 λS u N=>?_;have E:=N.box 0 k0;have hM:∀{h':hZ} {As:List HP},Sp h h' As->dV h' x m:=λ{h' As} H'=>w.up H'.aj;obtain⟨b,I⟩:=bF.fix w.aG;have Y:=I.2.1;have ad:=Q.dr;have ap:=Q.ob;refine bi ⟨x.2.2.2.2.2.2.1,E.cell k0,x.2.2.2.2.2.2.2,E.cell k0,?_⟩;refine(jS _ m.drives u (hM N).drives k4).mono ?_;rintro _ h3 ⟨d,rfl,R3⟩;have J:=N.comp R3;refine⟨d,k0,⟨(J.box 0 k0).cell k0,trivial⟩,?_⟩;refine(Vi _ b h3 (oa.up I J.aj).1 k4).mono ?_;rintro _ h4 ⟨o,rfl,R4⟩;have H4:=J.comp R4;refine⟨o,k0,trivial,?_⟩;refine H4.store ac 0 k0 k0 6 [d] k0 k0 k0 nq λh5 U=>⟨trivial,?_⟩
 refine U.store ac 0 k0 k0 7 [o] k0 k0 k0 nq λh6 q=>⟨trivial,?_⟩
 obtain⟨y,n⟩:∃y:cw,y=(x.1,x.2.1,x.2.2.1,x.2.2.2.1,x.2.2.2.2.1,x.2.2.2.2.2.1,d,o):=⟨_,rfl⟩
 have q:Sp h h6 [ao R 44 (bn y),ao S 44 [xb xi 0,xb xi 0,xb xi 0,xb xi 0,xb xi 0,xb xi 0,xc eH 0 0,xc eH 0 0],al 3 d 1 aq m.drives,al 94 o 4 bN b]:=by rw[n];exact q
 have c:y.2.2.2.2.2.2.2=o:=by rw[n]
 have P:y.2.2.2.2.2.2.1=d:=by rw[n]
 refine⟨o,by rw[<-c];exact(q.box 0 k0).cell k0,?_⟩;have am:=(q.own 3 k0).len;have q:=q.WM 1 aq;refine aw (λt:List eF×List (Sl×au)=>(t.1.length:Int)) (λt h'=>t.1.length<=m.aG.length/\(∀(j:Nat) r e,t.1[j]?=dB r->m.aG[j]?=dB e->(r.1=e.name/\r.2.1=e.object/\r.2.2.1=e.length)/\(r.2.2.2,e.tries)∈t.2)/\Sp h h' [go 1 aq t.2,ao R 44 (bn y),ao S 44 [xb xi 0,xb xi 0,xb xi 0,xb xi 0,xb xi 0,xb xi 0,xc eH 0 0,xc eH 0 0],al 3 d 1 aq m.drives,al 94 o 4 bN (t.1++b.drop t.1.length)]) (λt=>m.aG.length-t.1.length) ([],[]) k0 ⟨k9,λj r e k=>by simp at k,q⟩ ?_;rintro⟨a,pool⟩ X ⟨hi,A,l⟩;dsimp only at*;refine ai (λe=>?_) (λe=>?_)
 ·have s:a.length<m.aG.length:=k4
  have F7:=oa.up I l.aj;obtain⟨⟨Z,y2,y3⟩,V⟩:=Fix.row F7 s;have f:(a++b.drop a.length)[a.length]'(by simp;omega)=b[a.length]'(by omega):=k9
  obtain⟨O,ha,zz,hc,rfl⟩:=(l.seq 4 rfl λ_=>rfl).ey (g:=bN) (i:=(a.length:Int)) a.length rfl k8 (b[a.length]'(by omega)) (by rw[f]) (K:=λt=>t=b[a.length]'(by omega)) k0;refine⟨o,by rw[<-c];exact(l.box 1 k0).cell k0,o,by rw[<-c];exact(l.box 1 k0).cell k0,O,ha,_,hc.2.2.2.1,?_⟩;have ah:=(Q.nm _ (qh s)).2;refine(jS _ m.aG[a.length].tries X V k4).mono ?_;rintro _ h8 ⟨t,rfl,W⟩;have z:=l.ck W;refine⟨t,k0,⟨by rw[<-c];exact(z.box 2 k0).cell k0,by rw[<-c];exact(z.box 2 k0).cell k0,trivial⟩,?_⟩;refine z.RQ ac 5 k0 (λ_=>rfl) k0 a.length k0 k8 3 [t] k9 ((b[a.length]'(by omega)).1,(b[a.length]'(by omega)).2.1,(b[a.length]'(by omega)).2.2.1,t) k0 k0 k0 (by rw[f];simp[bN]) λh9 D=>⟨trivial,?_⟩
  have D:=(D.freeze 0 k0 λ_=>rfl).bc 6 [1,0,2,3,4,5];have D:=D.WN;refine⟨(a++[((b[a.length]'(by omega)).1,(b[a.length]'(by omega)).2.1,(b[a.length]'(by omega)).2.2.1,t)],(t,m.aG[a.length].tries)::pool),by simp only[qy,List.length_singleton];rw[ag _];rfl,⟨k8,λj r e k u=>?_,?_⟩,k8⟩
  ·dsimp only at k⊢;by_cases F:j<a.length
   ·rw[qp F]at k;obtain⟨g1,T⟩:=A j r e k u;exact⟨g1,List.mem_cons_of_mem _ T⟩
   ·have M:j=a.length:=by have:=(qm.1 k).1;simp at this;omega
    subst M;rw[qj (ql _),zc]at k;simp at k;rw[qd s]at u;injection u with u
    subst k;subst u;exact⟨⟨Z,y2,y3⟩,List.mem_cons_self⟩
  ·dsimp only;have e4:(a++b.drop a.length).set a.length ((b[a.length]'(by omega)).1,(b[a.length]'(by omega)).2.1,(b[a.length]'(by omega)).2.2.1,t)=a++[((b[a.length]'(by omega)).1,(b[a.length]'(by omega)).2.1,(b[a.length]'(by omega)).2.2.1,t)]++b.drop (a++[((b[a.length]'(by omega)).1,(b[a.length]'(by omega)).2.1,(b[a.length]'(by omega)).2.2.1,t)]).length:=by rw[qX _ _ (ql _),zc,qP (show a.length<b.length by omega),zx];simp
   rw[<-e4];exact D
 ·have ar:a.length=m.aG.length:=k4
  rw[zi k4,qL]at l;refine⟨y,(l.box 1 k0).aS _ k0,?_⟩;refine l.storeAll ac 2 k0 k0 (bn y) k0 k0 k0 k0 λh8 z=>?_;have G:(a.zip m.aG).map qM=a:=List.map_fst_zip k4;have H:(a.zip m.aG).map zH=m.aG:=List.map_snd_zip k4;refine⟨y,(z.box 2 k0).aS _ k0,y,a.zip m.aG,pool,k0,⟨by rw[n];exact w.seq,by rw[n];exact w.next,by rw[n];exact w.p,by rw[n];exact w.extra⟩,H,λp hp=>?_,?_⟩
  ·obtain⟨j,F,rfl⟩:=qK hp;have B:j<a.length/\j<m.aG.length:=by simp at F;omega
   have:=A j _ _ (qd B.1) (qd B.2);rw[yX];exact this
  ·rw[G,P,c];exact z.cD [0,3,4]
theorem MJ(x:cw)(m:aE)(h:hZ)(d:dV h x m)(a:dO m):ab xm 61 #[ge x] h λv h'=>∃y:cw,v=ge y/\Sp h h' [dC y m]:=by refine(Do x m h d a).mono ?_;rintro _ h' ⟨y,L,pool,rfl,c,e,b,H⟩;exact⟨y,k0,aa.Tk c e b H⟩
end Go.Qw
namespace Go.Vc
open Go Wl
abbrev bE:=Int×Int×Int×Int×Int×Int×Int×Sl
abbrev bP(x:bE):ba:=[xb xi x.1,xb xi x.2.1,xb xi x.2.2.1,xb xi x.2.2.2.1,xb xi x.2.2.2.2.1,xb xi x.2.2.2.2.2.1,xb xk x.2.2.2.2.2.2.1,x.2.2.2.2.2.2.2]
abbrev recv(x:bE):Value:=xh #[xb xi x.1,xb xi x.2.1,xb xi x.2.2.1,xb xi x.2.2.2.1,xb xi x.2.2.2.2.1,xb xi x.2.2.2.2.2.1,xb xk x.2.2.2.2.2.2.1,x.2.2.2.2.2.2.2]
theorem aga:∀x,∀c∈bP x,c.oneCell'=eR:=by intro x c a;simp[bP]at a;rcases a with rfl|rfl|rfl|rfl|rfl|rfl|rfl|rfl<;>rfl
def iR(x y:Int):Int:=if x<y then-1 else if x>y then 1 else 0
def mv(a b:bE):Int:=if iR a.1 b.1≠0 then iR a.1 b.1 else if iR a.2.1 b.2.1≠0 then iR a.2.1 b.2.1 else iR a.2.2.1 b.2.2.1
def cB(a b:bE):Bool:=decide (mv a b<=0)
theorem jE(x y:Int):(x<y/\iR x y=-1)∨(x>y/\iR x y=1)∨(x=y/\iR x y=0):=by
 unfold iR;by_cases a:x<y
 ·exact .inl ⟨a,j1 a⟩
 ·by_cases b:x>y
  ·exact .inr (.inl ⟨b,by rw[j3 a,j1 b]⟩)
  ·exact .inr (.inr ⟨k4,by rw[j3 a,j3 b]⟩)
theorem Dp(a b:bE):mv a b<=0↔a.1<b.1∨(a.1=b.1/\(a.2.1<b.2.1∨(a.2.1=b.2.1/\a.2.2.1<=b.2.2.1))):=by
 unfold mv;rcases jE a.1 b.1 with⟨h1,e1⟩|⟨h1,e1⟩|⟨h1,e1⟩
 ·rw[e1,j1 k6];omega
 ·rw[e1,j1 k6];omega
 ·rw[e1,j3 k6];rcases jE a.2.1 b.2.1 with⟨h2,e2⟩|⟨h2,e2⟩|⟨h2,e2⟩
  ·rw[e2,j1 k6];omega
  ·rw[e2,j1 k6];omega
  ·rw[e2,j3 k6];rcases jE a.2.2.1 b.2.2.1 with⟨h3,e3⟩|⟨h3,e3⟩|⟨h3,e3⟩<;>rw[e3]<;>omega
theorem sq(a b:bE):mv a b<0↔¬cB b a=eR:=by
 unfold cB;rw[decide_eq_true_eq,Dp];unfold mv;rcases jE a.1 b.1 with⟨h1,e1⟩|⟨h1,e1⟩|⟨h1,e1⟩
 ·rw[e1,j1 k6];omega
 ·rw[e1,j1 k6];omega
 ·rw[e1,j3 k6];rcases jE a.2.1 b.2.1 with⟨h2,e2⟩|⟨h2,e2⟩|⟨h2,e2⟩
  ·rw[e2,j1 k6];omega
  ·rw[e2,j1 k6];omega
  ·rw[e2,j3 k6];rcases jE a.2.2.1 b.2.2.1 with⟨h3,e3⟩|⟨h3,e3⟩|⟨h3,e3⟩<;>rw[e3]<;>omega
theorem aat(a b:bE):mv a b=0↔(a.1=b.1/\a.2.1=b.2.1/\a.2.2.1=b.2.2.1):=by
 unfold mv;rcases jE a.1 b.1 with⟨h1,e1⟩|⟨h1,e1⟩|⟨h1,e1⟩
 ·rw[e1,j1 k6];omega
 ·rw[e1,j1 k6];omega
 ·rw[e1,j3 k6];rcases jE a.2.1 b.2.1 with⟨h2,e2⟩|⟨h2,e2⟩|⟨h2,e2⟩
  ·rw[e2,j1 k6];omega
  ·rw[e2,j1 k6];omega
  ·rw[e2,j3 k6];rcases jE a.2.2.1 b.2.2.1 with⟨h3,e3⟩|⟨h3,e3⟩|⟨h3,e3⟩<;>rw[e3]<;>omega
theorem dX:Ord cB:=⟨λa b c e d=>by
 unfold cB at*;rw[decide_eq_true_eq,Dp]at*;omega,λa b=>by
 unfold cB;rw[Bool.or_eq_true,decide_eq_true_eq,decide_eq_true_eq,Dp,Dp];omega⟩
theorem Tl{α:Type}(A B C:List α)(x y:α){i j:Nat}(b:i=j9 A)(c:j=j9 A+1+j9 B):
  (A++x::(B++y::C))[i]?=dB x/\(A++x::(B++y::C))[j]?=dB y/\((A++x::(B++y::C)).set i y).set j x=A++y::(B++x::C)/\((A++x::(B++y::C)).set j x).set i y=A++y::(B++x::C):=by
 subst b;subst c;have a:j9 A+1+j9 B-j9 A=j9 B+1:=k4
 refine⟨by rw[qj (ql _),zc];rfl,?_,?_,?_⟩
 ·rw[qj k4,a,qE,qj (ql _),zc];rfl
 ·rw[qX _ _ (ql _),zc,zx,qX _ _ k4,a,wi,qX _ _ (ql _),zc,zx]
 ·rw[qX _ _ (show A.length<=j9 A+1+j9 B by omega),a,wi,qX _ _ (ql _),zc,zx,qX _ _ (ql _),zc,zx]
end Go.Vc
namespace Go.Qw
open Go Go.Vc Go.Proofs Wl
abbrev ahA:ce C.toCG 189 170 8 [xb xi 0,xb xi 0,xb xi 0,xb xi 0,xb xi 0,xb xi 0,xb xk 0,xc eH 0 0] 80:=⟨_,_,k0,k0,k0,k0,k0,k0⟩
theorem uq(x y:Int)(h:hZ):ab xm 183 #[xb xi x,xb xi y] h λv h'=>v=xb xi (iR x y)/\h'=h:=by
 refine rS x y ?_;unfold nS;have a:∀z:Int,ab xm 233 #[xb xi z] h λv h'=>v=xg eS/\h'=h:=λz=>by
  refine uG z ?_;unfold rf;exact⟨k9,k0⟩
 refine(a x).mono ?_;rintro _ _ ⟨rfl,rfl⟩;refine⟨_,k0,(a y).mono ?_⟩;rintro _ _ ⟨rfl,rfl⟩;refine⟨_,k0,bQ (λe=>ln) λ_=>bQ (λe=>ln) λ_=>?_⟩;refine ai (λe=>⟨by rw[iR,j1 e],k0⟩) λe=>ai (λe2=>⟨by rw[iR,j3 e,j1 e2],k0⟩) λe2=>⟨by rw[iR,j3 e,j3 e2],k0⟩
theorem rj(a b:bE)(h:hZ):ab xm 197 #[recv a,recv b] h λv h'=>v=xb xi (mv a b)/\Sp h h' []:=by
 refine Oq a b ?_;unfold Hg;refine(Sp.refl h).boxed λr J G=>G.boxed λs g f=>?_;have f:Sp h g [ao r 170 (bP a),ao s 170 (bP b)]:=f;have o:=f.box 0 k0;have t:=f.box 1 k0;have z:hY g (r.add 1)=dB (xb xi a.2.1):=o.cell k0;have A:hY g (s.add 1)=dB (xb xi b.2.1):=t.cell k0;have c3:hY g (r.add 2)=dB (xb xi a.2.2.1):=o.cell k0;have x:hY g (s.add 2)=dB (xb xi b.2.2.1):=t.cell k0;refine⟨a.1,o.cell0 k0,b.1,t.cell0 k0,a.2.1,z,b.2.1,A,a.2.2.1,c3,b.2.2.1,x,(uq _ _ g).mono ?_⟩;rintro _ _ ⟨rfl,rfl⟩;refine⟨_,k0,⟨x,c3,A,z,trivial⟩,(uq _ _ _).mono ?_⟩;rintro _ _ ⟨rfl,rfl⟩;refine⟨_,k0,⟨x,c3,trivial⟩,(uq _ _ _).mono ?_⟩;rintro _ K ⟨rfl,rfl⟩;refine⟨_,k0,trivial,?_⟩;refine f.oT ac aq ⟨_,_,k0,k0,k0,k0,k0,k0⟩ k0 [iR a.1 b.1,iR a.2.1 b.2.1,iR a.2.2.1 b.2.2.1] k0 (show 3*1<=2^20 by decide) k0 trivial ?_;refine f.lit ac aq ⟨_,_,k0,k0,k0,k0,k0,k0⟩ k0 [iR a.1 b.1,iR a.2.1 b.2.1,iR a.2.2.1 b.2.2.1] k0 (show 3*1<=2^20 by decide) k0 λd y u=>?_;refine(Dc d (R:=λv h'=>v=xb xi (mv a b)/\h'=y) ?_).mono ?_
 ·unfold Af;have B:=u.seq 2 k0 λ_=>rfl;have F:=(u.own 2 k0).len;obtain⟨L,k⟩:∃L,L=[iR a.1 b.1,iR a.2.1 b.2.1,iR a.2.2.1 b.2.2.1]:=⟨_,rfl⟩
  rw[<-k]at B F;have D:j9 L=3:=by rw[k];rfl
  refine aw (λi:Nat=>(i:Int)) (λi h'=>i<=3/\(∀j,j<i->L[j]?=dB 0)/\h'=y) (λi=>3-i) 0 k0 ⟨k4,k4,k0⟩ ?_;rintro i H ⟨M,n,rfl⟩;have c:0<i->iR a.1 b.1=0:=λh0=>by have:=n 0 h0;rw[k]at this;simpa using this
  have m:1<i->iR a.2.1 b.2.1=0:=λh0=>by have:=n 1 h0;rw[k]at this;simpa using this
  have p:2<i->iR a.2.2.1 b.2.2.1=0:=λh0=>by have:=n 2 h0;rw[k]at this;simpa using this
  refine ai (λe=>?_) (λe=>?_)
  ·have l:i<j9 L:=by have E:(i:Int)<(d.len:Int):=e;omega
   refine B.bC i k0 l L[i] k0 ?_;refine bR (λe2=>⟨?_,k0⟩) (λe2=>?_)
   ·congr 1;unfold mv;have:i=0∨i=1∨i=2:=k4
    subst k;rcases this with rfl|rfl|rfl
    ·exact(j1 (show iR a.1 b.1≠0 from e2)).symm
    ·rw[j3 (by rw[c k4];simp)];exact(j1 (show iR a.2.1 b.2.1≠0 from e2)).symm
    ·rw[j3 (by rw[c k4];simp),j3 (by rw[m k4];simp)];rfl
   ·refine⟨i+1,ld,⟨k4,λj I=>?_,k0⟩,k4⟩;by_cases q:j=i
    ·subst q;rw[qd l,e2]
    ·exact n j k4
  ·have w:i=3:=by have E:¬(i:Int)<(d.len:Int):=e;omega
   subst w;refine⟨?_,k0⟩;unfold mv;rw[c k4,m k4,p k4];rfl
 ·rintro _ H ⟨rfl,rfl⟩;exact⟨_,k0,trivial,k0,.zip u.aj⟩
abbrev cQ(s:Sl)(d:List bE):HP:=al 170 s 8 bP d
section
variable {B:aB} {h0 h h':hZ} {As:List HP} {s:Sl} {d:List bE}
theorem su(X U M V Y:List bE)(n:Nat)(a b:Int)(P:j9 U=n)(Q:j9 V=n)(E:a=(j9 X:Int))(K:b=(j9 X+n+j9 M:Nat))(N:j9 X+n+j9 M+n+j9 Y<=2^40)(H:aa B h0 h (cQ s (X++(U++(M++(V++Y))))::As)):
  ab xm 329 #[s,xb xi a,xb xi b,xb xi n,.func (.func 197) #[] #[]] h λv h'=>v=.tuple #[]/\aa B h0 h' (cQ s (X++(V++(M++(U++Y))))::As):=by
 refine mO s a b n (197,#[],#[]) ?_;unfold je;subst E;subst K;refine aw (λk:Nat=>(k:Int)) (λk h'=>k<=n/\aa B h0 h' (cQ s (X++(V.take k++U.drop k++(M++(U.take k++V.drop k++Y))))::As)) (λk=>n-k) 0 k0 ⟨k4,n4⟩ ?_;rintro k S ⟨T,d⟩;refine ai (λe=>?_) (λe=>?_)
 ·have I:k<n:=k4
  have p:k<j9 U:=k4
  have o:k<j9 V:=k4
  have f:X++(V.take k++U.drop k++(M++(U.take k++V.drop k++Y)))=(X++V.take k)++U[k]::((U.drop (k+1)++(M++U.take k))++V[k]::(V.drop (k+1)++Y)):=by rw[qP p,qP o];simp only[qt,zA,z8]
  have c:X++(V.take (k+1)++U.drop (k+1)++(M++(U.take (k+1)++V.drop (k+1)++Y)))=(X++V.take k)++V[k]::((U.drop (k+1)++(M++U.take k))++U[k]::(V.drop (k+1)++Y)):=by rw[aH V k o,aH U k p];simp only[qt,zA,z8]
  rw[f]at d;obtain⟨y,x,z,G⟩:=Tl (X++V.take k) (U.drop (k+1)++(M++U.take k)) (V.drop (k+1)++Y) U[k] V[k] (i:=j9 X+k) (j:=j9 X+n+j9 M+k) k8 k8;obtain⟨D,F⟩:∃D,D=(X++V.take k)++U[k]::((U.drop (k+1)++(M++U.take k))++V[k]::(V.drop (k+1)++Y)):=⟨_,rfl⟩
  rw[<-F]at d y x z G;have u:=(qm.1 y)
  have w:=(qm.1 x)
  obtain⟨m,t⟩:=u;obtain⟨q,r⟩:=w;have O:qc xi ((j9 X:Int)+k)=((j9 X+k:Nat):Int):=l5
  have J:qc xi (((j9 X+n+j9 M:Nat):Int)+k)=((j9 X+n+j9 M+k:Nat):Int):=l5
  rw[O,J];refine(d.seq 0 k0 λ_=>rfl).ey (g:=bP) _ k0 q V[k] tp ?_;refine(d.seq 0 k0 λ_=>rfl).ey (g:=bP) _ k0 m U[k] (by rw[t]) ?_;refine d.set ac 0 k0 (λ_=>rfl) k0 (j9 X+k) k0 m V[k] k0 k0 k0 λR A=>⟨trivial,?_⟩
  refine A.set ac 0 k0 (λ_=>rfl) k0 (j9 X+n+j9 M+k) k0 x0 U[k] k0 k0 k0 λh3 L=>⟨trivial,?_⟩
  refine⟨k+1,ld,⟨k4,?_⟩,k4⟩;rw[c,<-z];exact L
 ·have:k=n:=k4
  subst this;rw[qi (l:=V) k4,zi (l:=U) k4,qi (l:=U) k4,zi (l:=V) k4]at d;refine⟨k0,?_⟩;simpa using d
theorem Vj(X U V Y:List bE)(a m b:Int)(z:0<j9 U)(y:0<j9 V)(F:a=(j9 X:Int))(w:m=(j9 X+j9 U:Nat))(K:b=(j9 X+j9 U+j9 V:Nat))(L:j9 X+j9 U+j9 V+j9 Y<=2^40)(H:aa B h0 h (cQ s (X++(U++(V++Y)))::As)):
  ab xm 322 #[s,xb xi a,xb xi m,xb xi b,.func (.func 197) #[] #[]] h λv h'=>v=.tuple #[]/\aa B h0 h' (cQ s (X++(V++(U++Y)))::As):=by
 refine nI s a m b (197,#[],#[]) ?_;unfold jP;subst F;subst w;subst K;have D:qc xi (((j9 X+j9 U:Nat):Int)-j9 X)=(j9 U:Int):=l5
 have e2:qc xi (((j9 X+j9 U+j9 V:Nat):Int)-(j9 X+j9 U:Nat))=(j9 V:Int):=l5
 rw[D,e2];refine aw (λt:List bE×List bE×List bE×List bE=>((j9 t.2.1:Int),(j9 t.2.2.1:Int))) (λt h'=>0<j9 t.2.1/\0<j9 t.2.2.1/\X.length+j9 t.1+j9 t.2.1=j9 X+j9 U/\V++U=t.1++((t.2.2.1++t.2.1)++t.2.2.2)/\aa B h0 h' (cQ s (X++(t.1++(t.2.1++(t.2.2.1++(t.2.2.2++Y)))))::As)) (λt=>j9 t.2.1+j9 t.2.2.1) ([],U,V,[]) k0 ⟨z,y,k9,k9,n4⟩ ?_;rintro⟨P,A,c,Q⟩ u ⟨N,O,w,o,r⟩;dsimp only at*;have g:=congrArg vd o;simp only[qy]at g;refine bR (λe=>ai (λJ=>?_) λJ=>?_) (λe=>?_)
 ·--the left one is longer
  have q:j9 c<j9 A:=k4
  have I:A=A.take c.length++A.drop c.length:=(qJ _ _).symm;have l:j9 (A.take c.length)=j9 c:=k8
  have n:qc xi (((j9 X+j9 U:Nat):Int)-j9 A)=(j9 (X++P):Int):=by rw[ag _];simp;omega
  rw[n];have d:aa B h0 u (cQ s ((X++P)++(A.take c.length++(A.drop c.length++(c++(Q++Y)))))::As):=by
   have:(X++P)++(A.take c.length++(A.drop c.length++(c++(Q++Y))))=X++(P++(A++(c++(Q++Y)))):=by
    conv=>rhs;rw[I]
    simp only[qt,zA,z8]
   rw[this];exact r
  refine(su (X++P) (A.take c.length) (A.drop c.length) c (Q++Y) c.length _ _ l k0 k0 k8 k8 d).mono ?_;rintro _ x ⟨rfl,f⟩;refine⟨(),k0,(P++c,A.drop c.length,A.take c.length,Q),?_,⟨n8,k7,n8,?_,?_⟩,n8⟩
  ·dsimp only;rw[l,ag _];simp;omega
  ·dsimp only;rw[o,qJ];simp
  ·dsimp only;have:X++((P++c)++(A.drop c.length++(A.take c.length++(Q++Y))))=(X++P)++(c++(A.drop c.length++(A.take c.length++(Q++Y)))):=k9
   rw[this];exact f
 ·have q:j9 A<j9 c:=k4
  obtain⟨j,M⟩:∃j,j=j9 c-j9 A:=⟨_,rfl⟩
  have E:c=c.take j++c.drop j:=(qJ _ _).symm;have k:j9 (c.drop j)=j9 A:=k8
  have i:j9 (c.take j)=j:=k8
  have n:qc xi (((j9 X+j9 U:Nat):Int)-j9 A)=(j9 (X++P):Int):=by rw[ag _];simp;omega
  have G:qc xi ((qc xi (((j9 X+j9 U:Nat):Int)+j9 c))-j9 A)=((j9 (X++P)+j9 A+j9 (c.take j):Nat):Int):=by rw[ag (((j9 X+j9 U:Nat):Int)+j9 c),ag _,i];simp;omega
  rw[n,G];have d:aa B h0 u (cQ s ((X++P)++(A++(c.take j++(c.drop j++(Q++Y)))))::As):=by
   have:(X++P)++(A++(c.take j++(c.drop j++(Q++Y))))=X++(P++(A++(c++(Q++Y)))):=by
    conv=>rhs;rw[E]
    simp only[qt,zA,z8]
   rw[this];exact r
  refine(su (X++P) A (c.take j) (c.drop j) (Q++Y) A.length _ _ k0 k k0 k0 k8 d).mono ?_;rintro _ x ⟨rfl,f⟩;refine⟨(),k0,(P,c.drop j,c.take j,A++Q),?_,⟨k7,k7,k7,?_,?_⟩,k7⟩
  ·dsimp only;rw[i,k,ag _];congr 1;omega
  ·dsimp only;rw[o,qJ];simp
  ·dsimp only;have:X++(P++(c.drop j++(c.take j++((A++Q)++Y))))=(X++P)++(c.drop j++(c.take j++(A++(Q++Y)))):=k9
   rw[this];exact f
 ·have p:j9 A=j9 c:=k4
  have n:qc xi (((j9 X+j9 U:Nat):Int)-j9 A)=(j9 (X++P):Int):=by rw[ag _];simp;omega
  rw[n];have d:aa B h0 u (cQ s ((X++P)++(A++([]++(c++(Q++Y)))))::As):=by
   have:(X++P)++(A++([]++(c++(Q++Y))))=X++(P++(A++(c++(Q++Y)))):=k9
   rw[this];exact r
  refine(su (X++P) A [] c (Q++Y) A.length _ _ k0 p.symm k0 k8 k8 d).mono ?_;rintro _ x ⟨rfl,f⟩;refine⟨(),k0,k0,?_⟩;have:X++(V++(U++Y))=(X++P)++(c++([]++(A++(Q++Y)))):=by
   have:V++(U++Y)=(V++U)++Y:=k9
   rw[this,o];simp
  rw[this];exact f
end
end Go.Qw
namespace Wl
open Go
theorem XZ(l:aY)(x:UInt8):dv (l++[x])=dv l*256+x.toNat:=by unfold dv;rw[List.foldl_append];rfl
theorem Tm:∀l:aY,j9 l<=4->0<=dv l/\dv l<4294967296/\(j9 l<=3->dv l<16777216)
 |[],_=>by simp[dv]
 |[a],_=>by have:=a.toNat_lt;simp only[dv,zC,wM];omega
 |[a,b],_=>by have:=a.toNat_lt;have:=b.toNat_lt;simp only[dv,zC,wM];omega
 |[a,b,c],_=>by have:=a.toNat_lt;have:=b.toNat_lt;have:=c.toNat_lt;simp only[dv,zC,wM];omega
 |[a,b,c,d],_=>by have:=a.toNat_lt;have:=b.toNat_lt;have:=c.toNat_lt;have:=d.toNat_lt;simp only[dv,zC,wM,zm,yw];omega
 |_::_::_::_::_::_,h=>o5
theorem ahB(n x:Nat)(e:n<2^32)(f:x<256):qc xi (((qF (qk xi) (qc xi ((n:Int)*2^min (8:Int).toNat (qk xi)))|||qF (qk xi) (qc xi (x:Int))).toNat:Nat):Int)=(n:Int)*256+x:=by
 have d:min (8:Int).toNat (qk xi)=8:=rfl;rw[d];have a:qc xi ((n:Int)*2^8)=((n*256:Nat):Int):=by rw[Go.Vc.ag _];omega
 have e2:qc xi (x:Int)=((x:Nat):Int):=Go.Vc.ag _;rw[a,e2];have c:(qF (qk xi) ((n*256:Nat):Int)|||qF (qk xi) ((x:Nat):Int)).toNat=n*256+x:=by show((qF 64 ((n*256:Nat):Int)|||qF 64 ((x:Nat):Int):BitVec 64)).toNat=n*256+x;rw[BitVec.toNat_or,wV,wV,BitVec.toNat_ofNat,BitVec.toNat_ofNat,yT k4,yT k4];have:=Nat.shiftLeft_add_eq_or_of_lt (b:=x) (i:=8) k4 n;rw[Nat.shiftLeft_eq,show(2:Nat)^8=256 from rfl]at this;omega
 rw[c,Go.Vc.ag _];omega
end Wl
namespace Go.Vc
open Go Wl
def fv:jy bE cX:=⟨λh q a b=>(a.1=b.object/\a.2.1=b.block/\a.2.2.1=b.id/\(a.2.2.2.1,a.2.2.2.2.1,a.2.2.2.2.2.1)=b.p/\a.2.2.2.2.2.2.1=b.seed/\0<=b.seed/\b.seed<4294967296)/\Seq h q a.2.2.2.2.2.2.2 1 aD b.data,λa d=>⟨a.1,a.2.aj d⟩,λa c=>⟨a.1,a.2.mono c⟩⟩
end Go.Vc
namespace Go.Qw
open Go Go.Vc Go.Proofs Wl
theorem Am{p q:aB}(a b:Sl)(c d:aY)(h:hZ)(e:Seq h p a 1 aD c)(f:Seq h q b 1 aD d):
  ab xm 99 #[a,b] h λv h'=>v=xg (decide (c=d))/\h'=h:=by
 refine Me a b ?_;unfold Fg;refine Wz ac ⟨_,k0,k0⟩ ⟨_,k0,k0⟩ ⟨_,k0,k0⟩ e (Wz ac ⟨_,k0,k0⟩ ⟨_,k0,k0⟩ ⟨_,k0,k0⟩ f ⟨?_,k0⟩);rw[ByteArray.toList_mk,ByteArray.toList_mk];have:(c==d)=decide (c=d):=by rw[Bool.eq_iff_iff];simp
 rw[this]
theorem Ya(b:Sl)(c:aY)(h:hZ)(i:Rd h b 1 aD c)(w:j9 c<=2^30)(f:b.len<=b.cap):
  ab xm 76 #[b] h λv h'=>(kD c=eH->v=.tuple #[xb xi 0,xc eH 0 0,xg eS]/\Sp h h' [])/\
   ∀k x,kD c=dB (k,x)->∃r:Sl,v=.tuple #[xb xi k,r,xg eR]/\Sp h h' [al 5 r 1 aD x]:=by
 refine QC b ?_;unfold Jz;have z:=i.len;refine bR (λe=>?_) (λe=>?_)
 ·have:kD c=eH:=by unfold kD;rw[j3 λa=>e k4]
  rw[this];exact⟨λ_=>⟨k0,Sp.refl h⟩,λk x h=>l9⟩
 have j:j9 c=64:=k4
 have h3:3<j9 c:=k4
 refine i.Rn 3 k0 h3 ((c.getD 3 0).toNat:Int) (by rw[getD_lt h3];rfl) λy n=>⟨⟨k6,k6,k4⟩,?_⟩
 have d:=(i.drop 4 f).take 55 k8;have q:j9 ((c.drop 4).take 55)=55:=k8
 refine(fA ⟨_,55,b.cap-4⟩ ((c.drop 4).take 55) h d k4).mono ?_;rintro _ t ⟨r,rfl,o⟩;refine⟨r,k0,lS o.aj ⟨n,trivial⟩,?_⟩;have A:=(c.getD 3 0).toNat_lt;rw[ag ((c.getD 3 0).toNat:Int)];refine(Hz ((c.getD 3 0).toNat:Int) r ((c.drop 4).take 55) t (o.seq 0 k0 λ_=>rfl)).mono ?_;rintro _ s ⟨p,rfl,u⟩;have g:=o.comp u;refine⟨p,k0,(Am b p c _ s (i.up g.aj) (g.seq 1 k0 λ_=>rfl)).mono ?_⟩;rintro _ h3 ⟨rfl,rfl⟩;refine⟨_,k0,bj (λe2=>?_) λe2=>?_⟩
 ·have l:c≠eG ((c.getD 3 0).toNat:Int) ((c.drop 4).take 55):=of_decide_eq_false e2;have:kD c=eH:=by unfold kD;rw[j3 λa=>l a.2.symm]
  rw[this];exact⟨λ_=>⟨k0,.zip g.aj⟩,λk x h=>l9⟩
 ·have m:c=eG ((c.getD 3 0).toNat:Int) ((c.drop 4).take 55):=j8 e2;have:kD c=dB (((c.getD 3 0).toNat:Int),(c.drop 4).take 55):=by unfold kD;rw[j1 ⟨j,m.symm⟩]
  rw[this];refine⟨λh=>l9,λk x a=>?_⟩;injection a with a
  injection a with hh1 hh2
  subst hh1;subst hh2;exact⟨r,k0,g.cD [0]⟩
theorem PH(b:Sl)(l:aY)(h:hZ)(d:Rd h b 1 aD l)(m:j9 l<=4):ab xm 246 #[b] h λv h'=>v=xb xi (dv l)/\h'=h:=by
 refine MD b ?_;unfold Fx;have g:=d.len;refine aw (λi:Nat=>(dv (l.take i),(i:Int))) (λi h'=>i<=j9 l/\h'=h) (λi=>j9 l-i) 0 k0 ⟨k4,k0⟩ ?_;rintro i o ⟨p,rfl⟩;dsimp only;refine ai (λe=>?_) (λe=>?_)
 ·have a:i<j9 l:=k4
  refine d.bC i k0 a (l[i].toNat:Int) k0 ⟨k6,?_⟩;have c:=(Tm (l.take i) k8)
  have j:=c.2.2 k8;have k:=l[i].toNat_lt;obtain⟨n,f⟩:∃n:Nat,dv (l.take i)=(n:Int):=⟨(dv (l.take i)).toNat,k4⟩
  refine⟨i+1,?_,⟨k4,k0⟩,k4⟩;rw[aH _ _ a,XZ,f,ahB n _ k4 k4,ag ((i:Int)+1)];rfl
 ·rw[qi k4];exact⟨k0,k0⟩
theorem JN(x:bE)(r:cX)(h:hZ)(D:dS fv h x r):ab xm 184 #[recv x] h λv h'=>v=xg (jt r)/\Sp h h' []:=by
 refine On x ?_;unfold Hd;obtain⟨⟨B,e2,F,m,J,_⟩,H⟩:=D;have n:x.2.2.2.1=r.p.1:=congrArg (·.1) m;have q:x.2.2.2.2.1=r.p.2.1:=congrArg (·.2.1) m;have c:x.2.2.2.2.2.1=r.p.2.2:=congrArg (·.2.2) m;have e:=Seq.len H;refine(Sp.refl h).boxed λa i f=>?_;have f:Sp h i [ao a 170 (bP x)]:=f;have k:=f.box 0 k0;have y:hY i a=dB (xb xi r.object):=by rw[<-B];exact k.cell0 k0
 have t:hY i (a.add 1)=dB (xb xi r.block):=by rw[<-e2];exact k.cell k0
 have u:hY i (a.add 2)=dB (xb xi r.id):=by rw[<-F];exact k.cell k0
 have w:∀{h':hZ},Sp h h' [ao a 170 (bP x)]->(jt r=eR->False)->Value.bool eS=xg (jt r)/\Sp h h' []:=λ{h'} H' hn=>⟨by cases hq:jt r with|false=>rfl|true=>exact absurd hq hn,.zip H'.aj⟩
 refine bO (λb h'=>b=decide ((0<=r.object/\r.object<=16777215)/\(0<=r.block/\r.block<=7)/\(0<=r.id/\r.id<=65535))/\h'=i) ?_ ?_
 ·refine⟨_,y,ai (λA=>⟨_,y,ai (λd=>⟨_,t,ai (λI=>⟨_,t,ai (λG=>⟨_,u,ai (λz=>⟨_,u,?_,k0⟩) λz=>⟨?_,k0⟩⟩) λG=>⟨?_,k0⟩⟩) λI=>⟨?_,k0⟩⟩) λd=>⟨?_,k0⟩⟩) λA=>⟨?_,k0⟩⟩
  ·rw[decide_eq_decide];omega
  all_goals (symm;rw[decide_eq_false_iff_not];omega)
 ·rintro _ _ ⟨rfl,rfl⟩;refine ai (λg=>?_) λg=>w f λo=>g (by have:=(jX r).1 o;omega);refine⟨r.p,by rw[<-n,<-q,<-c];exact k.IS 3 k0 k0 k0,(fa r.p _).mono ?_⟩;rintro _ h3 ⟨rfl,E⟩;have s:Sp h h3 [ao a 170 (bP x)]:=f.up E.aj;have j:=s.box 0 k0;refine⟨_,k0,bQ (λd=>?_) λd=>w s λo=>by have:=((jX r).1 o).2.2.2.1;rw[d]at this;cases this⟩;refine⟨x.2.2.2.2.2.2.2,j.cell k0,r.p.2.2,by rw[<-c];exact j.BG 3 2 k0,?_,.zip s.aj⟩;congr 1;by_cases l:(r.data.length:Int)=r.p.2.2
  ·have:jt r=eR:=(jX r).2 ⟨k4,k4,k4,d,l⟩;rw[this,e];simpa using l
  ·have:jt r=eS:=by
    cases hq:jt r with
    |false=>rfl
    |true=>exact absurd ((jX r).1 hq).2.2.2.2 l
   rw[this,e];simpa using l
section
variable {B:aB} {h0 h h':hZ} {As:List HP}
theorem nJ(s:Sl)(l:aY)(n:Int)(k:Nat)(p:k<=4)(j:j9 l<=2^30)(H:aa B h0 h (al 5 s 1 aD l::As)):
  ab xm 185 #[s,xb xi n,xb xi k] h λv h'=>∃r:Sl,v=r/\aa B h0 h' (al 5 r 1 aD (l++cb n k)::As):=by
 refine Jh s n k ?_;unfold BD;rw[ag ((k:Int)-1)];refine aw (λt:Sl×Nat=>(t.1,(k:Int)-1-t.2)) (λt h'=>t.2<=k/\aa B h0 h' (al 5 t.1 1 aD (l++(cb n k).take t.2)::As)) (λt=>k-t.2) (s,0) k9 ⟨k9,n4⟩ ?_;rintro⟨r,t⟩ o ⟨q,b⟩;dsimp only at*;refine ai (λe=>?_) (λe=>?_)
 ·have a:t<k:=k4
  have c:qc xi ((8:Int)*((k:Int)-1-t))=((8*(k-1-t):Nat):Int):=by rw[ag _];omega
  rw[c,qn];have e2:min (8*(k-1-t)) (qk xi)=8*(k-1-t):=by have:qk xi=64:=rfl;omega
  rw[e2,eV];refine⟨k4,?_⟩;refine b.push ac 0 k0 gM k0 k6 (λ_=>rfl) iK (b8 (q9 n (2^(8*(k-1-t))))) k0 k6 n7 λi m d=>?_;refine⟨(i,t+1),?_,⟨k7,?_⟩,k7⟩
  ·dsimp only;have g:qc xi ((k:Int)-1-t-1)=(k:Int)-1-((t+1:Nat):Int):=by rw[ag _];omega
   rw[g]
  ·dsimp only;have f:(cb n k).take t++[b8 (q9 n (2^(8*(k-1-t))))]=(cb n k).take (t+1):=by rw[aH _ _ (by rw[cG];exact a)];congr 2;simp[cb]
   rw[<-f,<-qt];exact d
 ·have:t=k:=k4
  subst this;rw[qi (by rw[cG];omega)]at b;exact⟨r,k0,b⟩
end
theorem sS(x:bE)(r:cX)(h:hZ)(A:dS fv h x r):ab xm 112 #[recv x] h λv h'=>∃s:Sl,v=s/\Sp h h' [al 5 s 1 aD (cL r)]:=by
 refine Of x ?_;unfold GQ;obtain⟨⟨L,e2,U,k,S,e7,e8⟩,X⟩:=id A;have l:x.2.2.2.1=r.p.1:=congrArg (·.1) k;have n:x.2.2.2.2.1=r.p.2.1:=congrArg (·.2.1) k;have j:x.2.2.2.2.2.1=r.p.2.2:=congrArg (·.2.2) k;refine(Sp.refl h).boxed λd H b=>?_;have b:Sp h H [ao d 170 (bP x)]:=b;refine⟨x,(b.box 0 k0).aS _ k0,(JN x r H (fv.mono (fv.loc A b.aj) λ_ V=>q7 V b.aj.1)).mono ?_⟩;rintro _ T ⟨rfl,R⟩;have i:Sp h T [ao d 170 (bP x)]:=b.up R.aj;refine⟨_,k0,bj (λg=>?_) λg=>?_⟩
 ·unfold cL;rw[g];exact⟨⟨eH,0,0⟩,k0,(i.nil 5 1 aD).cD [1]⟩
 have O:=oV g;have o:=i.box 0 k0;refine⟨r.object,by rw[<-L];exact o.cell0 k0,(nJ ⟨eH,0,0⟩ [] r.object 3 k6 k9 (i.nil 5 1 aD).bu).mono ?_⟩;rintro _ h3 ⟨D,rfl,I⟩;have t:=I.box 1 k0;refine⟨D,k0,r.block,by rw[<-e2];exact t.cell k0,(nJ D _ r.block 1 k6 sL I).mono ?_⟩;rintro _ h4 ⟨B,rfl,J⟩;have u:=J.box 1 k0;refine⟨B,k0,r.id,by rw[<-U];exact u.cell k0,(nJ B _ r.id 2 k6 sL J).mono ?_⟩;rintro _ h5 ⟨N,rfl,E⟩;have a:=E.box 1 k0;refine⟨N,k0,r.p.1,by rw[<-l];exact a.cell k0,r.p.2.1,by rw[<-n];exact a.BG 3 1 k0,r.p.2.2,by rw[<-j];exact a.BG 3 2 k0,?_⟩;dsimp only;rw[eV,eV,eV];refine E.lit ac aD gM k0 [b8 r.p.1,b8 r.p.2.1,b8 r.p.2.2] k0 (show 3*1<=2^20 by decide) k0 λQ Z G=>?_;refine G.append ac 0 k0 gM ⟨_,_,k0,k0⟩ k0 k6 (λ_=>rfl) (G.seq 2 k0 λ_=>rfl) iK sL λF W f=>?_;have f:Sp h W [al 5 F 1 aD ([]++cb r.object 3++cb r.block 1++cb r.id 2++[b8 r.p.1,b8 r.p.2.1,b8 r.p.2.2]),ao d 170 (bP x)]:=f.cD [0,1];have q:=f.box 1 k0;refine⟨r.seed,by rw[<-S];exact q.cell k0,?_⟩;dsimp only;rw[ag r.seed];refine(nJ F _ r.seed 4 k6 sL f).mono ?_;rintro _ h8 ⟨M,rfl,w⟩;have y:=w.box 1 k0;refine⟨M,k0,x.2.2.2.2.2.2.2,y.cell k0,?_⟩;refine w.append ac 0 k0 gM ⟨_,_,k0,k0⟩ k0 k6 (λ_=>rfl) (Seq.up X w.aj) iK n7 λz K e=>?_;have P:[]++cb r.object 3++cb r.block 1++cb r.id 2++[b8 r.p.1,b8 r.p.2.1,b8 r.p.2.2]++cb r.seed 4++r.data=jk r:=by unfold jk;simp[qt]
 have e:Sp h K [al 5 z 1 aD (jk r),ao d 170 (bP x)]:=by rw[<-P];exact e
 refine(Hz 1 z (jk r) K (e.seq 0 k0 λ_=>rfl)).mono ?_;rintro _ Y ⟨c,rfl,m⟩;refine⟨c,k0,c,k0,?_⟩;unfold cL;rw[g,j1 rfl];exact(e.comp m).cD [2]
theorem Tn(b:Sl)(c:aY)(h:hZ)(hb:Rd h b 1 aD c)(hc:c.length<=2^30)(V:b.len<=b.cap):
  ab xm 194 #[b] h λv h'=>∃x:bE,v=.tuple #[recv x,xg (dJ c).isSome]/\(dJ c=eH->Sp h h' [])/\∀r,dJ c=dB r->Sp h h' [EA fv x r]:=by
 refine Mt b ?_;unfold Ft;refine(Sp.refl h).alloc ac k0 λf h1 H1=>?_;have H1:Sp h h1 [ao f 170 (bP (0,0,0,0,0,0,0,⟨eH,0,0⟩))]:=H1;have z:∀{h':hZ} {Bs:List HP},Sp h h' (ao f 170 (bP (0,0,0,0,0,0,0,⟨eH,0,0⟩))::Bs)->dJ c=eH->
   af xm (qf 170 (xd (dB f)) (recv (0,0,0,0,0,0,0,⟨eH,0,0⟩))) h' λ_ F=>∃Y:bE,an F f 0 (bP Y)/\∃x:bE,Value.tuple #[recv Y,xg eS]=.tuple #[recv x,xg (dJ c).isSome]/\(dJ c=eH->Sp h F [])/\∀r,dJ c=dB r->Sp h F [EA fv x r]:=λ{h' Bs} H' G=>by
  refine H'.storeAll ac 0 k0 k0 (bP (0,0,0,0,0,0,0,⟨eH,0,0⟩)) k0 k0 k0 k0 λF H4=>?_;exact⟨(0,0,0,0,0,0,0,⟨eH,0,0⟩),(H4.box 0 k0).aS _ k0,(0,0,0,0,0,0,0,⟨eH,0,0⟩),by rw[G];rfl,λ_=>.zip H4.aj,λr N=>by rw[G]at N;cases N⟩
 refine(Ya b c h1 (hb.up H1.aj) hc V).mono ?_;rintro _ h2 ⟨Q0,Q1⟩;cases htc:kD c with
 |none=>
  obtain⟨rfl,R2⟩:=Q0 htc;have G:dJ c=eH:=by unfold dJ;rw[htc]
  exact⟨(0,⟨eH,0,0⟩,eS),k0,bi (bj (λ_=>z (H1.up R2.aj) G) λe=>ln)⟩
 |some kx=>
  obtain⟨k,x⟩:=kx;obtain⟨r,rfl,R2⟩:=Q1 k x htc;have s:Sp h h2 [ao f 170 (bP (0,0,0,0,0,0,0,⟨eH,0,0⟩)),al 5 r 1 aD x]:=H1.comp R2;have a3:x.length=55:=by
   unfold kD at htc;split at htc
   ·rename_i m;injection htc with htc
    injection htc with _ htc
    rw[<-htc];simp;omega
   ·cases htc
  have bb:=(s.own 1 k0).len;have P:=(s.own 1 k0).cap;refine⟨(k,r,eR),k0,bi (bj (λe=>ln) λ_=>bR (λe=>z s ?_) λI=>?_)⟩
  ·unfold dJ;rw[htc];exact j3 λm=>e m.1
  dsimp only;have I:k=1:=I;obtain⟨R,t⟩:∃R,R=uR x:=⟨_,rfl⟩
  have M:dJ c=if bH R.p=eR/\cL R=c then dB R else eH:=by
   unfold dJ;rw[htc];dsimp only;rw[<-t];by_cases m:bH R.p=eR/\cL R=c
   ·rw[j1 m];exact j1 ⟨I,m⟩
   ·rw[j3 m];exact j3 λh=>m h.2
  have tA:∀{h':hZ},Rd h' r 1 aD x->ab xm 246 #[xc r.ptr 3 r.cap] h' λv L=>v=xb xi R.object/\L=h':=λ{h'} N=>by
   rw[t];exact PH ⟨r.ptr,3,r.cap⟩ (x.take 3) h' (N.take 3 k4) k8
  have O:∀{h':hZ} (j n:Nat),j+n<=55->n<=4->Rd h' r 1 aD x->ab xm 246 #[.slice (if r.cap=j then r.ptr else r.ptr.map (·.add (j*1))) n (r.cap-j)] h' λv L=>v=xb xi (dv ((x.drop j).take n))/\L=h':=λ{h'} j n hjn G N=>
   PH ⟨if r.cap=j then r.ptr else r.ptr.map (·.add (j*1)),n,r.cap-j⟩ ((x.drop j).take n) h' ((N.drop j P).take n ns) k8
  have rd:∀{h':hZ} {A:HP} {Bs:List HP},Sp h h' (A::al 5 r 1 aD x::Bs)->Rd h' r 1 aD x:=λ{h' A Bs} H'=>H'.seq 1 k0 λ_=>rfl;have Gb:∀{h':hZ} {A A2:HP} {Bs:List HP},Sp h h' (A::A2::al 5 r 1 aD x::Bs)->Rd h' r 1 aD x:=λ{h' A A2 Bs} H'=>H'.seq 2 k0 λ_=>rfl;refine bO (λ(a:hU) h'=>Sp h h' [ao a 170 (bP (R.object,R.block,R.id,0,0,0,0,⟨eH,0,0⟩)),ao f 170 (bP (0,0,0,0,0,0,0,⟨eH,0,0⟩)),al 5 r 1 aD x]) ?_ ?_
  ·have eb:dv ((x.drop 3).take 1)=R.block:=t6
   have ei:dv ((x.drop 4).take 2)=R.id:=t6
   have fin:∀{h':hZ} {a:hU},Sp h h' [ao f 170 (bP (0,0,0,0,0,0,0,⟨eH,0,0⟩)),al 5 r 1 aD x,ao a 170 (bP (0,0,0,0,0,0,0,⟨eH,0,0⟩))]->
     af xm (qf 170 (xd (dB a)) (recv (R.object,R.block,R.id,0,0,0,0,⟨eH,0,0⟩))) h' λ_ F=>av.ok [] F/\Sp h F [ao a 170 (bP (R.object,R.block,R.id,0,0,0,0,⟨eH,0,0⟩)),ao f 170 (bP (0,0,0,0,0,0,0,⟨eH,0,0⟩)),al 5 r 1 aD x]:=λ{h' a} H'=>
    H'.storeAll ac 2 k0 k0 (bP (R.object,R.block,R.id,0,0,0,0,⟨eH,0,0⟩)) k0 k0 k0 k0 λF H4=>⟨trivial,H4.cD [2,0,1]⟩
   have A_:∀{h':hZ} {Bs:List HP} {K:Int->hZ->Prop},Sp h h' (ao f 170 (bP (0,0,0,0,0,0,0,⟨eH,0,0⟩))::al 5 r 1 aD x::Bs)->K R.object h'->ae xm 246 #[xc r.ptr 3 r.cap] (.one (.sc (.int .i64))) h' K:=λ{h' Bs K} H' hK=>by
    refine(tA (rd H')).mono ?_;rintro _ _ ⟨rfl,rfl⟩;exact⟨_,k0,hK⟩
   have B_:∀{h':hZ} {Bs:List HP} {K:Int->hZ->Prop},Sp h h' (ao f 170 (bP (0,0,0,0,0,0,0,⟨eH,0,0⟩))::al 5 r 1 aD x::Bs)->K R.block h'->ae xm 246 #[.slice (if r.cap=3 then r.ptr else r.ptr.map (·.add (3*1))) 1 (r.cap-3)] (.one (.sc (.int .i64))) h' K:=λ{h' Bs K} H' hK=>by
    refine(O 3 1 k6 k6 (rd H')).mono ?_;rintro _ _ ⟨rfl,rfl⟩;exact⟨_,k0,by rw[eb];exact hK⟩
   have C_:∀{h':hZ} {Bs:List HP} {K:Int->hZ->Prop},Sp h h' (ao f 170 (bP (0,0,0,0,0,0,0,⟨eH,0,0⟩))::al 5 r 1 aD x::Bs)->K R.id h'->ae xm 246 #[.slice (if r.cap=4 then r.ptr else r.ptr.map (·.add (4*1))) 2 (r.cap-4)] (.one (.sc (.int .i64))) h' K:=λ{h' Bs K} H' hK=>by
    refine(O 4 2 k6 k6 (rd H')).mono ?_;rintro _ _ ⟨rfl,rfl⟩;exact⟨_,k0,by rw[ei];exact hK⟩
   refine⟨⟨k6,k4⟩,⟨k6,k6,k4⟩,⟨k6,k6,k4⟩,A_ s ⟨trivial,B_ s ⟨trivial,C_ s ⟨trivial,?_⟩,?_⟩,?_⟩,?_⟩
   ·refine s.alloc ac k0 λa9 h9 i=>⟨trivial,?_⟩
    exact fin i
   ·refine s.alloc ac k0 λa9 h9 i=>⟨trivial,?_⟩
    exact C_ i ⟨trivial,fin i⟩
   ·refine s.alloc ac k0 λa9 h9 i=>⟨trivial,?_⟩
    exact B_ i ⟨trivial,C_ i ⟨trivial,fin i⟩⟩
   ·refine s.alloc ac k0 λa9 h9 i=>⟨trivial,?_⟩
    exact A_ i ⟨trivial,B_ i ⟨trivial,C_ i ⟨trivial,fin i⟩⟩⟩
  ·rintro a9 h5 H5;have J:0<=R.seed/\R.seed<4294967296:=by have:=Tm ((x.drop 9).take 4) k8;rw[t];exact⟨this.1,this.2.1⟩
   have e6:dv ((x.drop 6).take 1)=R.p.1:=t6
   have e7:dv ((x.drop 7).take 1)=R.p.2.1:=t6
   have e8:dv ((x.drop 8).take 1)=R.p.2.2:=t6
   have e9:dv ((x.drop 9).take 4)=R.seed:=t6
   refine bi ⟨⟨k6,k6,k4⟩,⟨k6,k6,k4⟩,⟨k6,k6,k4⟩,(O 6 1 k6 k6 (Gb H5)).mono ?_⟩;rintro _ _ ⟨rfl,rfl⟩;refine⟨_,k0,trivial,(O 7 1 k6 k6 (Gb H5)).mono ?_⟩;rintro _ _ ⟨rfl,rfl⟩;refine⟨_,k0,trivial,(O 8 1 k6 k6 (Gb H5)).mono ?_⟩;rintro _ a8 ⟨rfl,rfl⟩;refine⟨_,k0,trivial,?_⟩;dsimp only;rw[e6,e7,e8];refine H5.store ac 0 k0 k0 3 [xb xi R.p.1,xb xi R.p.2.1,xb xi R.p.2.2] k0 k0 k0 k9 λad D=>⟨trivial,?_⟩
   have D:Sp h ad [ao a9 170 (bP (R.object,R.block,R.id,R.p.1,R.p.2.1,R.p.2.2,0,⟨eH,0,0⟩)),ao f 170 (bP (0,0,0,0,0,0,0,⟨eH,0,0⟩)),al 5 r 1 aD x]:=D;refine⟨⟨k6,k6,k4⟩,(O 9 4 k6 k6 (Gb D)).mono ?_⟩;rintro _ a4 ⟨rfl,rfl⟩;refine⟨_,k0,?_⟩;dsimp only;have ew:qc xk (dv ((x.drop 9).take 4))=R.seed:=by rw[e9];unfold qc;simp[qk,yV];omega
   rw[ew];refine D.store ac 0 k0 k0 6 [xb xk R.seed] k0 k0 k0 k9 λU B=>?_;have B:Sp h U [ao a9 170 (bP (R.object,R.block,R.id,R.p.1,R.p.2.1,R.p.2.2,R.seed,⟨eH,0,0⟩)),ao f 170 (bP (0,0,0,0,0,0,0,⟨eH,0,0⟩)),al 5 r 1 aD x]:=B;refine⟨R.p,(B.box 0 k0).IS 3 k0 k0 k0,(fa R.p U).mono ?_⟩;rintro _ Z ⟨rfl,ay⟩;have y:Sp h Z [ao a9 170 (bP (R.object,R.block,R.id,R.p.1,R.p.2.1,R.p.2.2,R.seed,⟨eH,0,0⟩)),ao f 170 (bP (0,0,0,0,0,0,0,⟨eH,0,0⟩)),al 5 r 1 aD x]:=B.up ay.aj;refine⟨_,k0,bj (λg=>z (y.bc 2 [1,0]) (by rw[M,j3 λm=>by rw[g]at m;cases m.1])) λg=>?_⟩;have a5:=(bZ R.p).1 g;refine⟨R.p.2.2,(y.box 0 k0).BG 3 2 k0,?_⟩;dsimp only;rw[ag ((13:Int)+R.p.2.2)];refine⟨⟨k6,k4,k4⟩,?_⟩;have am:((13:Int)+R.p.2.2).toNat-(13:Int).toNat=R.p.2.2.toNat:=k4
   rw[am];have H:(x.drop 13).take R.p.2.2.toNat=R.data:=t6
   have E:=((Gb y).drop 13 P).take R.p.2.2.toNat ns;rw[H]at E;have a7:R.data.length=R.p.2.2.toNat:=by rw[<-H];simp;omega
   refine(fA ⟨if r.cap=13 then r.ptr else r.ptr.map (·.add (13*1)),R.p.2.2.toNat,r.cap-13⟩ R.data Z E k4).mono ?_;rintro _ bd ⟨u,rfl,ah⟩;have ax:=y.comp ah;refine⟨u,k0,?_⟩;refine ax.store ac 0 k0 k0 7 [u] k0 k0 k0 k9 λS l=>?_;have l:Sp h S [ao a9 170 (bP (R.object,R.block,R.id,R.p.1,R.p.2.1,R.p.2.2,R.seed,u)),ao f 170 (bP (0,0,0,0,0,0,0,⟨eH,0,0⟩)),al 5 r 1 aD x,al 5 u 1 aD R.data]:=l;obtain⟨X,hX⟩:∃X:bE,X=(R.object,R.block,R.id,R.p.1,R.p.2.1,R.p.2.2,R.seed,u):=⟨_,rfl⟩
   rw[<-hX]at l;have T:∀{h':hZ} {q:aB},Seq h' q u 1 aD R.data->fv.p h' q X R:=λ{h' q} hs=>by rw[hX];exact⟨⟨k0,k0,k0,k0,k0,J⟩,hs⟩
   refine⟨X,(l.box 0 k0).aS _ k0,(sS X R S (T (l.seq 3 k0 λ_=>rfl))).mono ?_⟩;rintro _ a0 ⟨s5,rfl,a2⟩;have o:=l.comp a2;refine⟨s5,k0,(Am b s5 c (cL R) a0 (hb.up o.aj) (o.seq 4 k0 λ_=>rfl)).mono ?_⟩;rintro _ a6 ⟨rfl,rfl⟩;refine⟨_,k0,bj (λQ=>z (o.bc 2 [1,0]) (by rw[M,j3 λm=>(of_decide_eq_false Q) m.2.symm])) λQ=>?_⟩;have Q:c=cL R:=j8 Q;refine⟨X,(o.box 0 k0).aS _ k0,?_⟩;refine o.storeAll ac 1 k0 k0 (bP X) k0 k0 k0 k0 λap W=>?_;have d:dJ c=dB R:=by rw[M,j1 ⟨g,Q.symm⟩]
   refine⟨X,(W.box 1 k0).aS _ k0,X,by rw[d];rfl,λG=>(by rw[d]at G;cases G),λr' w=>?_⟩;rw[d]at w;injection w with w
   subst w;have ar:Sp h ap [al 5 u 1 aD R.data]:=W.cD [3];exact ar.gF 0 k0 λq hq=>T (hq.1.seq (λ_=>rfl) hq.2)
end Go.Qw
namespace Go.Vc
open Go Wl Go.Qw
section
variable {B:aB} {h0 h h':hZ} {As L:List HP} {X Y Z:HP}
theorem aa.aiq(H:aa B h0 h (X::Y::(L++As))):aa B h0 h (L++(X::Y::As)):=
 H.pick (λi=>if i<j9 L then i+2 else if i=j9 L then 0 else if i=j9 L+1 then 1 else i) (λa b c=>by(try dsimp only at c);split at c<;>split at c<;>(try split at c)<;>(try split at c)<;>(try split at c)<;>(try split at c)<;>omega) λi A d=>by
  try dsimp only
  by_cases g:i<j9 L
  ·rw[qp g]at d;rw[j1 g,qE,qE,qp g];exact d
  ·rw[qj k4]at d;rw[j3 g];by_cases e:i=j9 L
   ·subst e;rw[j1 rfl];rw[zc]at d;exact d
   ·rw[j3 e];by_cases f:i=j9 L+1
    ·subst f;rw[j1 rfl];rw[show L.length+1-j9 L=1 by omega]at d;exact d
    ·rw[j3 f];obtain⟨j,rfl⟩:∃j,i=j9 L+(j+2):=⟨i-j9 L-2,k4⟩
     rw[zr,qE,qE]at d;rw[show L.length+(j+2)=(j9 L+j)+1+1 by omega,qE,qE,qj k4,zr];exact d
theorem aa.WO(n:Nat)(b:L[n]?=dB X)(H:aa B h0 h (Y::Z::(L++As))):aa B h0 h (X::Z::Y::(L.set n emp++As)):=by
 have a:=(qm.1 b).1;have c:=H.cons (n+2) (A:=X) (by rw[qE,qE,qp a];exact b);have e:(Y::Z::(L++As)).set (n+2) emp=Y::Z::(L.set n emp++As):=by rw[wi,wi,List.set_append_left _ _ a]
 rw[e]at c;exact c.bc 3 [0,2,1]
theorem aa.OB(n:Nat)(f:n<j9 L)(H:aa B h0 h (X::Z::Y::(L.set n emp++As))):aa B h0 h (Y::Z::(L.set n X++As)):=
 H.pick (λi=>if i=0 then 2 else if i=1 then 1 else if i=n+2 then 0 else i+1) (λa b c=>by(try dsimp only at c);split at c<;>split at c<;>(try split at c)<;>(try split at c)<;>(try split at c)<;>(try split at c)<;>omega) λi A d=>by
  try dsimp only
  match i,d with
  |0,d=>exact d
  |1,d=>exact d
  |i+2,d=>
   rw[j3 k4,j3 k4];rw[qE,qE]at d;by_cases e:i=n
   ·subst e;rw[qp (by simpa using f),zq f]at d;rw[j1 rfl];exact d
   ·rw[j3 k4,qE,qE,qE];by_cases g:i<j9 L
    ·rw[qp nn,zN k4]at d;rw[qp nn,zN k4];exact d
    ·rw[qj k8,zF]at d;rw[qj k8,zF];exact d
end
structure Kit where
 tS:Nat
 tP:Nat
 tD:Nat
 f:hU->bp->Sl->Sl->ba
def ahC(k:Kit)(pw:hU)(a:aQ)(d:Option bp):HP:=match a,d with
 |some a,dB d=>ms k.tD (k.f pw) a d
 |_,_=>emp
abbrev eJ(b:ba)(pw:hU)(offs:Int)(a:List aQ):ba:=b++(xd (dB pw)::xb xi offs::a.map .pointer)
structure iL (mc:ba) (da:List aQ) (ds:aF):Prop where
 l8:j9 mc=8
 la:j9 da=64
 ls:j9 ds=64
 same:∀i:Nat,(da.getD i eH).isSome=(ds.getD i eH).isSome
abbrev jF(k:Kit)(pw:hU)(a:List aQ)(ds:aF):List HP:=List.zipWith (ahC k pw) a ds
def bJ(k:Kit)(a pw:hU)(c:ba)(offs:Int)(b:List aQ)(w:Pow)(ds:aF):HP:=
 (HP.all (ao a k.tS (eJ c pw offs b)::eE k.tP pw w::jF k pw b ds)).and (iL c b ds)
section
variable {k:Kit} {B:aB} {h0 h h':hZ} {As:List HP} {a pw:hU} {mc:ba} {offs:Int} {da:List aQ} {w w':Pow} {ds:aF} {d d':bp} {n:Nat}
theorem To(ok:iL mc da ds):j9 (jF k pw da ds)=64:=by simp[jF,ok.la,ok.ls]
theorem aa.An(H:aa B h0 h (bJ k a pw mc offs da w ds::As)):iL mc da ds/\aa B h0 h (ao a k.tS (eJ mc pw offs da)::eE k.tP pw w::(jF k pw da ds++As)):=by obtain⟨H,ok⟩:=H.Km;exact⟨ok,H.sg⟩
theorem aa.BH(ok:iL mc da ds)(H:aa B h0 h (ao a k.tS (eJ mc pw offs da)::eE k.tP pw w::(jF k pw da ds++As))):aa B h0 h (bJ k a pw mc offs da w ds::As):=
 (aa.closeAll (ao a k.tS (eJ mc pw offs da)::eE k.tP pw w::jF k pw da ds) H).toKm ok
theorem iL.addr(ok:iL mc da ds)(c:ds[n]?=dB (dB d)):∃b,da[n]?=dB (dB b):=by
 have e:n<64:=by have:=(qm.1 c).1;rw[ok.ls]at this;exact this
 have a:=ok.same n;rw[qe,qe,c]at a;have f:n<j9 da:=by rw[ok.la];exact e
 rw[qd f]at a⊢;simp at a;obtain⟨b,g⟩:=vo.1 a;exact⟨b,by rw[g]⟩
theorem iL.aau(ok:iL mc da ds)(c:n<64)(b:ds[n]?=dB eH):da[n]?=dB eH:=by
 have a:=ok.same n;rw[qe,qe,b]at a;have d:n<j9 da:=by rw[ok.la];exact c
 rw[qd d]at a⊢;simp at a;rw[a]
theorem iL.set(ok:iL mc da ds){b:hU}(c:da[n]?=dB (dB b)):iL mc da (ds.set n (dB d')):=by
 refine⟨ok.l8,ok.la,by rw[zF];exact ok.ls,λi=>?_⟩;by_cases a:n=i
 ·subst a;have d:n<j9 ds:=by have:=(qm.1 c).1;rw[ok.la]at this;rw[ok.ls];exact this
  rw[qe,c,qe,zq d];rfl
 ·rw[qe (l:=ds.set n _),zN a,<-qe];exact ok.same i
theorem adp{b:hU}(c:da[n]?=dB (dB b))(d:n<j9 ds):(jF k pw da ds).set n (ms k.tD (k.f pw) b d')=jF k pw da (ds.set n (dB d')):=by
 apply zP;intro j;have e:n<j9 da:=(qm.1 c).1;simp only[jF,zb,wH,List.length_zipWith];by_cases a:n=j
 ·subst a;rw[j1 k0,j1 k4,j1 k0,j1 d,c];rfl
 ·simp[a]
def Rr(k:Kit)(a pw:hU)(c:ba)(offs:Int)(b:List aQ)(ds:aF)(n:Nat):HP:=
 (HP.all (ao a k.tS (eJ c pw offs b)::(jF k pw b ds).set n emp)).and (iL c b ds)
theorem aa.kP(H:aa B h0 h (bJ k a pw mc offs da w ds::As))(c:ds[n]?=dB (dB d)):∃b,da[n]?=dB (dB b)/\aa B h0 h (ms k.tD (k.f pw) b d::eE k.tP pw w::Rr k a pw mc offs da ds n::As):=by
 obtain⟨ok,i⟩:=H.An;obtain⟨b,e⟩:=ok.addr c;refine⟨b,e,?_⟩;have j:(jF k pw da ds)[n]?=dB (ms k.tD (k.f pw) b d):=by simp only[jF,wH,e,c];rfl
 have g:=i.WO n j;have l:aa B h0 h (ms k.tD (k.f pw) b d::eE k.tP pw w::((ao a k.tS (eJ mc pw offs da)::(jF k pw da ds).set n emp)++As)):=g;exact(((aa.closeAll _ l.aiq).toKm ok).bc 3 [1,2,0]:aa B h0 h (ms k.tD (k.f pw) b d::eE k.tP pw w::Rr k a pw mc offs da ds n::As))
theorem aa.Ao{b:hU}(l:da[n]?=dB (dB b))(H:aa B h0 h (ms k.tD (k.f pw) b d'::eE k.tP pw w'::Rr k a pw mc offs da ds n::As)):aa B h0 h (bJ k a pw mc offs da w' (ds.set n (dB d'))::As):=by
 have j:aa B h0 h (Rr k a pw mc offs da ds n::eE k.tP pw w'::ms k.tD (k.f pw) b d'::As):=H.bc 3 [2,1,0];obtain⟨j,ok⟩:=j.Km;have p:=j.sg;have o:n<j9 ds:=by have:=(qm.1 l).1;rw[ok.la]at this;rw[ok.ls];exact this
 have s:=To (k:=k) (pw:=pw) ok;have g:n<j9 (jF k pw da ds):=by rw[s,<-ok.ls];exact o
 obtain⟨L,r⟩:∃L,L=jF k pw da ds:=⟨_,rfl⟩
 rw[<-r]at p g;have t:aa B h0 h (ms k.tD (k.f pw) b d'::eE k.tP pw w'::ao a k.tS (eJ mc pw offs da)::(L.set n emp++As)):=by
  refine p.pick (λi=>if i=0 then 1+j9 L+1 else if i=1 then 1+j9 L else if i=2 then 0 else if i<3+j9 L then i-2 else i) (λx y c=>by(try dsimp only at c);split at c<;>split at c<;>(try split at c)<;>(try split at c)<;>(try split at c)<;>(try split at c)<;>(try split at c)<;>(try split at c)<;>omega) λi A e=>?_
  try dsimp only
  have d:j9 (ao a k.tS (eJ mc pw offs da)::L.set n emp)=1+j9 L:=k8
  match i,e with
  |0,e=>rw[j1 k0,qj k4,d,show 1+j9 L+1-(1+j9 L)=1 by omega];exact e
  |1,e=>rw[j3 k4,j1 k0,qj k4,d,zc];exact e
  |2,e=>rw[j3 k4,j3 k4,j1 rfl];exact e
  |i+3,e=>
   rw[j3 k4,j3 k4,j3 k4];rw[qE,qE,qE]at e;by_cases m:i<j9 L
   ·rw[j1 k4,show i+3-2=i+1 by omega,qp (by rw[d];omega),qE];rw[qp v2]at e;exact e
   ·rw[j3 k4,qj (by rw[d];omega),d,show i+3-(1+j9 L)=(i-j9 L)+2 by omega,qE,qE];rw[qj k8,zF]at e;exact e
 have q:=aa.OB n g t;rw[r,adp l o]at q;exact q.BH (ok.set l)
end
def jG:jy (Int×Sl) (Int×aY):=⟨λh q a b=>a.1=b.1/\Seq h q a.2 1 aD b.2,λa d=>⟨a.1,a.2.aj d⟩,λa c=>⟨a.1,a.2.mono c⟩⟩
def piv(x:Int×Sl):ba:=[xb xi x.1,x.2]
theorem OC:∀x,∀c∈piv x,c.oneCell'=eR:=by intro x c a;simp[piv]at a;rcases a with rfl|rfl<;>rfl
def kd(b:List aQ)(a:Int):aQ:=if 0<=a/\a<64 then(b[a.toNat]?).join else eH
theorem oP{i:ba}{e:List aQ}{ds:aF}(ok:iL i e ds)(a:Int):
  (aW ds a=eH/\kd e a=eH)∨∃(n:Nat) (d:bp) (b:hU),a=n/\n<64/\ds[n]?=dB (dB d)/\aW ds a=dB d/\e[n]?=dB (dB b)/\kd e a=dB b:=by
 unfold aW kd;by_cases h:0<=a/\a<64
 ·rw[j1 h,j1 h];have f:a.toNat<j9 ds:=by rw[ok.ls];omega
  cases hd:ds[a.toNat]with
  |none=>
   have c:ds[a.toNat]?=dB eH:=by rw[qd f,hd]
   exact .inl ⟨by rw[c];rfl,by rw[ok.aau k4 c];rfl⟩
  |some d=>
   have c:ds[a.toNat]?=dB (dB d):=by rw[qd f,hd]
   obtain⟨b,g⟩:=ok.addr c;exact .inr ⟨a.toNat,d,b,k4,k4,c,by rw[c];rfl,g,by rw[g];rfl⟩
 ·rw[j3 h,j3 h];exact .inl ⟨k0,k0⟩
theorem BI{b:ba}{pw:hU}{offs:Int}{a:List aQ}(h8:j9 b=8)(n:Nat):(eJ b pw offs a)[10+n]?=(a[n]?).map .pointer:=by unfold eJ;rw[qj k4,h8,show 10+n-8=n+1+1 by omega,qE,qE,qR]
theorem adq{a:ba}{pw:hU}{offs:Int}{b:List aQ}(h8:j9 a=8):(eJ a pw offs b)[8]?=dB (xd (dB pw)):=by unfold eJ;rw[qj k4,h8];rfl
theorem Yb{a:ba}{pw:hU}{offs:Int}{b:List aQ}(h8:j9 a=8):(eJ a pw offs b)[9]?=dB (xb xi offs):=by unfold eJ;rw[qj k4,h8];rfl
end Go.Vc
namespace Go.Qw
open Go Go.Vc Go.Proofs Wl
abbrev cm:Go.Vc.Kit:=⟨84,92,156,λpw=>iF pw⟩
theorem Tp{e:TypeId}(s:Sl)(l:au)(h:hZ)(c:Own h e s 1 aq l)(a:j9 l<2^40):ab xm 172 #[s] h λv h'=>v=xc s.ptr (Lib.compact l).length s.cap/\Own h' e ⟨s.ptr,j9 (Lib.compact l),s.cap⟩ 1 aq (Lib.compact l)/\aX (λb=>¬s.on b) h h':=
 LC Tryz.slices_Compact_int Tryz.slices_Compact_int_empty c a
section
variable {B:aB} {h0 h h':hZ} {As:List HP} {a pw:hU} {mc:ba} {offs:Int} {da:List aQ} {w:Pow} {ds:aF}
theorem ov(b:Int)(ok:iL mc da ds)(f:cA h a 84 (eJ mc pw offs da)):ab xm 35 #[xd (dB a),xb xi b] h λv h'=>v=.pointer (kd da b)/\h'=h:=by
 refine CQ (dB a) b ?_;unfold rP;have d:¬(0<=b/\b<64)->Value.pointer eH=.pointer (kd da b)/\h=h:=λe=>by unfold kd;rw[j3 e];exact⟨k0,k0⟩
 refine bi (bQ (λe=>ln) λ_=>ai (λe=>d k4) λg=>ai (λe=>d k4) λe2=>?_);have c:b.toNat<j9 da:=by rw[ok.la];omega
 refine⟨a,k0,⟨k4,k4⟩,da[b.toNat],?_,?_,k0⟩
 ·rw[wU];refine f.BG 10 b.toNat ?_;rw[BI ok.l8,qd c];rfl
 ·unfold kd;rw[j1 k4,qd c];rfl
theorem aa.dP(H:aa B h0 h (bJ cm a pw mc offs da w ds::As)):iL mc da ds/\cA h a 84 (eJ mc pw offs da):=by obtain⟨ok,b⟩:=Go.Vc.aa.An H;exact⟨ok,b.box 0 k0⟩
theorem Yc(s:Sl)(l:au)(x:Rd h s 1 aq l)(G:j9 l<=2^30)(H:aa B h0 h (bJ cm a pw mc offs da w ds::As)):
  ab xm 80 #[.func (.func 35) #[xd (dB a)] #[],s] h λv h'=>∃r:Sl,v=r/\Sp h h' [al 3 r 1 aq (be ds l)]:=by
 refine SQ (35,#[xd (dB a)],#[]) s ?_;unfold Mc;have E:=x.len;obtain⟨ok,u⟩:=aa.dP H;refine aw (λt:Sl×Nat=>(t.1,(t.2:Int))) (λt h'=>t.2<=j9 l/\Sp h h' [al 3 t.1 1 aq (be ds (l.take t.2))]) (λt=>j9 l-t.2) (⟨eH,0,0⟩,0) k0 ⟨k9,by simpa[be]using(Sp.refl h).nil 3 1 aq⟩ ?_;rintro⟨o,i⟩ J ⟨L,j⟩;dsimp only at*;refine ai (λe=>?_) (λe=>?_)
 ·have p:i<j9 l:=k4
  have c:be ds (l.take (i+1))=be ds (l.take i)++(if isLive ds l[i]then[l[i]]else[]):=by unfold be;rw[aH _ _ p,zl,zp,yJ]
  have A:j9 (be ds (l.take i))<=j9 l:=by have:=qT (isLive ds) (l.take i);unfold be;simp at this⊢;omega
  have next:∀{h':hZ} {k:Sl},Sp h h' [al 3 k 1 aq (be ds (l.take (i+1)))]->∃m:Sl×Nat,((⟨k.ptr,k.len,k.cap⟩:Sl),qc xi ((i:Int)+1))=(m.1,(m.2:Int))/\(m.2<=j9 l/\Sp h h' [al 3 m.1 1 aq (be ds (l.take m.2))])/\l.length-m.2<j9 l-i:=λ{h' k} H'=>
   ⟨(k,i+1),lb,⟨k7,H'⟩,k7⟩
  refine(Seq.up x j.aj).bC i k0 p l[i] k0 (fq m7 ?_);refine(ov l[i] ok (u.aj j.aj u.lt)).mono ?_;rintro _ I ⟨rfl,rfl⟩;refine⟨_,k0,?_⟩;rcases oP ok l[i]with⟨c1,c2⟩|⟨n,d,b,c0,c1,c2,c3,c4,c5⟩
  ·rw[c2];have g:isLive ds l[i]=eS:=by unfold isLive;rw[c1]
   rw[g]at c;refine bj (λe=>ln) λ_=>next (by rw[c];simpa using j)
  ·rw[c5];have g:isLive ds l[i]=!d.lost:=by unfold isLive;rw[c3]
   refine bj (λ_=>?_) λe=>ln
   obtain⟨M,f,y⟩:=Go.Vc.aa.kP (aa.up H j.aj) c2;rw[c4]at f;injection f with f
   injection f with f
   subst f;obtain⟨D,z,q,_,_⟩:=mu.box y;refine(Hy D z q).mono ?_;rintro _ h3 ⟨rfl,rfl⟩;refine⟨_,k0,bj (λe=>?_) λe=>?_⟩
   ·rw[g,e]at c;refine j.push ac 0 k0 fN k0 k6 (λ_=>rfl) eT l[i] k0 k6 k4 λk K F=>next ?_
    rw[c];exact F
   ·rw[g,e]at c;exact next (by rw[c];simpa using j)
 ·rw[qi k4]at j;exact⟨o,k0,j⟩
theorem MK(s:Sl)(l:au)(Q:St B h0 As λh=>Rd h s 1 aq l)(Z:j9 l<=2^30)(z:∀x∈l,0<=x/\x<64)(H:aa B h0 h (bJ cm a pw mc offs da w ds::As)):
  ab xm 103 #[.func (.func 35) #[xd (dB a)] #[],s] h λv h'=>v=xb xi (eN (cI l) w ds).1/\aa B h0 h' (bJ cm a pw mc offs da (eN (cI l) w ds).2.1 (eN (cI l) w ds).2.2::As):=by
 refine SV (35,#[xd (dB a)],#[]) s ?_;unfold Mg;refine(jS s l h (Q.at [_] H) k4).mono ?_;rintro _ W ⟨r,rfl,Y⟩;have L:=H.ck Y;refine⟨r,k0,(PE r l W (L.own 0 k0) k4).mono ?_⟩;rintro _ U ⟨rfl,J,R⟩;have N:=L.oS 0 k0 R J;refine⟨(),k0,(Tp r (lu l) U J (by rw[Pa];omega)).mono ?_⟩;rintro _ h3 ⟨rfl,P,K⟩;have p:=N.step (D:=al 3 ⟨r.ptr,j9 (Lib.compact (lu l)),r.cap⟩ 1 aq (Lib.compact (lu l))) 0 k0 λq G F=>⟨K.mono λb _ m E=>m (G.2 b E),P,λb m=>⟨q7 (F b (G.2 b m)) K.1,.inl (G.2 b m)⟩⟩
 rw[XB l z]at p⊢;obtain⟨u,I⟩:∃u,u=cI l:=⟨_,rfl⟩
 rw[<-I]at p⊢;have p:aa B h0 h3 (al 3 ⟨r.ptr,j9 u,r.cap⟩ 1 aq u::bJ cm a pw mc offs da w ds::As):=p;have T:j9 u<=64:=by have:=qT (λi=>decide (i∈l)) ((qx 64).map λi:Nat=>(i:Int));rw[I];unfold cI;simpa using this
 refine⟨⟨r.ptr,j9 u,r.cap⟩,k0,?_⟩;refine aw (λt:Nat×Pow×aF=>(t.1:Int)) (λt h'=>t.1<=j9 u/\eN u w ds=eN (u.drop t.1) t.2.1 t.2.2/\aa B h0 h' (al 3 ⟨r.ptr,j9 u,r.cap⟩ 1 aq u::bJ cm a pw mc offs da t.2.1 t.2.2::As)) (λt=>j9 u-t.1) (0,w,ds) k0 ⟨k9,k0,p⟩ ?_;rintro⟨i,j,f⟩ h4 ⟨hi,c,y⟩;dsimp only at*;refine ai (λe=>?_) (λe=>?_)
 ·have o:i<j9 u:=k4
  obtain⟨ok,m⟩:=aa.dP y.rest;rw[qP o,uO]at c;refine(y.seq 0 k0 λ_=>rfl).bC i k0 o u[i] k0 (fq m7 ?_);refine(ov u[i] ok m).mono ?_;rintro _ X ⟨rfl,rfl⟩;refine⟨_,k0,?_⟩;rcases oP ok u[i]with⟨c1,c2⟩|⟨n,d,b,c0,c1,c2,c3,c4,c5⟩
  ·rw[c2];refine(Ti X).mono ?_;rintro _ O ⟨rfl,rfl⟩;have A:gI j f u[i]=(5,j,f):=by unfold gI;rw[c1]
   rw[A]at c;refine⟨5,k0,bR (λ_=>?_) λe=>absurd e k6⟩;have:eN u w ds=(5,j,f):=c;rw[this];exact⟨k0,y.rest⟩
  ·rw[c5];obtain⟨b',g,S⟩:=Go.Vc.aa.kP (y.bc 2 [1,0]) c2;rw[c4]at g;injection g with g
   injection g with g
   subst g;refine(aam S).mono ?_;rintro _ O ⟨rfl,V⟩;have M:=Go.Vc.aa.Ao (k:=cm) (n:=n) c4 V;have A:gI j f u[i]=((d.sync j).1,(d.sync j).2.1,f.set n (dB (d.sync j).2.2)):=by unfold gI;rw[c3];simp only[bT,c0,qn]
   rw[A]at c;refine⟨_,k0,bR (λe2=>?_) λe2=>?_⟩
   ·have:eN u w ds=((d.sync j).1,(d.sync j).2.1,f.set n (dB (d.sync j).2.2)):=by rw[c];exact j3 e2
    rw[this];exact⟨k0,M.sJ⟩
   ·refine⟨(i+1,(d.sync j).2.1,f.set n (dB (d.sync j).2.2)),lb,⟨k7,?_,M.bc 2 [1,0]⟩,k7⟩;rw[c];exact j1 e2
 ·rw[zi k4]at c;rw[c];exact⟨k0,y.rest⟩
end
end Go.Qw
namespace Go.Vc
open Go Wl
theorem HP.Dq{h:hZ}:∀{L:List HP} {q:aB} {i:Nat} {A:HP},(HP.all L).p h q->L[i]?=dB A->A.p h q
 |A::L,q,0,A',⟨q1,q2,_,b,_,d,_⟩,hi=>by simp at hi;subst hi;exact A.mono d b
 |A::L,q,i+1,A',⟨q1,q2,_,_,c,_,e⟩,hi=>A'.mono (HP.Dq e (by simpa using hi)) c
 |[],_,i,_,_,hi=>by simp at hi
section
variable {α β:Type} {B:aB} {h0 h:hZ} {As:List HP} {e e2 k:Nat} {s:Sl} {f:α->ba} {ll:List (List α)}
theorem aa.ads(H:aa B h0 h (dh e s e2 k f ll::As))(n:∀x,j9 (f x)=k):∃rs,aa B h0 h (dg (cF k f) 1 bo s rs ll::As):=by
 obtain⟨rs,H⟩:=H.sK;obtain⟨H,b⟩:=H.Km;refine⟨rs,H.gF 0 k0 λq c=>⟨?_,b,λi r l d a=>?_⟩⟩
 ·have:=HP.Dq (i:=0) c k0;exact this.1.seq (λ_=>rfl) this.2
 ·have g:i<j9 ll:=(qm.1 a).1;have m:=iW (e:=e2) (k:=k) (f:=f) b i g;have:=HP.Dq (i:=i+1) c v2;have j:rs[i]'(by omega)=r:=by rw[qd k4]at d;simpa using d
  have e2:ll[i]=l:=by rw[qd g]at a;simpa using a
  rw[j,e2]at this;exact this.1.seq n this.2
end
end Go.Vc
namespace Wl
def cg(m:aE)(a:au):List (Int×aY):=a.flatMap λn=>(bs m).map λc=>(n,c)
theorem mK{m:aE}{a:au}{x:Int×aY}(h:x∈cg m a):x.1∈a/\x.2.length=64:=by unfold cg at h;obtain⟨n,b,e⟩:=zB.1 h;obtain⟨c,d,rfl⟩:=qo.1 e;exact⟨b,uQ d⟩
end Wl
namespace Go.Qw
open Go Go.Vc Go.Proofs Wl
theorem lZ(m:aE)(a:dO m):j9 (bs m)<=3000:=by have:=KT m a;unfold bs iH;simp;omega
abbrev Tq:ce C.toCG 89 101 2 [xb xi 0,xc eH 0 0] 32:=⟨_,_,k0,k0,k0,k0,k0,k0⟩
section
variable {B:aB} {h0 h h':hZ} {As:List HP} {a pw:hU} {mc:ba} {offs:Int} {da:List aQ} {w:Pow} {ds:aF}
theorem HC(s:Sl)(r:List (Int×Sl))(P:List (Int×aY))(G:St B h0 As λh=>oa jG 2 piv h s r P)(hl:j9 P<=2^30)(z:∀x∈P,(0<=x.1/\x.1<64)/\x.2.length<=2^20)(H:aa B h0 h (bJ cm a pw mc offs da w ds::As)):
  ab xm 44 #[.func (.func 35) #[xd (dB a)] #[],s] h λv h'=>v=xb xi (layAll P w ds).1/\aa B h0 h' (bJ cm a pw mc offs da (layAll P w ds).2.1 (layAll P w ds).2.2::As):=by
 refine UX (35,#[xd (dB a)],#[]) s ?_;unfold Pv;have W:=(G.at [_] H).1.len;have Z:=(G.at [_] H).2.1;have H0:=(H.nil 3 1 aq).bu;refine aw (λt:Sl×Nat×Pow×aF=>(t.1,(t.2.1:Int))) (λt h'=>t.2.1<=j9 P/\lD P w ds=lD (P.drop t.2.1) t.2.2.1 t.2.2.2/\aa B h0 h' (al 3 t.1 1 aq ((P.take t.2.1).map qM)::bJ cm a pw mc offs da t.2.2.1 t.2.2.2::As)) (λt=>j9 P-t.2.1) (⟨eH,0,0⟩,0,w,ds) k0 ⟨k9,k0,by simpa using H0⟩ ?_;rintro⟨o,i,u,p⟩ h1 ⟨hi,f,I⟩;dsimp only at*;refine ai (λe=>?_) (λe=>?_)
 ·have q:i<j9 P:=k4
  rw[qP q,xK]at f;have S:=G.at [_,_] I;have L:=z _ (qh q);refine S.1.ey (g:=piv) i k0 k4 (r[i]'(by omega)) k0 ?_;refine I.alloc ac k0 λa4 V A=>?_;have A:=A.bu;refine A.storeAll ac 0 k0 k0 (piv (r[i]'(by omega))) k0 k0 k0 k0 λh3 l=>?_;obtain⟨O,N⟩:=Fix.row (G.at [_,_,_] l) q;have l:aa B h0 h3 (ao a4 101 (piv (r[i]'(by omega)))::al 3 o 1 aq ((P.take i).map qM)::bJ cm a pw mc offs da u p::As):=l;have l:=l.bc 3 [2,0,1];obtain⟨ok,Y⟩:=aa.dP l;obtain⟨c,m⟩:∃c,c=fQ u p P[i].1 P[i].2:=⟨_,rfl⟩
  rw[<-m]at f;refine bO (λ_ h'=>c.1=0/\aa B h0 h' (bJ cm a pw mc offs da c.2.1 c.2.2::ao a4 101 (piv (r[i]'(by omega)))::al 3 o 1 aq ((P.take i).map qM)::As)) ?_ ?_
  ·refine bO (λe h'=>e=c.1/\aa B h0 h' (bJ cm a pw mc offs da c.2.1 c.2.2::ao a4 101 (piv (r[i]'(by omega)))::al 3 o 1 aq ((P.take i).map qM)::As)) ?_ ?_
   ·refine⟨P[i].1,by rw[<-O];exact(l.box 1 k0).cell0 k0,(r[i]'(by omega)).2,(l.box 1 k0).cell k0,fq m7 ?_⟩;refine(ov P[i].1 ok Y).mono ?_;rintro _ M ⟨rfl,rfl⟩;refine⟨_,k0,⟨(l.box 1 k0).cell k0,trivial⟩,?_⟩;rcases oP ok P[i].1 with⟨c1,c2⟩|⟨n,d,b,c0,c1,c2,c3,c4,c5⟩
    ·rw[c2];refine(OA (r[i]'(by omega)).2 P[i].2 M N).mono ?_;rintro _ h5 ⟨rfl,rfl⟩;have D:c=(if P[i].2.length≠64 then 1 else 5,u,p):=by rw[m];unfold fQ;rw[c1]
     refine⟨_,k0,trivial,by rw[D],?_⟩;rw[D];exact l
    ·rw[c5];obtain⟨b',j,K⟩:=Go.Vc.aa.kP l c2;rw[c4]at j;injection j with j
     injection j with j
     subst j;refine(JM (r[i]'(by omega)).2 P[i].2 K N L.2).mono ?_;rintro _ h6 ⟨rfl,X⟩;have H7:=Go.Vc.aa.Ao (k:=cm) (n:=n) c4 X;have D:c=((d.append u P[i].2).1,(d.append u P[i].2).2.1,p.set n (dB (d.append u P[i].2).2.2)):=by rw[m];unfold fQ;rw[c3];simp only[bT,c0,qn]
     refine⟨_,k0,trivial,by rw[D],?_⟩;rw[D];exact H7
   ·rintro e4 M ⟨rfl,F⟩;refine bR (λe2=>?_) λe2=>⟨e2,F⟩
    rw[j3 e2]at f;have:layAll P w ds=c:=by unfold layAll;rw[f];exact j3 e2
    rw[this];exact⟨k0,F.sJ.sJ⟩
  ·rintro _ M ⟨e2,F⟩;rw[j1 e2]at f;refine⟨P[i].1,by rw[<-O];exact(F.box 1 k0).cell0 k0,?_⟩;refine F.push ac 2 k0 fN k0 k6 (λ_=>rfl) eT P[i].1 k0 k6 k8 λR h5 K=>?_;refine⟨(R,i+1,c.2.1,c.2.2),lb,⟨k7,f,?_⟩,k7⟩;dsimp only;rw[aH _ _ q,qW];exact K.bc 3 [2,0]
 ·have J:i=j9 P:=k4
  subst J;rw[List.drop_length]at f;rw[qS]at I;have A:=(I.freeze 0 k0 λ_=>rfl).bc 2 [1,0];have E:layAll P w ds=eN (cI (P.map qM)) u p:=by unfold layAll;rw[f];rfl
  refine(MK o (P.map qM) (St.fw 0 k0 λh' U=>U) k8 (λx T=>?_) A).mono ?_
  ·obtain⟨y,Q,rfl⟩:=qo.1 T;exact(z y Q).1
  ·rintro _ V ⟨rfl,l⟩;refine⟨_,k0,by rw[E],?_⟩;rw[E];exact l.sJ
theorem JO(x:cw)(m:aE)(s:Sl)(a:au)(h:hZ)(Y:dV h x m)(I:dO m)(X:Rd h s 1 aq a)(ad:j9 a<=2^10):
  ab xm 45 #[ge x,s] h λv h'=>∃(r:Sl) (ys:List (Int×Sl)),v=r/\Sp h h' [dg jG 2 piv r ys (cg m a)]:=by
 refine QA x s ?_;unfold Jx;refine(Sp.refl h).boxed λa1 S Q=>?_;refine⟨x,(Q.box 0 k0).aS _ k0,(wd x m S (Y.up Q.aj) I).mono ?_⟩;rintro _ R ⟨r,rfl,R2⟩;have E:=Q.ck R2;refine⟨r,k0,?_⟩;obtain⟨rs,E⟩:=E.ads λ_=>rfl;have J:=lZ m I;obtain⟨d,D⟩:∃d,d=bs m:=⟨_,rfl⟩
 rw[<-D]at E J;have V:=E.gy 0 k0;have ap:=V.1.len;have ah:=V.2.1;have am:=X.len;obtain⟨T,H⟩:∃T:Int->List ((Int×Sl)×(Int×aY)),T=λn=>(rs.zip d).map λz=>((n,z.1),(n,z.2)):=⟨_,rfl⟩
 have f:∀n,j9 (T n)=j9 d:=λn=>by rw[H];simp;omega
 have P:∀n,(T n).map zH=d.map λc=>(n,c):=λn=>by
  have I:=List.map_snd_zip (l₁:=rs) (l₂:=d) k4
  conv=>rhs;rw[<-I]
  rw[H];simp[wQ,Function.comp_def]
 have M:∀n j (K:j<j9 d),(T n)[j]'(by rw[f];exact K)=((n,rs[j]'(by omega)),(n,d[j])):=λn j K=>by subst H;simp
 have g:Sp h R [al 101 ⟨eH,0,0⟩ 2 piv (((a.take 0).flatMap T).map qM),dg (cF 1 aD) 1 bo r rs d]:=(E.nil 101 2 piv).cD [2,0];have B:∀i,i<=j9 a->j9 ((a.take i).flatMap T)<=i*3000:=λi=>by
  induction i with
  |zero=>simp
  |succ i ih=>
   intro U;rw[aH _ _ (show i<j9 a by omega),zj,qy];have S:=ih k4;have R:j9 ([a[i]].flatMap T)=j9 d:=by rw[zg,zT,qL,f]
   omega
 refine aw (λt:Sl×Nat=>(t.1,(t.2:Int))) (λt h'=>t.2<=j9 a/\Sp h h' [al 101 t.1 2 piv (((a.take t.2).flatMap T).map qM),dg (cF 1 aD) 1 bo r rs d]) (λt=>j9 a-t.2) (⟨eH,0,0⟩,0) k0 ⟨k9,g⟩ ?_;rintro⟨o,i⟩ h3 ⟨U,g⟩;dsimp only at*;refine ai (λe=>?_) (λe=>?_)
 ·have A:i<j9 a:=k4
  have ht:=B i U;have hb:i*3000<=2^10*3000:=zo _ k4;refine(Seq.up X g.aj).bC i k0 A a[i] k0 ?_;refine aw (λt:Sl×Nat=>(t.1,(t.2:Int))) (λt h'=>t.2<=j9 d/\Sp h h' [al 101 t.1 2 piv (((a.take i).flatMap T).map qM++((T a[i]).take t.2).map qM),dg (cF 1 aD) 1 bo r rs d]) (λt=>j9 d-t.2) (o,0) k0 ⟨k9,nn⟩ ?_;rintro⟨u,j⟩ h4 ⟨K,w⟩;dsimp only at*;refine ai (λe2=>?_) (λe2=>?_)
  ·have F:j<j9 d:=k4
   refine(w.gy 1 k0).1.md j k0 k4 ?_;refine w.push ac 0 k0 Tq k0 k6 (λ_=>rfl) OC (a[i],rs[j]'(by omega)) k0 k6 (by simp only[qy,qw,qZ,f];omega) λu' h5 H5=>?_;refine⟨(u',j+1),lb,⟨k7,?_⟩,k7⟩;dsimp only;rw[aH (T a[i]) j (by rw[f];exact F),qW,M _ _ F,<-qt];exact H5
  ·have O:j=j9 d:=k4
   subst O;rw[qi (l:=T a[i]) (by rw[f];exact ql _)]at w;refine⟨(u,i+1),lb,⟨k7,?_⟩,k7⟩;dsimp only;rw[aH _ _ A,zj,qW,zg,zT,qL];exact w
 ·have L:i=j9 a:=k4
  subst L;rw[qS]at g;refine⟨o,(a.flatMap T).map qM,k0,?_⟩;have w:=(g.freeze 0 k0 λ_=>rfl).mb;refine w.gF 0 k0 λq ⟨q1,q2,_,b,c,Z,z2⟩=>?_;have y:(a.flatMap T).map zH=cg m a:=by unfold cg;rw[List.map_flatMap,<-D];congr 1;funext n;exact P n
  rw[<-y];refine⟨z2.mono c,k9,λj r' l' p G=>?_⟩;rw[qR]at p G;cases g3:(a.flatMap T)[j]? with
  |none=>rw[g3]at p;cases p
  |some t=>
   rw[g3]at p G;simp at p G;subst p;subst G;obtain⟨n,_,W⟩:=zB.1 (wX g3);rw[H]at W;obtain⟨z,N,rfl⟩:=qo.1 W;obtain⟨k,hk,rfl⟩:=List.mem_iff_getElem.1 N;rw[yX];exact⟨k0,(Z.2.2 k _ _ (qd _) (qd _)).mono b⟩
end
section
variable {B:aB} {h0 h h':hZ} {As:List HP} {s:Sl} {d:List bE}
theorem Yd{b c:List bE}{y:bE}(d:Sd cB (b++c))(g:∀z∈b,cB z y=eR)(f:∀z∈c,¬cB z y=eR):Sd cB (b++y::c):=
 Sd.app dX d.left (zD.2 ⟨λz a=>dX.Gp (f z a),d.right⟩) λx e z a=>by
  rcases qV.1 a with rfl|a
  ·exact g x e
  ·exact d.IF x e z a
theorem Dr(X M Y:List bE)(a b:Int)(ha:a=(j9 X:Int))(hb:b=(j9 X+j9 M:Nat))(ah:j9 X+j9 M+j9 Y<=2^40)(H:aa B h0 h (cQ s (X++(M++Y))::As)):
  ab xm 300 #[s,xb xi a,xb xi b,.func (.func 197) #[] #[]] h λv h'=>v=.tuple #[]/\∃U,Sd cB U/\cH cB M U/\aa B h0 h' (cQ s (X++(U++Y))::As):=by
 refine lM s a b (197,#[],#[]) ?_;unfold ik;subst ha;subst hb;rw[ag ((j9 X:Int)+1)];refine aw (λt:Nat×List bE=>((j9 X+1+t.1:Nat):Int)) (λt h'=>(t.1+1<=j9 M∨t.1=0)/\Sd cB t.2/\cH cB (M.take (t.1+1)) t.2/\t.2.length=j9 (M.take (t.1+1))/\aa B h0 h' (cQ s (X++(t.2++(M.drop (t.1+1)++Y)))::As)) (λt=>j9 M-t.1) (0,M.take 1) k0 ?_ ?_
 ·refine⟨.inr k0,?_,cH.refl _,k0,?_⟩
  ·cases M with
   |nil=>exact List.Pairwise.nil
   |cons x M=>exact zD.2 ⟨λ_ h=>o5,k9⟩
  ·rw[<-qt (M.take (0+1)),qJ];exact H
 rintro⟨t,P⟩ h1 ⟨ht,E,p,Z,S⟩;dsimp only at*;refine ai (λe=>?_) (λe=>?_)
 ·have J:t+1<j9 M:=k4
  obtain⟨y,hy⟩:∃y,y=M[t+1]:=⟨_,rfl⟩
  have G:j9 P=t+1:=by rw[Z];simp;omega
  have eD:M.drop (t+1)=y::M.drop (t+1+1):=by rw[qP J,hy]
  rw[eD]at S;refine aw (λu:List bE×List bE=>((j9 X+j9 u.1:Nat):Int)) (λu h'=>u.1++u.2=P/\(∀z∈u.2,¬cB z y=eR)/\aa B h0 h' (cQ s (X++(u.1++(y::(u.2++(M.drop (t+1+1)++Y)))))::As)) (λu=>j9 u.1) (P,[]) (by dsimp only;rw[G];congr 1;omega) ⟨k9,k9,by simpa using S⟩ ?_;rintro⟨c,d⟩ W ⟨L,f,I⟩;dsimp only at*;have am:j9 c+j9 d=t+1:=by rw[<-G,<-L,qy]
  have l:∀{h':hZ},(∀z∈c,cB z y=eR)->aa B h0 h' (cQ s (X++(c++(y::(d++(M.drop (t+1+1)++Y)))))::As)->
    ∃k:Nat×List bE,qc xi (((j9 X+1+t:Nat):Int)+1)=((j9 X+1+k.1:Nat):Int)/\((k.1+1<=j9 M∨k.1=0)/\Sd cB k.2/\cH cB (M.take (k.1+1)) k.2/\k.2.length=j9 (M.take (k.1+1))/\aa B h0 h' (cQ s (X++(k.2++(M.drop (k.1+1)++Y)))::As))/\M.length-k.1<j9 M-t:=λ{h'} hle H'=>by
   refine⟨(t+1,c++y::d),by dsimp only;rw[ag _];omega,⟨.inl k7,?_,?_,?_,?_⟩,k7⟩
   ·exact Yd u7 hle f
   ·dsimp only;rw[aH M (t+1) J,<-hy];have h1:cH cB (M.take (t+1)++[y]) (P++[y]):=p.app (cH.refl _);refine h1.trans ?_;rw[<-L,qt];have W:cH cB (d++[y]) ([y]++d):=cH.ZF dX λx hx z T=>by rw[qB.1 T];exact f x hx
    exact(cH.refl _).app W
   ·dsimp only;simp;omega
   ·dsimp only;have:X++((c++y::d)++(M.drop (t+1+1)++Y))=X++(c++(y::(d++(M.drop (t+1+1)++Y)))):=k9
    rw[this];exact H'
  obtain⟨D,R⟩:∃D,D=X++(c++(y::(d++(M.drop (t+1+1)++Y)))):=⟨_,rfl⟩
  refine bO (λ_ h'=>∃(Q:List bE) (z:bE),c=Q++[z]/\¬cB z y=eR/\aa B h0 h' (cQ s D::As)) ?_ ?_
  ·rw[<-R]at I l;refine ai (λe2=>?_) (λe2=>⟨trivial,l (λz T=>?_) I⟩)
   ·have K:c≠[]:=λh=>by rw[h]at e2;simp at e2
    obtain⟨Q,z,n⟩:∃(Q:List bE) (z:bE),c=Q++[z]:=⟨c.dropLast,c.getLast K,(List.dropLast_concat_getLast K).symm⟩
    have ad:j9 c=j9 Q+1:=by rw[n];simp
    have g1:D[j9 X+j9 c]?=dB y:=by rw[R,qj k4,show X.length+j9 c-j9 X=j9 c by omega,qj k4,zc];rfl
    have g2:D[j9 X+j9 c-1]?=dB z:=by rw[R,qj k4,show X.length+j9 c-1-j9 X=j9 Q by omega,n,qt,qj (ql _),zc];rfl
    obtain⟨O,q⟩:=qm.1 g1;obtain⟨N,r⟩:=qm.1 g2;refine(I.seq 0 k0 λ_=>rfl).ey (g:=bP) _ k0 O y (by rw[q]) ?_;have V:qc xi (((j9 X+j9 c:Nat):Int)-1)=((j9 X+j9 c-1:Nat):Int):=l5
    rw[V];refine(I.seq 0 k0 λ_=>rfl).ey (g:=bP) _ k0 N z tp (fq m7 ?_);refine(rj y z W).mono ?_;rintro _ h3 ⟨rfl,R3⟩;have F:=I.up R3.aj;refine⟨_,k0,trivial,ai (λe3=>⟨Q,z,n,(sq y z).1 e3,F⟩) λe3=>l (λw m=>?_) F⟩;have o:cB z y=eR:=by
     by_cases hc:cB z y=eR
     ·exact hc
     ·exact absurd ((sq y z).2 hc) e3
    rw[n]at m;rcases qA.1 m with m|m
    ·refine dX.trans _ _ _ ?_ o;have:Sd cB (Q++[z]):=by rw[<-n];exact Sd.left (v:=d) u7
     exact this.IF w m z k9
    ·rw[qB.1 m];exact o
   ·have:c=[]:=by
     cases c with
     |nil=>rfl
     |cons x P=>exfalso;simp only[zm]at e2;omega
    rw[this]at T;cases T
  ·rintro _ h3 ⟨Q,z,n,o,F⟩;have ad:j9 c=j9 Q+1:=by rw[n];simp
   have A:D=(X++Q)++z::([]++y::(d++(M.drop (t+1+1)++Y))):=by rw[R,n];simp
   obtain⟨q1,q2,q3,q4⟩:=Tl (X++Q) [] (d++(M.drop (t+1+1)++Y)) z y (i:=j9 X+j9 c-1) (j:=j9 X+j9 c) k8 k8;rw[<-A]at q1 q2 q3 q4;obtain⟨N,r⟩:=qm.1 q1;obtain⟨O,q⟩:=qm.1 q2;have V:qc xi (((j9 X+j9 c:Nat):Int)-1)=((j9 X+j9 c-1:Nat):Int):=l5
   rw[V];refine(F.seq 0 k0 λ_=>rfl).ey (g:=bP) _ k0 N z tp ?_;refine(F.seq 0 k0 λ_=>rfl).ey (g:=bP) _ k0 O y (by rw[q]) ?_;refine F.set ac 0 k0 (λ_=>rfl) k0 (j9 X+j9 c) k0 O z k0 k0 k0 λh4 H4=>⟨trivial,?_⟩
   refine H4.set ac 0 k0 (λ_=>rfl) k0 (j9 X+j9 c-1) k0 (by simpa using N) y k0 k0 k0 λh5 H5=>⟨trivial,?_⟩
   refine⟨(Q,z::d),by dsimp only;congr 1;omega,⟨by dsimp only;rw[<-L,n];simp,?_,?_⟩,k7⟩
   ·dsimp only;intro w m;rcases qV.1 m with rfl|m
    ·exact o
    ·exact f w m
   ·dsimp only;have:X++(Q++(y::(z::d++(M.drop (t+1+1)++Y))))=(X++Q)++y::([]++z::(d++(M.drop (t+1+1)++Y))):=k9
    rw[this,<-q4];exact H5
 ·refine⟨k0,P,E,?_,?_⟩
  ·rw[qi k4]at p;exact p
  ·rw[zi k4]at S;simpa using S
end
theorem IU(x y:Nat)(h:x+y<=2^62:=by omega):qc xi (q9 (qc xl (qc xi ((x:Int)+(y:Int)))) (2^min (1:Int).toNat (qk xl)))=(((x+y)/2:Nat):Int):=by
 rw[ag ((x:Int)+y)];have e:qc xl ((x:Int)+(y:Int))=(x:Int)+y:=by unfold qc;simp[qk,yV];omega
 rw[e,show min (1:Int).toNat (qk xl)=1 from k0,Int.fdiv_eq_ediv_of_nonneg _ k6,ag _];omega
section
variable {B:aB} {h0 h h':hZ} {As:List HP} {s:Sl} {d:List bE}
theorem Cq{x y:bE}(h:¬mv x y<0):cB y x=eR:=by
 by_cases a:cB y x=eR
 ·exact a
 ·exact absurd ((sq x y).2 a) h
theorem kz{K:bE->Prop}(H:aa B h0 h (cQ s d::As)){i:Int}(n:Nat)(c:i=n){x:bE}(e:d[n]?=dB x)(j:K x):
  ∃a:hU,(s.ptr=dB a/\0<=i/\i<((s.len:Nat):Int))/\∃x:bE,an h (a.add (i.toNat*8)) 0 (bP x)/\K x:=by
 obtain⟨f,b⟩:=qm.1 e;exact(H.seq 0 k0 λ_=>rfl).ey (g:=bP) n c f x (by rw[b]) j
theorem OD(x:bE)(X R Y:List bE)(ad:j9 X+1+j9 R+j9 Y<=2^40)(F:Sd cB R)(H:aa B h0 h (cQ s (X++(x::(R++Y)))::As)){K:Ki}
  (f:∀h',(∃M,Sd cB M/\cH cB (x::R) M/\aa B h0 h' (cQ s (X++(M++Y))::As))->K (.tuple #[]) h') (a m b:Int) (ha:a=(j9 X:Int)) (hm:m=(j9 X+1:Nat)) (hb:b=(j9 X+1+j9 R:Nat)):
  aJ (σ:=Int×Int) (λc K1 g=>
   Br (decide (c.1<c.2))
   ((0<=(1:Int))/\
   ∃a2:hU,(s.ptr=dB a2/\0<=(qc xi (q9 (qc xl (qc xi (c.1+c.2))) (2^min (1:Int).toNat (qk xl))))/\(qc xi (q9 (qc xl (qc xi (c.1+c.2))) (2^min (1:Int).toNat (qk xl))))<((s.len:Nat):Int))/\
   ∃x3:bE,an g (a2.add ((qc xi (q9 (qc xl (qc xi (c.1+c.2))) (2^min (1:Int).toNat (qk xl)))).toNat*8)) 0 (bP x3)/\
   ∃a4:hU,(s.ptr=dB a4/\0<=a/\a<((s.len:Nat):Int))/\
   ∃x5:bE,an g (a4.add (a.toNat*8)) 0 (bP x5)/\
   iM C 197 ((#[]:Array Value).toList++[recv x3,recv x5]++(#[]:Array Value).toList) (.one (.sc (.int .i64))) g λr6 n=>
   (av.ok [] n)/\
   Br (decide (r6<(0:Int)))
   (K1 (qc xi ((qc xi (q9 (qc xl (qc xi (c.1+c.2))) (2^min (1:Int).toNat (qk xl))))+(1:Int)),c.2) n)
   (K1 (c.1,qc xi (q9 (qc xl (qc xi (c.1+c.2))) (2^min (1:Int).toNat (qk xl)))) n))
   (aJ (σ:=Int) (λd K2 h3=>
   Br (decide (d<(qc xi (c.1-(1:Int)))))
   (∃a8:hU,(s.ptr=dB a8/\0<=(qc xi (d+(1:Int)))/\(qc xi (d+(1:Int)))<((s.len:Nat):Int))/\
   ∃x9:bE,an h3 (a8.add ((qc xi (d+(1:Int))).toNat*8)) 0 (bP x9)/\
   ∃D:hU,(s.ptr=dB D/\0<=d/\d<((s.len:Nat):Int))/\
   ∃A:bE,an h3 (D.add (d.toNat*8)) 0 (bP A)/\
   ∃I:hU,(s.ptr=dB I/\0<=d/\d<((s.len:Nat):Int))/\
   af xm (qf 170 (xd (dB (I.add (d.toNat*8)))) (recv x9)) h3 λ_ V=>
   (av.ok [] V)/\
   ∃G:hU,(s.ptr=dB G/\0<=(qc xi (d+(1:Int)))/\(qc xi (d+(1:Int)))<((s.len:Nat):Int))/\
   af xm (qf 170 (xd (dB (G.add ((qc xi (d+(1:Int))).toNat*8)))) (recv A)) V λ_ Q=>
   (av.ok [] Q)/\
   K2 (qc xi (d+(1:Int))) Q)
   (K (.tuple #[]) h3)) a g)) (m,b) h:=by
 subst ha;subst hm;subst hb;refine aw (λt:Nat×Nat=>(((j9 X+1+t.1:Nat):Int),((j9 X+1+t.2:Nat):Int))) (λt h'=>t.1<=t.2/\t.2<=j9 R/\(∀k (f:k<j9 R),k<t.1->¬cB x R[k]=eR)/\(∀k (f:k<j9 R),t.2<=k->cB x R[k]=eR)/\aa B h0 h' (cQ s (X++(x::(R++Y)))::As)) (λt=>t.2-t.1) (0,j9 R) k0 ⟨k9,k9,λ_ _ h=>o5,λ_ g n=>absurd g tg,H⟩ ?_;rintro⟨i,j⟩ g ⟨ah,hj,p,y,O⟩;dsimp only at*;refine ai (λe=>?_) (λe=>?_)
 ·have o:i<j:=k4
  rw[IU _ _];have eh:((j9 X+1+i)+(j9 X+1+j))/2=j9 X+1+(i+j)/2:=k4
  rw[eh];have f:(i+j)/2<j9 R:=k4
  refine⟨k6,kz O _ k0 (x:=R[(i+j)/2]) ?_ (kz O X.length k0 (x:=x) ?_ (fq m7 ?_))⟩
  ·rw[qj k4,show X.length+1+(i+j)/2-j9 X=(i+j)/2+1 by omega,qE,qp f,qd f]
  ·rw[qj (ql _),zc];rfl
  refine(rj R[(i+j)/2] x g).mono ?_;rintro _ n ⟨rfl,R2⟩;have H2:=O.up R2.aj;refine⟨_,k0,trivial,ai (λe2=>?_) λe2=>?_⟩
  ·have P:=(sq _ _).1 e2;refine⟨((i+j)/2+1,j),lb,⟨k7,hj,λk r U=>?_,y,H2⟩,k7⟩;intro hc;exact P (dX.trans _ _ _ hc (F.at_ dX (i:=k) (j:=(i+j)/2) (by dsimp only at U;omega) f))
  ·refine⟨(i,(i+j)/2),k0,⟨k7,k7,p,λk r W=>?_,H2⟩,k7⟩;exact dX.trans _ _ _ (Cq e2) (F.at_ dX (by dsimp only at W;omega) r)
 ·have o:i=j:=k4
  subst o;have hM:Sd cB (R.take i++x::R.drop i):=by
   refine Sd.app dX (Sd.left (v:=R.drop i) (by rw[qJ];exact F)) (zD.2 ⟨λz L=>?_,Sd.right (u:=R.take i) (by rw[qJ];exact F)⟩) λz L w J=>?_
   ·obtain⟨k,f,rfl⟩:=qK L;rw[we];exact y _ _ k4
   ·obtain⟨k,f,rfl⟩:=qK L;rw[yc];have Z:k<i:=t7
    have g:=dX.Gp (p k t7 Z);rcases qV.1 J with rfl|J
    ·exact g
    ·obtain⟨l,hl,rfl⟩:=qK J;rw[we];exact F.at_ dX k4 (by simp at hl;omega)
  have hE:cH cB (x::R) (R.take i++x::R.drop i):=by
   have g:cH cB ([x]++R.take i) (R.take i++[x]):=cH.ZF dX λz L w J=>by
    rw[qB.1 L];obtain⟨k,f,rfl⟩:=qK J;rw[yc];exact p k t7 t7
   have n:=g.app (cH.refl (le:=cB) (R.drop i));have e1:([x]++R.take i)++R.drop i=x::R:=by rw[qt,qJ];rfl
   have e2:(R.take i++[x])++R.drop i=R.take i++x::R.drop i:=k9
   rw[e1,e2]at n;exact n
  have el:qc xi (((j9 X+1+i:Nat):Int)-1)=((j9 X+i:Nat):Int):=l5
  rw[el];refine aw (λt:Nat=>((j9 X+t:Nat):Int)) (λt h'=>t<=i/\aa B h0 h' (cQ s (X++(R.take t++(x::(R.drop t++Y))))::As)) (λt=>i-t) 0 k0 ⟨k4,by simpa using O⟩ ?_;rintro t h3 ⟨ht,N⟩;refine ai (λe2=>?_) (λe2=>?_)
  ·have am:t<i:=k4
   have E:t<j9 R:=k4
   have q:X++(R.take t++(x::(R.drop t++Y)))=(X++R.take t)++x::([]++R[t]::(R.drop (t+1)++Y)):=by rw[qP E];simp only[qt,zA,z8]
   obtain⟨T,S,q3,q4⟩:=Tl (X++R.take t) [] (R.drop (t+1)++Y) x R[t] (i:=j9 X+t) (j:=j9 X+t+1) k8 k8;rw[<-q]at T S q3 q4;have ek:qc xi (((j9 X+t:Nat):Int)+1)=((j9 X+t+1:Nat):Int):=l5
   rw[ek];refine kz N _ k0 S (kz N _ k0 T ?_);refine N.set ac 0 k0 (λ_=>rfl) k0 (j9 X+t) k0 (qm.1 T).1 R[t] k0 k0 k0 λV H4=>⟨trivial,?_⟩
   refine H4.set ac 0 k0 (λ_=>rfl) k0 (j9 X+t+1) k0 (by rw[zF];exact(qm.1 S).1) x k0 k0 k0 λQ H5=>⟨trivial,?_⟩
   refine⟨t+1,k0,⟨k4,?_⟩,k4⟩;have e3:X++(R.take (t+1)++(x::(R.drop (t+1)++Y)))=(X++R.take t)++R[t]::([]++x::(R.drop (t+1)++Y)):=by rw[aH R t E];simp only[qt,zA,z8]
   rw[e3,<-q3];exact H5
  ·have:t=i:=k4
   subst this;refine f h3 ⟨R.take t++x::R.drop t,hM,hE,?_⟩;have:X++((R.take t++x::R.drop t)++Y)=X++(R.take t++(x::(R.drop t++Y))):=k9
   rw[this];exact N
end
section
variable {B:aB} {h0 h h':hZ} {As:List HP} {s:Sl} {d:List bE}
theorem ML(y:bE)(X L Y:List bE)(ay:j9 X+j9 L+1+j9 Y<=2^40)(O:Sd cB L)(H:aa B h0 h (cQ s (X++(L++(y::Y)))::As)){K:Ki}
  (d:∀h',(∃M,Sd cB M/\cH cB (L++[y]) M/\aa B h0 h' (cQ s (X++(M++Y))::As))->K (.tuple #[]) h') (a m:Int) (ha:a=(j9 X:Int)) (hm:m=(j9 X+j9 L:Nat)):
  aJ (σ:=Int×Int) (λb K3 W=>
   Br (decide (b.1<b.2))
   ((0<=(1:Int))/\
   ∃R:hU,(s.ptr=dB R/\0<=m/\m<((s.len:Nat):Int))/\
   ∃F:bE,an W (R.add (m.toNat*8)) 0 (bP F)/\
   ∃J:hU,(s.ptr=dB J/\0<=(qc xi (q9 (qc xl (qc xi (b.1+b.2))) (2^min (1:Int).toNat (qk xl))))/\(qc xi (q9 (qc xl (qc xi (b.1+b.2))) (2^min (1:Int).toNat (qk xl))))<((s.len:Nat):Int))/\
   ∃T:bE,an W (J.add ((qc xi (q9 (qc xl (qc xi (b.1+b.2))) (2^min (1:Int).toNat (qk xl)))).toNat*8)) 0 (bP T)/\
   iM C 197 ((#[]:Array Value).toList++[recv F,recv T]++(#[]:Array Value).toList) (.one (.sc (.int .i64))) W λad h7=>
   (av.ok [] h7)/\
   Br (!(decide (ad<(0:Int))))
   (K3 (qc xi ((qc xi (q9 (qc xl (qc xi (b.1+b.2))) (2^min (1:Int).toNat (qk xl))))+(1:Int)),b.2) h7)
   (K3 (b.1,qc xi (q9 (qc xl (qc xi (b.1+b.2))) (2^min (1:Int).toNat (qk xl)))) h7))
   (aJ (σ:=Int) (λc K4 h8=>
   Br (decide (c>b.1))
   (∃p:hU,(s.ptr=dB p/\0<=(qc xi (c-(1:Int)))/\(qc xi (c-(1:Int)))<((s.len:Nat):Int))/\
   ∃r:bE,an h8 (p.add ((qc xi (c-(1:Int))).toNat*8)) 0 (bP r)/\
   ∃A:hU,(s.ptr=dB A/\0<=c/\c<((s.len:Nat):Int))/\
   ∃I:bE,an h8 (A.add (c.toNat*8)) 0 (bP I)/\
   ∃a25:hU,(s.ptr=dB a25/\0<=c/\c<((s.len:Nat):Int))/\
   af xm (qf 170 (xd (dB (a25.add (c.toNat*8)))) (recv r)) h8 λ_ h9=>
   (av.ok [] h9)/\
   ∃S:hU,(s.ptr=dB S/\0<=(qc xi (c-(1:Int)))/\(qc xi (c-(1:Int)))<((s.len:Nat):Int))/\
   af xm (qf 170 (xd (dB (S.add ((qc xi (c-(1:Int))).toNat*8)))) (recv I)) h9 λ_ G=>
   (av.ok [] G)/\
   K4 (qc xi (c-(1:Int))) G)
   (K (.tuple #[]) h8)) m W)) (a,m) h:=by
 subst ha;subst hm;refine aw (λt:Nat×Nat=>(((j9 X+t.1:Nat):Int),((j9 X+t.2:Nat):Int))) (λt h'=>t.1<=t.2/\t.2<=j9 L/\(∀k (d:k<j9 L),k<t.1->cB L[k] y=eR)/\(∀k (d:k<j9 L),t.2<=k->¬cB L[k] y=eR)/\aa B h0 h' (cQ s (X++(L++(y::Y)))::As)) (λt=>t.2-t.1) (0,j9 L) k0 ⟨k9,k9,λ_ _ h=>o5,λ_ n E=>absurd n (by simpa using E),H⟩ ?_;rintro⟨i,j⟩ n ⟨a0,hj,D,g,Z⟩;dsimp only at*;refine ai (λe=>?_) (λe=>?_)
 ·have f:i<j:=k4
  rw[IU _ _];have eh:((j9 X+i)+(j9 X+j))/2=j9 X+(i+j)/2:=k4
  rw[eh];have d:(i+j)/2<j9 L:=k4
  refine⟨k6,kz Z (j9 X+j9 L) k0 (x:=y) ?_ (kz Z _ k0 (x:=L[(i+j)/2]) ?_ (fq m7 ?_))⟩
  ·rw[qj k4,show X.length+j9 L-j9 X=j9 L by omega,qj (ql _),zc];rfl
  ·rw[qj k4,show X.length+(i+j)/2-j9 X=(i+j)/2 by omega,qp d,qd d]
  refine(rj y L[(i+j)/2] n).mono ?_;rintro _ E ⟨rfl,R2⟩;have H2:=Z.up R2.aj;refine⟨_,k0,trivial,?_⟩;by_cases e2:mv y L[(i+j)/2]<0
  ·have ah:=(sq _ _).1 e2;refine bj (λN=>absurd N pb) λ_=>?_;refine⟨(i,(i+j)/2),k0,⟨k7,k7,D,λk q ap=>?_,H2⟩,k7⟩;intro hc;exact ah (dX.trans _ _ _ (O.at_ dX (i:=(i+j)/2) (j:=k) (by dsimp only at ap;omega) q) hc)
  ·refine bj (λ_=>?_) λN=>absurd N pb;refine⟨((i+j)/2+1,j),lb,⟨k7,hj,λk q am=>?_,g,H2⟩,k7⟩;exact dX.trans _ _ _ (O.at_ dX (by dsimp only at am;omega) d) (Cq e2)
 ·have f:i=j:=k4
  subst f;have hM:Sd cB (L.take i++y::L.drop i):=by
   refine Sd.app dX (Sd.left (v:=L.drop i) (by rw[qJ];exact O)) (zD.2 ⟨λz U=>?_,Sd.right (u:=L.take i) (by rw[qJ];exact O)⟩) λz U w Q=>?_
   ·obtain⟨k,d,rfl⟩:=qK U;rw[we];exact dX.Gp (g _ m8 k4)
   ·obtain⟨k,d,rfl⟩:=qK U;rw[yc];have ar:k<i:=m8
    have n:=D k m8 ar;rcases qV.1 Q with rfl|Q
    ·exact n
    ·obtain⟨l,hl,rfl⟩:=qK Q;rw[we];exact O.at_ dX k4 (by simp at hl;omega)
  have hE:cH cB (L++[y]) (L.take i++y::L.drop i):=by
   have n:cH cB (L.drop i++[y]) ([y]++L.drop i):=cH.ZF dX λz U w Q=>by
    rw[qB.1 Q];obtain⟨k,d,rfl⟩:=qK U;rw[we];exact g _ m8 k4
   have E:=(cH.refl (le:=cB) (L.take i)).app n;have e1:L.take i++(L.drop i++[y])=L++[y]:=by rw[<-qt,qJ]
   rw[e1]at E;exact E
  refine aw (λt:Nat=>((j9 X+t:Nat):Int)) (λt h'=>i<=t/\t<=j9 L/\aa B h0 h' (cQ s (X++(L.take t++(y::(L.drop t++Y))))::As)) (λt=>t-i) L.length k0 ⟨k4,k4,by simpa using Z⟩ ?_;rintro t h3 ⟨ht,ax,V⟩;refine ai (λe2=>?_) (λe2=>?_)
  ·obtain⟨u,rfl⟩:∃u,t=u+1:=⟨t-1,k4⟩
   have P:u<j9 L:=k4
   have o:X++(L.take (u+1)++(y::(L.drop (u+1)++Y)))=(X++L.take u)++L[u]::([]++y::(L.drop (u+1)++Y)):=by rw[aH L u P];simp only[qt,zA,z8]
   obtain⟨q1,q2,q3,q4⟩:=Tl (X++L.take u) [] (L.drop (u+1)++Y) L[u] y (i:=j9 X+u) (j:=j9 X+(u+1)) k8 k8;rw[<-o]at q1 q2 q3 q4;have ek:qc xi (((j9 X+(u+1):Nat):Int)-1)=((j9 X+u:Nat):Int):=l5
   rw[ek];refine kz V _ k0 q1 (kz V _ k0 q2 ?_);refine V.set ac 0 k0 (λ_=>rfl) k0 (j9 X+(u+1)) k0 (qm.1 q2).1 L[u] k0 k0 k0 λh4 H4=>⟨trivial,?_⟩
   refine H4.set ac 0 k0 (λ_=>rfl) k0 (j9 X+u) k0 (by rw[zF];exact(qm.1 q1).1) y k0 k0 k0 λh5 H5=>⟨trivial,?_⟩
   refine⟨u,k0,⟨k4,k4,?_⟩,k4⟩;have N:X++(L.take u++(y::(L.drop u++Y)))=(X++L.take u)++y::([]++L[u]::(L.drop (u+1)++Y)):=by rw[qP P];simp only[qt,zA,z8]
   rw[N,<-q4];exact H5
  ·have:t=i:=k4
   subst this;refine d h3 ⟨L.take t++y::L.drop t,hM,hE,?_⟩;have:X++((L.take t++y::L.drop t)++Y)=X++(L.take t++(y::(L.drop t++Y))):=k9
   rw[this];exact V
end
end Go.Qw
namespace Wl
open Go Go.Vc
theorem aav{L R:List bE}(l:Sd cB L)(k:Sd cB R)(p q:Nat)(s:p<=j9 L)(r:q<=j9 R)
  (m:∀i j (d:i<j9 L) (b:j<j9 R),i+1=p->j=q->cB L[i] R[j]=eR)
  (n:∀i j (d:i<j9 L) (b:j<j9 R),i=p->j+1=q->¬cB L[i] R[j]=eR):
  (∀x∈L.take p,∀y∈R.drop q,cB x y=eR)/\(∀x∈L.drop p,∀y∈R.take q,¬cB x y=eR):=by
 constructor
 ·intro x f y e;obtain⟨i,d,rfl⟩:=qK f;obtain⟨j,b,rfl⟩:=qK e;rw[yc,we];have a:i<p:=m8
  have c:q+j<j9 R:=by simp at b;omega
  have g:=l.at_ dX (i:=i) (j:=p-1) k4 k4;have o:=m (p-1) q k4 k4 k4 k0;have h3:=k.at_ dX (i:=q) (j:=q+j) k4 c;exact dX.trans _ _ _ g (dX.trans _ _ _ o h3)
 ·intro x f y e h;obtain⟨i,d,rfl⟩:=qK f;obtain⟨j,b,rfl⟩:=qK e;rw[yc,we]at h;have c:j<q:=by simp at b;omega
  have a:p+i<j9 L:=m8
  have g:=l.at_ dX (i:=p) (j:=p+i) k4 a;have h3:=k.at_ dX (i:=j) (j:=q-1) k4 k4;exact n p (q-1) k4 k4 k0 k4 (dX.trans _ _ _ g (dX.trans _ _ _ h h3))
end Wl
namespace Go.Qw
open Go Go.Vc Go.Proofs Wl
theorem FA:∀(N:Nat) {B:aB} {h0 h:hZ} {As:List HP} {s:Sl} (X L R Y:List bE) (a m b:Int),0<j9 L->0<j9 R->j9 L+j9 R<=N->a=(j9 X:Int)->m=(j9 X+j9 L:Nat)->b=(j9 X+j9 L+j9 R:Nat)->j9 X+j9 L+j9 R+j9 Y<=2^40->Sd cB L->Sd cB R->
  aa B h0 h (cQ s (X++(L++(R++Y)))::As)->
  ab xm 301 #[s,xb xi a,xb xi m,xb xi b,.func (.func 197) #[] #[]] h λv h'=>v=.tuple #[]/\∃M,Sd cB M/\cH cB (L++R) M/\aa B h0 h' (cQ s (X++(M++Y))::As):=by
 intro N
 induction N with
 |zero=>intro B h0 h As s X L R Y a m b hL hR hN;omega
 |succ N ih=>
  intro B h0 h As s X L R Y a m b hL hR hN ha hm hb U V sR H;refine mW s a m b (197,#[],#[]) ?_;unfold jn;have e1:qc xi (m-a)=(j9 L:Int):=l5
  have e2:qc xi (b-m)=(j9 R:Int):=l5
  rw[e1,e2];refine dD (λc=>?_) λc=>dD (λc2=>?_) λc2=>?_
  ·obtain⟨x,hx⟩:∃x,L=[x]:=by
    match L,hL,c with
    |[x],_,_=>exact⟨x,k0⟩
    |x::y::L,_,c=>simp at c;omega
   subst hx;exact OD (K:=λv h'=>v=.tuple #[]/\∃M,Sd cB M/\cH cB ([x]++R) M/\aa B h0 h' (cQ s (X++(M++Y))::As)) x X R Y (by simp at U⊢;omega) sR H (λh' ⟨M,q1,P,q3⟩=>⟨k0,M,q1,P,q3⟩) a m b ha (by rw[hm];simp) (by rw[hb];simp)
  ·obtain⟨y,hy⟩:∃y,R=[y]:=by
    match R,hR,c2 with
    |[x],_,_=>exact⟨x,k0⟩
    |x::y::L,_,c=>simp at c;omega
   subst hy;exact ML (K:=λv h'=>v=.tuple #[]/\∃M,Sd cB M/\cH cB (L++[y]) M/\aa B h0 h' (cQ s (X++(M++Y))::As)) y X L Y (by simp at U⊢;omega) V H (λh' ⟨M,q1,P,q3⟩=>⟨k0,M,q1,P,q3⟩) a m ha hm
  ·refine⟨k6,?_⟩;subst ha;subst hm;subst hb;have c':j9 L≠1:=λF=>c k4;have br:j9 R≠1:=λF=>c2 k4;rw[IU X.length (j9 X+j9 L+j9 R)];obtain⟨ET,ah⟩:∃ET,ET=(j9 X+(j9 X+j9 L+j9 R))/2:=⟨_,rfl⟩
   rw[<-ah];have en:qc xi ((ET:Int)+((j9 X+j9 L:Nat):Int))=((ET+(j9 X+j9 L):Nat):Int):=l5
   rw[en];obtain⟨n,hn⟩:∃n,n=ET+(j9 X+j9 L):=⟨_,rfl⟩
   rw[<-hn];have ep:qc xi ((n:Int)-1)=((n-1:Nat):Int):=l5
   rw[ep];obtain⟨D,hD⟩:∃D,D=X++(L++(R++Y)):=⟨_,rfl⟩
   have gL:∀i (f:i<j9 L),D[j9 X+i]?=dB L[i]:=λi f=>by
    rw[hD,qj k4,zr,qp f,qd f]
   have gR:∀i (f:i<j9 R),D[j9 X+j9 L+i]?=dB R[i]:=λi f=>by
    rw[hD,qj k4,show X.length+j9 L+i-j9 X=j9 L+i by omega,qj k4,zr,qp f,qd f]
   rw[<-hD]at H;refine bO (λ(k:Int×Int) h'=>h'=h/\∃o f:Nat,k=((o:Int),(f:Int))/\o<=f/\X.length<=o/\f<=j9 X+j9 L/\f<=ET/\n<=o+(j9 X+j9 L+j9 R)/\(o=j9 X∨n=o+(j9 X+j9 L+j9 R))/\(f=j9 X+j9 L∨f=ET)) ?_ ?_
   ·refine ai (λe=>⟨k0,n-(j9 X+j9 L+j9 R),ET,?_,k4,k4,k4,k4,k4,k4,k4⟩) λe=>⟨k0,j9 X,j9 X+j9 L,k0,k4,k4,k4,k4,k4,k4,k4⟩
    have:qc xi ((n:Int)-((j9 X+j9 L+j9 R:Nat):Int))=((n-(j9 X+j9 L+j9 R):Nat):Int):=l5
    rw[this]
   ·rintro⟨bl,bq⟩ _ ⟨rfl,o,f,a3,b1,b2,b3,b4,b5,b6,b7⟩;injection a3 with est1 est2
    subst est1;subst est2;dsimp only;refine aw (λt:Nat×Nat=>((t.1:Int),(t.2:Int))) (λt h'=>o<=t.1/\t.1<=t.2/\t.2<=f/\
     (∀i j (l:i<j9 L) (T:j<j9 R),j9 X+i+1=t.1->j9 X+i+(j9 X+j9 L+j)=n-1->o<t.1->cB L[i] R[j]=eR)/\
     (∀i j (l:i<j9 L) (T:j<j9 R),j9 X+i=t.2->j9 X+i+(j9 X+j9 L+j)=n-1->t.2<f->¬cB L[i] R[j]=eR)/\
     aa B h0 h' (cQ s D::As)) (λt=>t.2-t.1) (o,f) k0 ⟨k9,by simpa using b1,k9,λ_ _ _ _ _ _ E=>absurd E k9,λ_ _ _ _ _ _ E=>absurd E k9,H⟩ ?_
    rintro⟨k,r⟩ h1 ⟨t1,t2,t3,F1,F2,H1⟩;dsimp only at*;refine ai (λe=>?_) (λe=>?_)
    ·have E:k<r:=k4
     rw[IU _ _];obtain⟨I,ar⟩:∃I,I=(k+r)/2:=⟨_,rfl⟩
     rw[<-ar];have ax:qc xi (((n-1:Nat):Int)-(I:Int))=((n-1-I:Nat):Int):=l5
     rw[ax];obtain⟨i,l⟩:∃i,I=j9 X+i:=⟨I-j9 X,k4⟩
     obtain⟨j,a7⟩:∃j,n-1-I=j9 X+j9 L+j:=⟨n-1-I-(j9 X+j9 L),k4⟩
     have a9:i<j9 L:=k4
     have a6:j<j9 R:=k4
     rw[a7,l];refine⟨k6,kz H1 _ k0 (gR j a6) (kz H1 _ k0 (gL i a9) (fq m7 ?_))⟩;refine(rj R[j] L[i] h1).mono ?_;rintro _ h2 ⟨rfl,R2⟩;have G:=H1.up R2.aj;refine⟨_,k0,trivial,?_⟩;by_cases e2:mv R[j] L[i]<0
     ·have ay:=(sq _ _).1 e2;refine bj (λe3=>absurd e3 pb) λ_=>?_;refine⟨(k,j9 X+i),k0,⟨t1,k7,k7,F1,λi2 j2 am a5 z A _=>?_,G⟩,k7⟩;dsimp only at z;have:i2=i:=k4
      subst this;have:j2=j:=k4
      subst this;exact ay
     ·refine bj (λ_=>?_) λe3=>absurd e3 pb;refine⟨(j9 X+i+1,r),lb,⟨k7,k7,t3,λi2 j2 am a5 z A _=>?_,F2,G⟩,k7⟩;dsimp only at z;have:i2=i:=k4
      subst this;have:j2=j:=k4
      subst this;exact Cq e2
    ·have ap:k=r:=k4
     subst ap;have bb:qc xi ((n:Int)-(k:Int))=((n-k:Nat):Int):=l5
     rw[bb];obtain⟨p,hp⟩:∃p,k=j9 X+p:=⟨k-j9 X,k4⟩
     obtain⟨q,hq⟩:∃q,n-k=j9 X+j9 L+q:=⟨n-k-(j9 X+j9 L),k4⟩
     have a8:p<=j9 L:=k4
     have bd:q<=j9 R:=k4
     obtain⟨bk,a1⟩:=aav V sR p q a8 bd (λi j l T z A=>F1 i j l T k4 k4 (by
      by_cases a2:o<k
      ·exact a2
      ·exfalso;have:k=o:=k4
       omega)) (λi j l T z A=>F2 i j l T k4 k4 (by
      by_cases a0:k<f
      ·exact a0
      ·exfalso;have:k=f:=k4
       omega))
     have eL:L.take p++L.drop p=L:=qJ _ _;have Q:R.take q++R.drop q=R:=qJ _ _;have l1:j9 (L.take p)=p:=k8
     have l2:j9 (L.drop p)=j9 L-p:=k9
     have r1:j9 (R.take q)=q:=k8
     have r2:j9 (R.drop q)=j9 R-q:=k9
     have Z:Sd cB (L.take p):=Sd.left (v:=L.drop p) (by rw[eL];exact V);have ad:Sd cB (L.drop p):=Sd.right (u:=L.take p) (by rw[eL];exact V);have S:Sd cB (R.take q):=Sd.left (v:=R.drop q) (by rw[Q];exact sR);have W:Sd cB (R.drop q):=Sd.right (u:=R.take q) (by rw[Q];exact sR);rw[hq,hp];refine bO (λ_ h'=>aa B h0 h' (cQ s (X++(L.take p++(R.take q++(L.drop p++(R.drop q++Y)))))::As)) ?_ ?_
     ·have w:aa B h0 h1 (cQ s ((X++L.take p)++(L.drop p++(R.take q++(R.drop q++Y))))::As):=by
       have:(X++L.take p)++(L.drop p++(R.take q++(R.drop q++Y)))=D:=by
        rw[hD]
        conv=>rhs;rw[<-eL,<-Q]
        simp only[qt,zA,z8]
       rw[this];exact H1
      refine ai (λz=>ai (λA=>?_) λA=>?_) λz=>?_
      ·refine(Vj (X++L.take p) (L.drop p) (R.take q) (R.drop q++Y) _ _ _ k4 k4 k8 k8 k8 k8 w).mono ?_;rintro _ h2 ⟨rfl,G⟩;refine⟨(),k0,?_⟩;rw[qt]at G;exact G
      ·have:R.take q=[]:=q8 k4;rw[this]at w⊢;simpa using w
      ·have:L.drop p=[]:=q8 k4;rw[this]at w⊢;simpa using w
     ·rintro _ h2 G;refine bO (λ_ h'=>∃g,Sd cB g/\cH cB (L.take p++R.take q) g/\g.length=p+q/\aa B h0 h' (cQ s (X++(g++(L.drop p++(R.drop q++Y))))::As)) ?_ ?_
      ·have d:(L.take p=[]∨R.take q=[])->∃g,Sd cB g/\cH cB (L.take p++R.take q) g/\g.length=p+q/\aa B h0 h2 (cQ s (X++(g++(L.drop p++(R.drop q++Y))))::As):=λO=>by
        refine⟨L.take p++R.take q,?_,cH.refl _,k8,by rw[qt];exact G⟩;rcases O with F|F
        ·rw[F];exact S
        ·rw[F,qL];exact Z
       refine ai (λz=>ai (λA=>?_) λA=>d (.inr (q8 k4))) λz=>d (.inl (q8 k4));refine(ih X (L.take p) (R.take q) (L.drop p++(R.drop q++Y)) _ _ _ k4 k4 k4 k0 (by rw[l1]) (by rw[l1,r1];omega) k8 Z S G).mono ?_;rintro _ h3 ⟨rfl,g,q1,P,q3⟩;refine⟨(),k0,g,q1,P,?_,q3⟩;have J:=xx dX P;rw[<-J];simp;omega
      ·rintro _ h3 ⟨g,m1,m2,m3,H3⟩;have fin:∀{h':hZ} {M2:List bE},Sd cB M2->cH cB (L.drop p++R.drop q) M2->aa B h0 h' (cQ s (X++(g++(M2++Y)))::As)->(Value.tuple #[]=.tuple #[]/\∃M,Sd cB M/\cH cB (L++R) M/\aa B h0 h' (cQ s (X++(M++Y))::As)):=λ{h' M2} k1 k2 k3=>by
        obtain⟨f1,f2⟩:=ZG dX (by rw[eL];exact V) (by rw[Q];exact sR) bk a1 m2 m1 k2 k1;rw[eL,Q]at f2;exact⟨k0,g++M2,f1,f2,by rw[qt];exact k3⟩
       have d:(L.drop p=[]∨R.drop q=[])->(Value.tuple #[]=.tuple #[]/\∃M,Sd cB M/\cH cB (L++R) M/\aa B h0 h3 (cQ s (X++(M++Y))::As)):=λO=>by
        refine fin (M2:=L.drop p++R.drop q) ?_ (cH.refl _) (by rw[qt];exact H3);rcases O with F|F
        ·rw[F];exact W
        ·rw[F,qL];exact ad
       refine ai (λz=>ai (λA=>?_) λA=>d (.inr (q8 k4))) λz=>d (.inl (q8 k4));have a4:aa B h0 h3 (cQ s ((X++g)++(L.drop p++(R.drop q++Y)))::As):=by rw[qt];exact H3
       refine(ih (X++g) (L.drop p) (R.drop q) Y _ _ _ k4 k4 k4 k8 k8 k8 k8 ad W a4).mono ?_;rintro _ h4 ⟨rfl,M2,k1,k2,k3⟩;refine⟨(),k0,fin k1 k2 (by rw[qt]at k3;exact k3)⟩
end Go.Qw
namespace Wl
open Go Go.Vc
def Bs(k:Nat)(l:List bE):Prop:=∀q,Sd cB ((l.drop (q*k)).take k)
theorem Bs.nil(k:Nat):Bs k []:=λq=>by simp[Sd]
theorem Bs.first{k:Nat}{l:List bE}(h:Bs k l):Sd cB (l.take k):=by have:=h 0;simpa using this
theorem Bs.rest{k:Nat}{l:List bE}(h:Bs k l):Bs k (l.drop k):=λq=>by
 have:=h (q+1);rw[zL,show k+q*k=(q+1)*k by rw[zO,Nat.add_comm]];exact this
theorem Bs.snoc{k t:Nat}{l M:List bE}(h:Bs k l)(c:j9 l=t*k)(b:Sd cB M)(d:j9 M<=k:=by omega):Bs k (l++M):=λq=>by
 rcases Nat.lt_trichotomy q t with hq|hq|hq
 ·have a:(q+1)*k<=t*k:=zo _ hq;rw[zO]at a;rw[List.drop_append_of_le_length k4,yZ ns];exact h q
 ·subst hq;rw[<-c,List.drop_left,qi d];exact b
 ·have a:(t+1)*k<=q*k:=zo _ hq;rw[zO]at a;rw[zi (by rw[qy];omega)];simp[Sd]
theorem Bs.whole{k:Nat}{l:List bE}(h:Bs k l)(a:j9 l<=k):Sd cB l:=by have:=h.first;rw[qi a]at this;exact this
end Wl
namespace Go.Qw
open Go Go.Vc Go.Proofs Wl
section
variable {B:aB} {h0 h h':hZ} {As:List HP} {s:Sl} {d:List bE}
theorem Vk(d:List bE)(n:Int)(hn:n=j9 d)(hd:j9 d<=2^30)(H:aa B h0 h (cQ s d::As)):
  ab xm 248 #[s,xb xi n,.func (.func 197) #[] #[]] h λv h'=>v=.tuple #[]/\aa B h0 h' (cQ s (d.mergeSort cB)::As):=by
 subst hn;refine nH s d.length (197,#[],#[]) ?_;unfold jO;refine aw (λP:List bE=>((j9 P:Int),((j9 P+20:Nat):Int))) (λP h'=>j9 P<=j9 d/\(∃t,j9 P=t*20)/\Bs 20 P/\cH cB (d.take P.length) P/\aa B h0 h' (cQ s (P++d.drop P.length)::As)) (λP=>j9 d-j9 P) [] k0 ⟨k9,⟨0,k9⟩,Bs.nil _,by simpa using cH.refl _,n4⟩ ?_;rintro P Z ⟨hP,⟨t,K⟩,S,V,L⟩;dsimp only;refine ai (λe=>?_) (λe=>?_)
 ·have am:j9 P+20<=j9 d:=k4
  have eY:(d.drop P.length).take 20++d.drop (j9 P+20)=d.drop P.length:=by rw[<-zL];exact qJ _ _
  have W:j9 ((d.drop P.length).take 20)=20:=k8
  rw[<-eY]at L;refine(Dr P ((d.drop P.length).take 20) (d.drop (j9 P+20)) _ _ k0 (by rw[W]) k8 L).mono ?_;rintro _ h2 ⟨rfl,i,p,b,H2⟩;have q:j9 i=20:=by rw[<-xx dX b,W]
  have f:j9 (P++i)=j9 P+20:=by rw[qy,q]
  refine⟨(),k0,P++i,?_,⟨k4,⟨t+1,by rw[f,K,zO]⟩,S.snoc K p,?_,?_⟩,k4⟩
  ·rw[f,ag _];congr 1
  ·rw[f];have:d.take (j9 P+20)=d.take P.length++(d.drop P.length).take 20:=by rw[List.take_add]
   rw[this];exact V.app b
  ·rw[f,qt];exact H2
 ·have I:aa B h0 Z (cQ s (P++(d.drop P.length++[]))::As):=by rw[qL];exact L
  refine(Dr P (d.drop P.length) [] _ _ k0 ns k8 I).mono ?_;rintro _ h3 ⟨rfl,i,p,b,U⟩;have q:j9 i=j9 d-j9 P:=by rw[<-xx dX b,ze]
  have J:Bs 20 (P++i):=S.snoc K p;have c:cH cB d (P++i):=by have:=V.app b;rw[qJ]at this;exact this
  refine⟨(),k0,?_⟩;refine aw (λt:Nat×List bE=>(t.1:Int)) (λt h'=>0<t.1/\t.1<=2^32/\t.2.length=j9 d/\Bs t.1 t.2/\cH cB d t.2/\aa B h0 h' (cQ s t.2::As)) (λt=>2^32-t.1) (20,P++i) k0 ⟨k7,k7,by dsimp only;rw[qy];omega,J,c,by rw[qL]at U;exact U⟩ ?_;rintro⟨k,l⟩ h4 ⟨Y,hk,hl,R,r,N⟩;dsimp only at*;refine ai (λe2=>?_) (λe2=>?_)
  ·have ah:k<j9 d:=k4
   have O:qc xi ((2:Int)*k)=((2*k:Nat):Int):=l5
   have G:qc xi ((k:Int)*2)=((2*k:Nat):Int):=l5
   rw[O];have next:∀{h':hZ} (l':List bE),j9 l'=j9 d->Bs (2*k) l'->cH cB l l'->aa B h0 h' (cQ s l'::As)->∃g:Nat×List bE,qc xi ((k:Int)*2)=(g.1:Int)/\(0<g.1/\g.1<=2^32/\g.2.length=j9 d/\Bs g.1 g.2/\cH cB d g.2/\aa B h0 h' (cQ s g.2::As))/\2^32-g.1<2^32-k:=λ{h'} l' q1 q2 q3 q4=>
    ⟨(2*k,l'),G,⟨k7,k7,q1,q2,r.trans q3,q4⟩,k7⟩
   refine aw (λt:List bE×List bE=>((j9 t.1:Int),((j9 t.1+2*k:Nat):Int))) (λt h'=>(∃u,j9 t.1=u*(2*k))/\t.1.length+j9 t.2=j9 d/\Bs (2*k) t.1/\Bs k t.2/\cH cB l (t.1++t.2)/\aa B h0 h' (cQ s (t.1++t.2)::As)) (λt=>j9 t.2) ([],l) (by dsimp only;rw[yw,Nat.zero_add];rfl) ⟨⟨0,k9⟩,by simpa using hl,Bs.nil _,R,by simpa using cH.refl _,by simpa using N⟩ ?_;rintro⟨P,Q⟩ T ⟨⟨u,A⟩,ap,o,a,c,E⟩;dsimp only at*;have F:qc xi ((j9 P:Int)+k)=((j9 P+k:Nat):Int):=l5
   rw[F];have eQ:Q.take k++Q.drop k=Q:=qJ _ _;refine ai (λe3=>?_) (λe3=>ai (λe4=>?_) λe4=>?_)
   ·have ad:2*k<=j9 Q:=k4
    have y:Q.take k++((Q.drop k).take k++Q.drop (2*k))=Q:=by
     have:Q.drop (2*k)=(Q.drop k).drop k:=by rw[zL];congr 1;omega
     rw[this,qJ,eQ]
    have l1:j9 (Q.take k)=k:=k8
    have l2:j9 ((Q.drop k).take k)=k:=k8
    have m:aa B h0 T (cQ s (P++(Q.take k++((Q.drop k).take k++Q.drop (2*k))))::As):=by rw[y];exact E
    refine(FA _ P (Q.take k) ((Q.drop k).take k) (Q.drop (2*k)) _ _ _ k4 k4 (ql _) k0 (by rw[l1]) (by rw[l1,l2];omega) k8 a.first a.rest.first m).mono ?_;rintro _ h6 ⟨rfl,M,p,b,z⟩;have w:j9 M=2*k:=by rw[<-xx dX b,qy,l1,l2];omega
    have j:j9 (P++M)=j9 P+2*k:=by rw[qy,w]
    refine⟨(),k0,(P++M,Q.drop (2*k)),?_,⟨⟨u+1,by dsimp only;rw[j,A];exact(zO u (2*k)).symm⟩,by dsimp only;rw[j,ze];omega,o.snoc A p,?_,?_,?_⟩,by dsimp only;rw[ze];omega⟩
    ·dsimp only;rw[j,ag _];congr 1
    ·dsimp only;have:Q.drop (2*k)=(Q.drop k).drop k:=by rw[zL];congr 1;omega
     rw[this];exact a.rest.rest
    ·dsimp only;refine c.trans ?_
     conv=>arg 2;rw[<-y]
     rw[qt];have:=(cH.refl (le:=cB) P).app (b.app (cH.refl (le:=cB) (Q.drop (2*k))));rw[qt]at this;exact this
    ·dsimp only;rw[qt];exact z
   ·have x:k<j9 Q:=k4
    have X:j9 Q<2*k:=k4
    have l1:j9 (Q.take k)=k:=k8
    have l2:j9 (Q.drop k)=j9 Q-k:=k9
    have D:Sd cB (Q.drop k):=by have:=a.rest.first;rw[qi k4]at this;exact this
    have m:aa B h0 T (cQ s (P++(Q.take k++(Q.drop k++[])))::As):=by rw[qL,eQ];exact E
    refine(FA _ P (Q.take k) (Q.drop k) [] _ _ _ k4 k4 (ql _) k0 (by rw[l1]) (by rw[l1,l2];omega) k8 a.first D m).mono ?_;rintro _ h6 ⟨rfl,M,p,b,z⟩;have w:j9 M=j9 Q:=by rw[<-xx dX b,eQ]
    rw[eQ]at b;rw[qL]at z;exact⟨(),k0,next (P++M) (by rw[qy];omega) (o.snoc A p) (c.trans ((cH.refl _).app b)) z⟩
   ·have x:j9 Q<=k:=k4
    exact next (P++Q) (by rw[qy];omega) (o.snoc A (a.whole x)) c E
  ·have hs:Sd cB l:=R.whole k4;rw[aeL dX hs r]at N;exact⟨k0,N⟩
theorem MM(d:List bE)(a:j9 d<=2^30)(H:aa B h0 h (cQ s d::As)):
  ab xm 196 #[s,.func (.func 197) #[] #[]] h λv h'=>v=.tuple #[]/\aa B h0 h' (cQ s (d.mergeSort cB)::As):=by
 refine km s (197,#[],#[]) ?_;unfold gm;refine(Vk d _ (by rw[(H.own 0 k0).len]) a H).mono ?_;rintro _ c ⟨rfl,b⟩;exact⟨(),k0,k0,b⟩
def kl:bE:=(0,0,0,0,0,0,0,⟨eH,0,0⟩)
end
end Go.Qw
namespace Wl
open Go Go.Vc Go.Qw
def kQ(l:List bE)(k:Nat):Bool:=decide (k=0)||decide (mv (l.getD k kl) (l.getD (k-1) kl)≠0)
def kR(l:List bE)(k:Nat):List bE:=((qx k).filter (kQ l)).map λi=>l.getD i kl
def cpt(l:List bE):List bE:=kR l l.length
theorem nK(l:List bE)(k:Nat):kR l (k+1)=kR l k++if kQ l k then[l.getD k kl]else[]:=by unfold kR;rw[zR,zl,qW,zp,yJ];split<;>rfl
end Wl
namespace Go.Qw
open Go Go.Vc Go.Proofs Wl
section
variable {B:aB} {h0 h h':hZ} {As:List HP} {s:Sl} {d:List bE}
theorem MN(a b:bE)(h:hZ):ab xm 199 #[recv a,recv b] h λv h'=>v=xg (decide (mv a b=0))/\Sp h h' []:=by refine Hi a b ?_;unfold Ag;refine(Sp.refl h).boxed λe j g=>g.boxed λf d c=>?_;have c:Sp h d [ao e 170 (bP a),ao f 170 (bP b)]:=c;refine⟨a,(c.box 0 k0).aS _ k0,b,(c.box 1 k0).aS _ k0,(rj a b d).mono ?_⟩;rintro _ h3 ⟨rfl,i⟩;refine⟨_,k0,?_,.zip (aa.up c i.aj).aj⟩;congr 1
theorem KU(l:List bE)(hd:j9 l<=2^30)(H:aa B h0 h (cQ s l::As)):
  ab xm 198 #[s,.func (.func 199) #[] #[]] h λv h'=>∃r:Sl,v=r/\aa B h0 h' (cQ r (cpt l)::As):=by
 refine li s (199,#[],#[]) ?_;unfold gK;have ad:=(H.own 0 k0).len;have z:=(H.own 0 k0).cap;have same:(∀j,j<j9 l->kQ l j=eR)->cpt l=l:=λF=>by
  have:∀k,k<=j9 l->kR l k=l.take k:=λk=>by
   induction k with
   |zero=>simp[kR]
   |succ k ih=>
    intro P;rw[nK,ih k4,j1 (F k k4),aH l k,getD_lt (show k<j9 l by omega)]
  unfold cpt;rw[this _ (ql _),qS]
 refine ai (λe=>⟨s,k0,?_⟩) (λe=>?_)
 ·rw[same λj m=>by unfold kQ;rw[j6 (show j=0 by omega)];rfl];exact H
 refine aw (λi:Nat=>(i:Int)) (λi h'=>1<=i/\i<=j9 l/\(∀j,j<i->kQ l j=eR)/\aa B h0 h' (cQ s l::As)) (λi=>j9 l-i) 1 k0 ⟨k4,k4,λj m=>by unfold kQ;rw[j6 (show j=0 by omega)];rfl,H⟩ ?_;rintro i h1 ⟨am,hi,F,I⟩;refine ai (λO=>?_) (λO=>?_)
 ·have u:i<j9 l:=by have e':(i:Int)<(s.len:Int):=O;omega
  have ei:qc xi ((i:Int)-1)=((i-1:Nat):Int):=l5
  rw[ei];refine kz I i k0 (x:=l.getD i kl) (by rw[getD_lt u,qd u]) (kz I (i-1) k0 (x:=l.getD (i-1) kl) (by rw[getD_lt (show i-1<j9 l by omega),qd]) (fq m7 ?_));refine(MN _ _ h1).mono ?_;rintro _ h2 ⟨rfl,R2⟩;have V:=I.up R2.aj;refine⟨_,k0,trivial,bQ (λe2=>?_) λe2=>?_⟩
  ·have n:kQ l i=eS:=by unfold kQ;rw[j7 (show¬i=0 by omega)];simpa using e2
   have p:kR l i=l.take i:=by
    have:∀k,k<=i->kR l k=l.take k:=λk=>by
     induction k with
     |zero=>simp[kR]
     |succ k ih=>
      intro P;rw[nK,ih k4,j1 (F k k4),aH l k,getD_lt (show k<j9 l by omega)]
    exact this i (ql _)
   refine⟨⟨k4,k4⟩,?_⟩;rw[qn];refine aw (λt:Nat×List bE=>((j9 (kR l (i+t.1)):Int),(t.1:Int))) (λt h'=>1<=t.1/\i+t.1<=j9 l/\t.2.length=j9 l/\(kR l (i+t.1)).length+1<=i+t.1/\t.2.take (kR l (i+t.1)).length=kR l (i+t.1)/\(∀j,i+t.1-1<=j->t.2[j]?=l[j]?)/\aa B h0 h' (cQ s t.2::As)) (λt=>j9 l-t.1) (1,l) ?_ ⟨k9,k7,k0,?_,?_,λ_ _=>rfl,V⟩ ?_
   ·dsimp only;rw[nK,n,p];simp;omega
   ·dsimp only;rw[nK,n,p];simp;omega
   ·dsimp only;rw[nK,n,p];simp
   rintro⟨k,D⟩ h3 ⟨Z,ap,E,L,d,q,G⟩;dsimp only at*;obtain⟨c,Q⟩:∃c,c=j9 (kR l (i+k)):=⟨_,rfl⟩
   rw[<-Q]at L d⊢;have ah:=(G.own 0 k0).len;have A:=(G.seq 0 k0 λ_=>rfl).drop i z;refine ai (λe3=>?_) (λe3=>?_)
   ·have J:i+k<j9 l:=k4
    have ek:qc xi ((k:Int)-1)=((k-1:Nat):Int):=l5
    rw[ek];have Y:∀j,k-1<=j->(m:i+j<j9 l)->(D.drop i)[j]?=dB (l.getD (i+j) kl):=λj m w=>by
     rw[List.getElem?_drop,q _ k4,getD_lt w,qd w]
    have gk:=Y k k4 J;have M:=Y (k-1) k4 k4;obtain⟨W,X⟩:=qm.1 gk;obtain⟨q1,q2⟩:=qm.1 M;refine Seq.ey (f:=bP) (g:=bP) A k k0 W (l.getD (i+k) kl) (by rw[X]) ?_;refine Seq.ey (f:=bP) (g:=bP) A (k-1) k0 q1 (l.getD (i+(k-1)) kl) (by rw[q2]) (fq m7 ?_);refine(MN _ _ h3).mono ?_;rintro _ h4 ⟨rfl,R4⟩;have S:=G.up R4.aj;have o:kQ l (i+k)=!decide (mv (l.getD (i+k) kl) (l.getD (i+(k-1)) kl)=0):=by unfold kQ;rw[j7 (show¬i+k=0 by omega),show i+k-1=i+(k-1)by omega];simp
    have b:=nK l (i+k);rw[o]at b;refine⟨_,k0,trivial,bj (λR=>?_) λR=>?_⟩
    ·rw[R]at b;have a:j9 (kR l (i+(k+1)))=c+1:=by rw[<-yk,b];simp[Q]
     have y:=(S.seq 0 k0 λ_=>rfl).drop i z;refine Seq.ey (f:=bP) (g:=bP) y k k0 W (l.getD (i+k) kl) (by rw[X]) ?_;refine S.set ac 0 k0 (λ_=>rfl) k0 c k0 k4 (l.getD (i+k) kl) k0 k0 k0 λh5 H5=>?_;refine⟨(k+1,D.set c (l.getD (i+k) kl)),?_,⟨k7,k7,by dsimp only;rw[zF];exact E,by dsimp only;rw[a];omega,?_,λj m=>?_,H5⟩,k7⟩
     ·dsimp only;rw[a,ag _,ag _];rfl
     ·dsimp only;rw[a,aH _ c (by rw[zF];omega),List.getElem_set_self,List.take_set_of_le (ql _),d,<-yk,b];simp
     ·dsimp only at m⊢;rw[zN k4];exact q j k4
    ·rw[R]at b;have a:j9 (kR l (i+(k+1)))=c:=by rw[<-yk,b];simp[Q]
     refine⟨(k+1,D),?_,⟨k7,k7,E,by dsimp only;rw[a];omega,?_,λj m=>q j (by dsimp only at m;omega),S⟩,k7⟩
     ·dsimp only;rw[a,ag _];rfl
     ·dsimp only;rw[a,d,<-yk,b];simp
   ·have N:i+k=j9 l:=k4
    refine⟨⟨k4,k4⟩,?_⟩;rw[qn];refine G.te ac 0 k0 ahA (λ_=>rfl) k0 k6 c k4 λh6 U=>⟨⟨k4,k4⟩,⟨s.ptr,c,s.cap⟩,k0,?_⟩
    rw[d,N]at U;exact U
  ·refine⟨i+1,ld,⟨k4,k4,λj m=>?_,V⟩,k4⟩;by_cases K:j=i
   ·subst K;unfold kQ;rw[j6 (show mv (l.getD j kl) (l.getD (j-1) kl)≠0 by simpa using e2)];simp
   ·exact F j k4
 ·have T:i=j9 l:=by have e':¬(i:Int)<(s.len:Int):=O;omega
  subst T;rw[same F];exact⟨s,k0,I⟩
end
def fieldsOf(d:Option TypeDesc):List (Bool×TypeId×Nat):=match d with|some (.struct fs)=>fs.toList.map (λf=>(f.name== "_",f.type,f.offset))|_=>[]
theorem aax:fieldsOf (Tryz.prog.underlying 24)=[(eS,3,0),(eS,3,1),(eS,3,2)]:=l0
theorem adt:Tryz.prog.stoodInHeld 24=eS:=l0
theorem adu:Tryz.prog.eqGuardType Tryz.prog.depth 24=eS:=l0
theorem Tr{P:Program}{t:TypeId}{a b c:TypeId×Nat}(h:fieldsOf (P.underlying t)=[(eS,a.1,a.2),(eS,b.1,b.2),(eS,c.1,c.2)]):
  ∃f g e:Field,P.underlying t=dB (.struct #[f,g,e])/\(f.name≠ "_" /\f.type=a.1/\f.offset=a.2)/\(g.name≠ "_" /\g.type=b.1/\g.offset=b.2)/\(e.name≠ "_" /\e.type=c.1/\e.offset=c.2):=by
 cases hu:P.underlying t with
 |none=>rw[hu]at h;cases h
 |some d=>
  rw[hu]at h;cases d with
  |struct fs=>
   simp only[fieldsOf]at h;obtain⟨l⟩:=fs;have i:j9 l=3:=by simpa using congrArg vd h
   obtain⟨f,r,rfl⟩:=yp i;obtain⟨g,k,rfl⟩:=yp (by simpa using i:j9 r=1+1);obtain⟨e,j,rfl⟩:=yp (by simpa using i:j9 k=0+1);obtain rfl:j=[]:=by simpa using i
   simp at h;exact⟨f,g,e,k0,⟨h.1.1,h.1.2.1,h.1.2.2⟩,⟨h.2.1.1,h.2.1.2.1,h.2.1.2.2⟩,⟨h.2.2.1,h.2.2.2.1,h.2.2.2.2⟩⟩
  |_=>cases h
theorem jH{P:Program}{d:Nat}{t:TypeId}{k:IntKind}(h:∃c,P.underlying t=dB (.int c))(a b:Int):aL P (Op.equalIn (d+1) t (.int k a) (.int k b)) (a==b):=by obtain⟨c,h⟩:=h;unfold Op.equalIn;refine(aV h).bind ?_;simp only[if_true];exact .pure
theorem mL{P:Program}{t:TypeId}{k:IntKind}(h:P.underlying t=dB (.int k)){a:Array Value}{i:Nat}{v:Value}(b:a[i]?=dB v):aL P (part t a i) v:=by unfold part isAgg;refine aL.bind (v:=eS) ((aV h).bind .pure) ?_;simp only[zk,if_false,b];exact .pure
theorem air(p q:Pm):aL xm (Op.equal 24 (xh #[xb xi p.1,xb xi p.2.1,xb xi p.2.2]) (xh #[xb xi q.1,xb xi q.2.1,xb xi q.2.2])) (decide (p=q)):=by
 obtain⟨f,g,u,z,⟨F,D,E⟩,⟨y,A,I⟩,⟨B,G,u3⟩⟩:=Tr (a:=(3,0)) (b:=(3,1)) (c:=(3,2)) aax;have H:∃k,Tryz.prog.underlying 3=dB (.int k):=⟨.i64,l0⟩
 obtain⟨k,d⟩:=H;unfold Op.equal;rw[show Op.maxDepth=9998+1+1 from k0,Op.equalIn];refine(aV z).bind ?_;refine aL.bind (v:=xm) (λw=>rfl) ?_;simp only[adt,zk,if_false,List.forIn_toArray,List.forIn_cons,List.forIn_nil,ne_eq,F,y,B,not_false_eq_true,if_true,D,E,A,I,G,u3];obtain⟨a,b,c⟩:=p;obtain⟨h,i,j⟩:=q;dsimp only;have n:aL xm (part 3 #[Value.int xi a,Value.int xi b,Value.int xi c] 0) _:=mL d k0;have o:aL xm (part 3 #[Value.int xi h,Value.int xi i,Value.int xi j] 0) _:=mL d k0;have r:aL xm (part 3 #[Value.int xi a,Value.int xi b,Value.int xi c] 1) _:=mL d k0;have s:aL xm (part 3 #[Value.int xi h,Value.int xi i,Value.int xi j] 1) _:=mL d k0;have t:aL xm (part 3 #[Value.int xi a,Value.int xi b,Value.int xi c] 2) _:=mL d k0;have x:aL xm (part 3 #[Value.int xi h,Value.int xi i,Value.int xi j] 2) _:=mL d k0;by_cases l:a=h
 ·by_cases m:b=i
  ·by_cases h3:c=j
   ·have e:decide ((a,b,c)=(h,i,j))=eR:=by simp[l,m,h3]
    rw[e];refine aL.bind (v:=(eH,())) (aL.bind (v:=ForInStep.yield (eH,())) (n.bind (o.bind ((jH ⟨k,d⟩ a h).bind ?_))) (aL.bind (v:=ForInStep.yield (eH,())) (r.bind (s.bind ((jH ⟨k,d⟩ b i).bind ?_))) (aL.bind (v:=ForInStep.yield (eH,())) (t.bind (x.bind ((jH ⟨k,d⟩ c j).bind ?_))) .pure))) .pure
    ·simp only[l,beq_self_eq_true,w4,zk,if_false];exact .pure
    ·simp only[m,beq_self_eq_true,w4,zk,if_false];exact .pure
    ·simp only[h3,beq_self_eq_true,w4,zk,if_false];exact .pure
   ·have e:decide ((a,b,c)=(h,i,j))=eS:=by simp[h3]
    rw[e];refine aL.bind (v:=(dB eS,())) (aL.bind (v:=ForInStep.yield (eH,())) (n.bind (o.bind ((jH ⟨k,d⟩ a h).bind ?_))) (aL.bind (v:=ForInStep.yield (eH,())) (r.bind (s.bind ((jH ⟨k,d⟩ b i).bind ?_))) (aL.bind (v:=ForInStep.done (dB eS,())) (t.bind (x.bind ((jH ⟨k,d⟩ c j).bind ?_))) .pure))) .pure
    ·simp only[l,beq_self_eq_true,w4,zk,if_false];exact .pure
    ·simp only[m,beq_self_eq_true,w4,zk,if_false];exact .pure
    ·rw[show(c==j)=eS by simpa using h3];simp only[w6,if_true];exact .pure
  ·have e:decide ((a,b,c)=(h,i,j))=eS:=by simp[m]
   rw[e];refine aL.bind (v:=(dB eS,())) (aL.bind (v:=ForInStep.yield (eH,())) (n.bind (o.bind ((jH ⟨k,d⟩ a h).bind ?_))) (aL.bind (v:=ForInStep.done (dB eS,())) (r.bind (s.bind ((jH ⟨k,d⟩ b i).bind ?_))) .pure)) .pure
   ·simp only[l,beq_self_eq_true,w4,zk,if_false];exact .pure
   ·rw[show(b==i)=eS by simpa using m];simp only[w6,if_true];exact .pure
 ·have e:decide ((a,b,c)=(h,i,j))=eS:=by simp[l]
  rw[e];refine aL.bind (v:=(dB eS,())) (aL.bind (v:=ForInStep.done (dB eS,())) (n.bind (o.bind ((jH ⟨k,d⟩ a h).bind ?_))) .pure) .pure;rw[show(a==h)=eS by simpa using l];simp only[w6,if_true];exact .pure
theorem ahD(x y:Operand)(p q:Pm):kB xm .neq 24 x y (xh #[xb xi p.1,xb xi p.2.1,xb xi p.2.2]) (xh #[xb xi q.1,xb xi q.2.1,xb xi q.2.2]) (xg (!decide (p=q))):=by
 unfold kB eqGuard;refine aL.bind (v:=()) ?_ ?_
 ·simp only[w4,zk,if_false];refine aL.bind (v:=xm) (λw=>rfl) ?_;refine aL.bind (v:=xm) (λw=>rfl) ?_;simp only[adu,w6,if_true];exact .pure
 ·exact(air p q).bind .pure
end Go.Qw
namespace Wl
def adv(P:bK->Bool)(l:List bK)(i:Int):Prop:=(i=-1/\l.any P=eS)∨∃n:Nat,∃h:n<j9 l,i=n/\P l[n]=eR/\(l.take n).any P=eS
theorem Ts{P:bK->Bool}{l:List bK}{i:Int}(h:adv P l i):decide (i>=0)=l.any P:=by
 rcases h with⟨rfl,h⟩|⟨n,hn,rfl,h,_⟩
 ·rw[h];rfl
 ·rw[wc.2 ⟨_,qh hn,h⟩];exact j6 k4
end Wl
namespace Go.Qw
open Go Go.Vc Go.Proofs Wl
theorem JP(f:FuncId)(pre post:Array Value)(P:Wl.bK->Bool)(l:Sl)(a:List Wl.bK)(h:hZ)(q:C.fns[f]?=dB eR)(n:dS xC h l a)(F:j9 a<=2^30)
  (r:∀(u:eF) (E:Wl.bK) (h':hZ),Sp h h' []->dS jA h' u E->E∈a->ab xm f (pre.toList++[Value.agg #[xf u.1,xb xi u.2.1,xb xi u.2.2.1,u.2.2.2]]++post.toList).toArray h' λv k=>v=xg (P E)/\Sp h' k []):
  ab xm 152 #[l,.func (.func f) pre post] h λv h'=>(∃i:Int,v=xb xi i/\adv P a i)/\Sp h h' []:=by
 refine ig l (f,pre,post) ?_;unfold fC;obtain⟨j,p,A,z⟩:=bF.jh n;have s:=bF.len n;refine aw (λi:Nat=>(i:Int)) (λi h'=>i<=j9 a/\(a.take i).any P=eS/\Sp h h' []) (λi=>j9 a-i) 0 k0 ⟨k4,k9,Sp.refl h⟩ ?_;rintro i o ⟨D,b,d⟩;refine ai (λe=>?_) (λe=>?_)
 ·have c:i<j9 a:=by have t:(i:Int)<(l.len:Int):=e;omega
  have x:dS jA o (j[i]'(by omega)) a[i]:=jA.mono (jA.loc (z i k4 c) d.aj) λ_ y=>q7 y d.aj.1;refine(Seq.up p d.aj).ey (g:=bN) i k0 k4 (j[i]'(by omega)) k0 (fq q ?_);refine(r (j[i]'(by omega)) a[i] o d x (qh c)).mono ?_;rintro _ B ⟨rfl,w⟩;have m:=d.up w.aj;refine⟨_,k0,bQ (λe2=>⟨⟨i,k0,.inr ⟨i,c,k0,e2,b⟩⟩,m⟩) λe2=>?_⟩;refine⟨i+1,ld,⟨k4,?_,m⟩,k4⟩;rw[aH _ _ c,yK,b,List.any_cons,List.any_nil,e2];rfl
 ·have t:¬(i:Int)<(l.len:Int):=e;rw[qi k4]at b;exact⟨⟨-1,k0,.inl ⟨k0,b⟩⟩,d⟩
theorem OE(f:FuncId)(pre post:Array Value)(P:Wl.bK->Bool)(l:Sl)(a:List Wl.bK)(h:hZ)(c:C.fns[f]?=dB eR)(e:dS xC h l a)(j:j9 a<=2^30)
  (d:∀(u:eF) (E:Wl.bK) (h':hZ),Sp h h' []->dS jA h' u E->E∈a->ab xm f (pre.toList++[Value.agg #[xf u.1,xb xi u.2.1,xb xi u.2.2.1,u.2.2.2]]++post.toList).toArray h' λv b=>v=xg (P E)/\Sp h' b []):
  ab xm 165 #[l,.func (.func f) pre post] h λv h'=>v=xg (a.any P)/\Sp h h' []:=by
 refine gD l (f,pre,post) ?_;unfold ff;refine(JP f pre post P l a h c e j d).mono ?_;rintro _ m ⟨⟨i,rfl,g⟩,k⟩;exact⟨i,k0,by rw[Ts g],k⟩
theorem rk(o b t:Int)(h:hZ):ab xm 62 #[xb xi o,xb xi b,xb xi t] h λv h'=>v=xb xk (bI o b t)/\h'=h:=by
 refine QB o b t ?_;unfold Jy;refine⟨?_,k0⟩;have:qc xk ((qc xk ((qc xk ((128:Int)*(qc xk o)))+(qc xk ((16:Int)*(qc xk b)))))+(qc xk t))=bI o b t:=by unfold bI qc;simp[qk,yV];omega
 rw[this]
theorem Vl(x:cw)(m:aE)(y:bE)(r:cX)(h:hZ)(o:dV h x m)(hz:dO m)(L:dS fv h y r):
  ab xm 195 #[ge x,recv y] h λv h'=>v=xg (dH m r)/\Sp h h' []:=by
 refine Mu x y ?_;unfold Fu;refine(Sp.refl h).boxed λN h1 H1=>H1.boxed λc R e=>?_;have e:Sp h R [ao N 44 (bn x),ao c 170 (bP y)]:=e;obtain⟨⟨V,e2,e3,D,X,e7,e8⟩,e6⟩:=id L;have F:x.2.2.1=m.p.1:=congrArg (·.1) o.p;have G:x.2.2.2.1=m.p.2.1:=congrArg (·.2.1) o.p;have w:x.2.2.2.2.1=m.p.2.2:=congrArg (·.2.2) o.p;have t:y.2.2.2.1=r.p.1:=congrArg (·.1) D;have z:y.2.2.2.2.1=r.p.2.1:=congrArg (·.2.1) D;have B:y.2.2.2.2.2.1=r.p.2.2:=congrArg (·.2.2) D;have W:=hz.ob;refine bi ⟨y,(e.box 1 k0).aS _ k0,(JN y r R (fv.mono (fv.loc L e.aj) λ_ hb=>q7 hb e.aj.1)).mono ?_⟩;rintro _ h3 ⟨rfl,R3⟩;have j:Sp h h3 [ao N 44 (bn x),ao c 170 (bP y)]:=e.up R3.aj;have J:=j.box 0 k0;have H:=j.box 1 k0;refine⟨_,k0,bj (λg=>⟨by unfold dH;rw[g];rfl,.zip j.aj⟩) λg=>?_⟩;obtain⟨_,g2,_⟩:=(jX r).1 g;refine⟨r.p,by rw[<-t,<-z,<-B];exact H.IS 3 k0 k0 k0,m.p,by rw[<-F,<-G,<-w];exact J.IS 2 k0 k0 k0,_,ahD _ _ r.p m.p,bj (λI=>⟨?_,.zip j.aj⟩) λI=>?_⟩
 ·unfold dH;rw[g,I];rfl
 obtain⟨P,S⟩:∃P:Wl.bK->Bool,P=λx=>decide (x.object=r.object)&&(decide (r.block<(x.tries.length:Int))&&decide (r.seed=bI r.object r.block (x.tries.getD r.block.toNat 0))):=⟨_,rfl⟩
 have A:dH m r=m.aG.any P:=by unfold dH;rw[g,I,S];rfl
 refine⟨x.2.2.2.2.2.2.2,J.cell k0,?_⟩;refine(OE 247 #[] #[xd (dB c)] P x.2.2.2.2.2.2.2 m.aG h3 m7 (o.up j.aj).aG k4 λu E T H4 Y _=>?_).mono ?_
 ·obtain⟨⟨y1,Z,y3⟩,M⟩:=Y;have ad:=Seq.len M;have k:=H.aj H4.aj H.lt;refine Jj u c ?_;unfold BF;refine(Sp.refl T).boxed λa5 b a=>?_;have a:Sp T b [ao a5 94 (bN u)]:=a;have Q:=a.box 0 k0;have d:=k.aj a.aj k.lt;have q:hY b (a5.add 1)=dB (xb xi E.object):=by rw[<-Z];exact Q.cell k0
  have l:hY b (a5.add 3)=dB (xc u.2.2.2.ptr u.2.2.2.len u.2.2.2.cap):=Q.cell k0;have n:hY b c=dB (xb xi r.object):=by rw[<-V];exact d.cell0 k0
  have i:hY b (c.add 1)=dB (xb xi r.block):=by rw[<-e2];exact d.cell k0
  have O:hY b (c.add 6)=dB (xb xk r.seed):=by rw[<-X];exact d.cell k0
  rw[S];refine⟨E.object,q,r.object,n,dD (λs=>?_) λs=>⟨⟨n,q,trivial⟩,?_,.zip a.aj⟩⟩
  ·refine⟨u.2.2.2,l,r.block,i,ai (λU=>?_) λU=>⟨⟨i,l,n,q,trivial⟩,?_,.zip a.aj⟩⟩
   ·have K:r.block.toNat<E.tries.length:=k4
    refine⟨r.seed,O,r.object,n,r.block,i,u.2.2.2,l,r.block,i,?_⟩;refine Seq.bC (f:=aq) (Seq.up M a.aj) r.block.toNat k4 K (E.tries.getD r.block.toNat 0) (by rw[getD_lt K];rfl) ?_;refine(rk _ _ _ b).mono ?_;rintro _ _ ⟨rfl,rfl⟩;refine⟨_,k0,⟨i,l,O,i,l,n,q,trivial⟩,?_,.zip a.aj⟩;dsimp only;rw[j6 s,j6 (show r.block<(E.tries.length:Int)by omega),zQ,zQ];congr 1
   ·dsimp only;rw[j7 (show¬r.block<(E.tries.length:Int)by omega)];simp
  ·dsimp only;rw[j7 s];rfl
 ·rintro _ b ⟨rfl,R5⟩;exact⟨_,k0,by rw[A],.zip (aa.up j R5.aj).aj⟩
section
variable {α:Type}
def oE(k:Nat)(f:α->ba):jy Sl (List α):=⟨λh q s l=>Seq h q s k f l/\s.len<=s.cap,λa c=>⟨a.1.aj c,a.2⟩,λa b=>⟨a.1.mono b,a.2⟩⟩
theorem aa.afm{B:aB}{d h:hZ}{As:List HP}{e b k:Nat}{s:Sl}{f:α->ba}{a:List (List α)}(H:aa B d h (dh e s b k f a::As))(t:∀x,j9 (f x)=k):∃rs,aa B d h (dg (oE k f) 1 bo s rs a::As):=by
 obtain⟨rs,H⟩:=H.sK;obtain⟨H,g⟩:=H.Km;refine⟨rs,H.gF 0 k0 λq j=>⟨?_,g,λi r l m c=>?_⟩⟩
 ·have:=HP.Dq (i:=0) j k0;exact this.1.seq (λ_=>rfl) this.2
 ·have n:i<j9 a:=(qm.1 c).1;have p:=iW (e:=b) (k:=k) (f:=f) g i n;have:=HP.Dq (i:=i+1) j n9;have o:rs[i]'(by omega)=r:=by rw[qd k4]at m;simpa using m
  have b:a[i]=l:=by rw[qd n]at c;simpa using c
  rw[o,b]at this;exact⟨this.1.seq t this.2,this.1.cap⟩
end
def sT(T:List (bE×cX)):HP:=⟨λh q=>∀t∈T,fv.p h q t.1 t.2,λa d t b=>fv.loc (a t b) d,λa c t b=>fv.mono (a t b) c⟩
end Go.Qw
namespace Wl
open Go Go.Vc Go.Qw
def Keyed(T:List (bE×cX)):Prop:=∀t∈T,t.1.1=t.2.object/\t.1.2.1=t.2.block/\t.1.2.2.1=t.2.id
def PI(a b:bE×cX):Bool:=rL a.2 b.2
theorem adw{T:List (bE×cX)}(k:Keyed T):∀a∈T,∀b∈T,PI a b=cB a.1 b.1:=λa g b i=>by
 obtain⟨c,e,a3⟩:=k a g;obtain⟨d,f,h⟩:=k b i;unfold PI rL cB;rw[decide_eq_decide,Dp,c,e,a3,d,f,h]
theorem Ye{T:List (bE×cX)}(k:Keyed T):(T.mergeSort PI).map qM=(T.map qM).mergeSort cB/\(T.mergeSort PI).map zH=(T.map zH).mergeSort rL/\Keyed (T.mergeSort PI):=
 ⟨vy (adw k),vy λa _ b _=>rfl,λt c=>k t (yB.1 c)⟩
def MO:bE×cX:=(kl,LD)
def Ew(T:List (bE×cX)):List (bE×cX):=((qx T.length).filter (pK (T.map zH))).map λi=>T.getD i MO
theorem getD_map{α β:Type}(f:α->β)(l:List α)(i:Nat)(d:α):(l.map f).getD i (f d)=f (l.getD i d):=by rw[qe,qe,qR];cases l[i]?<;>rfl
theorem aay{T:List (bE×cX)}(k:Keyed T):(Ew T).map qM=cpt (T.map qM)/\(Ew T).map zH=pL (T.map zH)/\∀t∈Ew T,t∈T:=by
 have r:∀i,i<j9 T->kQ (T.map qM) i=pK (T.map zH) i:=λi a=>by
  unfold kQ pK;have g:∀j,j<j9 T->(T.map qM).getD j kl=(T[j]?.getD MO).1/\(T.map zH).getD j LD=(T[j]?.getD MO).2:=λj l=>by
   rw[qe,qe,qR,qR,qd l];exact⟨k0,k0⟩
  by_cases h0:i=0
  ·rw[j6 h0];rfl
  ·rw[j7 h0,vm,vm,(g i a).1,(g i a).2,(g (i-1) k4).1,(g (i-1) k4).2];rw[qd a,qd (show i-1<j9 T by omega)];obtain⟨n,o,a3⟩:=k _ (qh a);obtain⟨e,q,m⟩:=k _ (qh (show i-1<j9 T by omega));unfold nB;simp only[Option.getD_some];have c:=aat T[i].1 (T[i-1]'(by omega)).1;rw[n,o,a3,e,q,m]at c;by_cases b:mv T[i].1 (T[i-1]'(by omega)).1=0
   ·rw[j7 λh=>h b,j6 (c.1 b)];rfl
   ·rw[j6 b,j7 λp=>b (c.2 p)];rfl
 have f:(qx T.length).filter (kQ (T.map qM))=(qx T.length).filter (pK (T.map zH)):=List.filter_congr λi a=>r i (qD.1 a);refine⟨?_,?_,λt d=>?_⟩
 ·unfold Ew cpt kR;rw[qw,f,wQ];congr 1;funext i;exact(getD_map qM T i MO).symm
 ·unfold Ew pL;rw[qw,wQ];congr 1;funext i;exact(getD_map zH T i MO).symm
 ·unfold Ew at d;obtain⟨i,a,rfl⟩:=qo.1 d;have:=qD.1 (qH.1 a).1;rw[getD_lt this];exact qh this
end Wl
namespace Go.Qw
open Go Go.Vc Go.Proofs Wl
theorem QP(a pw:hU)(d:bp)(s b:Sl)(x:cw)(m:aE)(h:hZ)(H:cA h a 156 (iF pw d s b))(hl:fZ h s 1 aD d.l)(ok:gQ d)(hx:dV h x m)(hz:dO m):
  ab xm 130 #[xd (dB a),ge x] h λv h'=>∃(r:Sl) (T:List (bE×cX)),v=r/\T.map zH=cS m d.l/\Keyed T/\Sp h h' [cQ r (T.map qM),sT T]:=by
 refine KF (dB a) x ?_;unfold CX;have ad:=ok.len;have V:=ok.room;refine(Sp.refl h).boxed λp h1 K=>?_;have K:Sp h h1 [ao p 44 (bn x)]:=K;refine(Tj s b (H.aj K.aj H.lt) (hl.up K.aj) ok).mono ?_;rintro _ h2 ⟨G,rfl,R2⟩;have L:=K.ck R2;obtain⟨rs,L⟩:=aa.afm L λ_=>rfl;refine⟨G,k0,?_⟩;have F2:=L.gy 0 k0;have ar:=F2.1.len;have am:=F2.2.1;have E:Sp h h2 [cQ ⟨eH,0,0⟩ [],sT [],dg (oE 1 aD) 1 bo G rs d.l,ao p 44 (bn x)]:=
  ((L.comp (.one (A:=sT []) (aX.refl _ _) λt f=>(by cases f))).nil 170 8 bP).cD [3,2,0,1]
 refine aw (λt:Sl×Nat×List (bE×cX)=>(t.1,(t.2.1:Int)-1)) (λt h'=>t.2.1<=j9 d.l/\t.2.2.length<=t.2.1/\Keyed t.2.2/\t.2.2.map zH=(d.l.take t.2.1).filterMap (jl m)/\Sp h h' [cQ t.1 (t.2.2.map qM),sT t.2.2,dg (oE 1 aD) 1 bo G rs d.l,ao p 44 (bn x)]) (λt=>j9 d.l-t.2.1) (⟨eH,0,0⟩,0,[]) k0 ⟨k9,k9,(λt f=>(by cases f)),k9,E⟩ ?_;rintro⟨o,i,T⟩ h3 ⟨hi,ah,M,k,E⟩;dsimp only at*;have ei:qc xi ((i:Int)-1+1)=(i:Int):=l5
 rw[ei];refine ai (λe=>?_) (λe=>?_)
 ·have O:i=j9 d.l:=k4
  subst O;rw[qS]at k;refine(MM (T.map qM) oi E).mono ?_;rintro _ h4 ⟨rfl,H4⟩;obtain⟨s1,s2,s3⟩:=Ye M;rw[<-s1]at H4;refine⟨(),k0,(KU _ (by rw[qw,List.length_mergeSort];omega) H4).mono ?_⟩;rintro _ h5 ⟨r5,rfl,Z⟩;obtain⟨c1,c2,c3⟩:=aay s3;rw[<-c1]at Z;refine⟨r5,k0,r5,Ew (T.mergeSort PI),k0,?_,λt f=>s3 t (c3 t f),?_⟩
  ·have hr:cS m d.l=(Ew (T.mergeSort PI)).map zH:=by unfold cS;rw[<-k,c2,s2]
   exact hr.symm
  ·exact(Z.gF 1 k0 (D:=sT (Ew (T.mergeSort PI))) λq z t f=>z t (yB.1 (c3 t f))).cD [0,1]
 ·have w:i<j9 d.l:=k4
  have g:=XC m d.l i w;have next:∀{h':hZ} {F:Sl} {T':List (bE×cX)},j9 T'<=i+1->Keyed T'->T'.map zH=(d.l.take (i+1)).filterMap (jl m)->Sp h h' [cQ F (T'.map qM),sT T',dg (oE 1 aD) 1 bo G rs d.l,ao p 44 (bn x)]->
    ∃j:Sl×Nat×List (bE×cX),((⟨F.ptr,F.len,F.cap⟩:Sl),(i:Int))=(j.1,(j.2.1:Int)-1)/\(j.2.1<=j9 d.l/\j.2.2.length<=j.2.1/\Keyed j.2.2/\j.2.2.map zH=(d.l.take j.2.1).filterMap (jl m)/\Sp h h' [cQ j.1 (j.2.2.map qM),sT j.2.2,dg (oE 1 aD) 1 bo G rs d.l,ao p 44 (bn x)])/\d.l.length-j.2.1<j9 d.l-i:=λ{h' F T'} q1 q2 q3 q4=>
   ⟨(F,i+1,T'),by dsimp only;congr 1;omega,⟨k7,q1,q2,q3,q4⟩,k7⟩
  refine bi ?_;refine(E.gy 2 k0).1.md i k0 k4 ?_;obtain⟨u,N⟩:=Fix.row (E.gy 2 rfl) w;obtain⟨c,hc⟩:∃c,c=d.l[i]:=⟨_,rfl⟩
  rw[<-hc]at u g;have ax:j9 c=64:=by rw[hc];exact ok.cell _ (qh w)
  refine(Tn (rs[i]'(by omega)) c h3 u k4 N).mono ?_;rintro _ h6 ⟨y,rfl,Q0,Q1⟩;refine⟨(y,(dJ c).isSome),k0,?_⟩;dsimp only;cases htr:dJ c with
  |none=>
   have I:jl m c=eH:=by unfold jl;rw[htr]
   rw[I,Option.toList_none,qL]at g;have P:=E.up (Q0 htr).aj;refine P.alloc ac k0 λa9 h7 Q=>?_;refine Q.storeAll ac 4 k0 k0 (bP y) k0 k0 k0 k0 λh8 n=>bQ (λe=>ln) λ_=>?_;exact next k4 M (by rw[k,g]) (n.cD [0,1,2,3])
  |some r=>
   have P:=E.ck (Q1 r htr);refine P.alloc ac k0 λa9 h7 Q=>?_;refine Q.storeAll ac 5 k0 k0 (bP y) k0 k0 k0 k0 λh8 n=>bQ (λ_=>?_) λe=>ln
   have n:Sp h h8 [EA fv y r,cQ o (T.map qM),sT T,dg (oE 1 aD) 1 bo G rs d.l,ao p 44 (bn x),ao a9 170 (bP y)]:=n;have U:=n.eAt 0 k0;have R:an h8 p 0 (bn x):=(n.box 4 k0).aS _ k0;have W:an h8 a9 0 (bP y):=(n.box 5 k0).aS _ k0;have X:=Vl x m y r h8 (hx.up n.aj) hz U;refine⟨x,R,y,W,X.mono ?_⟩;rintro _ h9 ⟨rfl,R9⟩;have Y:Sp h h9 [EA fv y r,cQ o (T.map qM),sT T,dg (oE 1 aD) 1 bo G rs d.l,ao p 44 (bn x),ao a9 170 (bP y)]:=n.up R9.aj;refine⟨_,k0,bQ (λe2=>?_) λe2=>?_⟩
   ·have I:jl m c=dB r:=by unfold jl;rw[htr];exact j1 e2
    rw[I,Option.toList_some]at g;refine⟨y,(Y.box 5 k0).aS _ k0,?_⟩;refine Y.push ac 1 k0 ahA k0 k6 (λ_=>rfl) aga y l0 k6 oi λF ap J=>?_;have B:=(J.eAt 0 k0).1;have S:=J.merge 2 0 k6 k0 k0 (D:=sT (T++[(y,r)])) (λq1 q2 _ p1 p2 t f=>by
     rcases qA.1 f with f|f
     ·exact fv.mono (p1 t f) λ_ H=>.inl H
     ·rw[qB.1 f];exact fv.mono p2 λ_ H=>.inr H)
    refine next (T':=T++[(y,r)]) k8 (λt f=>?_) (by rw[qW,k,g];rfl) ?_
    ·rcases qA.1 f with f|f
     ·exact M t f
     ·rw[qB.1 f];exact⟨B.1,B.2.1,B.2.2.1⟩
    ·rw[qW];exact S.cD [1,2,3,4]
   ·have I:jl m c=eH:=by unfold jl;rw[htr];exact j3 (by rw[e2];simp)
    rw[I,Option.toList_none,qL]at g;exact next k4 M (by rw[k,g]) (Y.cD [1,2,3,4])
theorem HD(a pw:hU)(d:bp)(s b:Sl)(x:cw)(m:aE)(h:hZ)(w:cA h a 156 (iF pw d s b))(n:fZ h s 1 aD d.l)(ok:gQ d)(i:dV h x m)(y:dO m):
  ab xm 130 #[xd (dB a),ge x] h λv h'=>∃(r:Sl) (g:List bE),v=r/\Sp h h' [dg fv 8 bP r g (cS m d.l)]:=by
 refine(QP a pw d s b x m h w n ok i y).mono ?_;rintro _ h' ⟨r,T,rfl,o,_,H⟩;refine⟨r,T.map qM,k0,?_⟩;have u:=(H.freeze 0 k0 λ_=>rfl).mb;have z:aa _ _ _ (dg fv 8 bP r (T.map qM) (cS m d.l)::_):=u.gF 0 k0 λq ⟨B,A,_,b,c,k,p⟩=>by
  rw[<-o];refine⟨Seq.mono p c,k9,λj D l' e f=>?_⟩;rw[qR]at e f;cases g3:T[j]? with
  |none=>rw[g3]at e;cases e
  |some t=>
   rw[g3]at e f;simp at e f;subst e;subst f;exact fv.mono (k t (wX g3)) b
 exact z.cD [0]
end Go.Qw
namespace Go.Vc
open Go Wl
def bm(l:au)(k:Nat):au:=((qx k).map λi:Nat=>(i:Int)).filter λi=>decide (0<l.getD i.toNat 0)
def fb(l:au):au×Bool:=
 if l.all (fp · 0 512)then(bm l l.length,decide (j9 l<=64)&&decide (0<j9 (bm l l.length)))else([],eS)
theorem FB(l:au)(k:Nat)(a:k<j9 l):bm l (k+1)=bm l k++if 0<l[k]then[(k:Int)]else[]:=by unfold bm;rw[zR,qW,zl];congr 1;simp only[List.map_cons,List.map_nil,zp,yJ,qn,qe,qd a,Option.getD_some];by_cases h:0<l[k]<;>simp[h]
theorem rn(l:au)(k:Nat):j9 (bm l k)<=k:=by unfold bm;exact zf (qT _ _) k9
end Go.Vc
namespace Go.Qw
open Go Go.Vc Go.Proofs Wl
section
theorem nW(s:Sl)(l:au)(h:hZ)(m:Rd h s 1 aq l)(B:j9 l<=2^20):
  ab xm 39 #[s] h λv h'=>∃r:Sl,v=.tuple #[r,xg (fb l).2]/\Sp h h' [al 3 r 1 aq (fb l).1]:=by
 refine KC s ?_;unfold CR;have w:=m.len;have A:Sp h h [al 3 ⟨eH,0,0⟩ 1 aq (bm l 0)]:=(Sp.refl h).nil 3 1 aq;refine aw (λt:Sl×Nat=>(t.1,(t.2:Int))) (λt h'=>t.2<=j9 l/\(l.take t.2).all (fp · 0 512)=eR/\Sp h h' [al 3 t.1 1 aq (bm l t.2)]) (λt=>j9 l-t.2) (⟨eH,0,0⟩,0) k0 ⟨k9,k9,A⟩ ?_;rintro⟨o,i⟩ D ⟨F,b,d⟩;dsimp only at*;have f:∀(a:i<j9 l),fp l[i] 0 512=eS->fb l=([],eS):=λa g=>by
  unfold fb;rw[j3];intro p;have:=qU.1 p _ (qh a);rw[g]at this;cases this
 refine ai (λe=>?_) (λe=>?_)
 ·have a:i<j9 l:=k4
  have n:=rn l i;refine(Seq.up m d.aj).bC i k0 a l[i] k0 ?_;refine bi (ai (λj=>?_) λj=>ai (λe2=>?_) λe2=>?_)
  ·have g:=f a p7;rw[g];exact⟨⟨eH,0,0⟩,k0,(d.cD []).nil 3 1 aq⟩
  ·have g:=f a p7;rw[g];exact⟨⟨eH,0,0⟩,k0,(d.cD []).nil 3 1 aq⟩
  ·have c:(l.take (i+1)).all (fp · 0 512)=eR:=by rw[aH l i a,y7,b,zQ,List.all_cons,List.all_nil,Bool.and_true];unfold fp;simp;omega
   refine ai (λx=>?_) (λx=>?_)
   ·refine d.push ac 0 k0 fN k0 k6 (λ_=>rfl) eT (i:Int) k0 k6 k4 λu E z=>?_;refine⟨(u,i+1),lb,⟨k7,c,?_⟩,k7⟩;dsimp only;rw[FB l i a,j1 k4];exact z
   ·refine⟨(o,i+1),lb,⟨k7,c,?_⟩,k7⟩;dsimp only;rw[FB l i a,j3 k4,qL];exact d
 ·have k:i=j9 l:=k4
  subst k;rw[qS]at b;have q:=(d.own 0 k0).len;have y:fb l=(bm l l.length,decide (j9 l<=64)&&decide (0<j9 (bm l l.length))):=by unfold fb;rw[j1 b]
  rw[y];refine ai (λj=>⟨o,?_,d⟩) (λj=>⟨o,?_,d⟩)
  ·dsimp only;rw[j6 (show l.length<=64 by omega),zQ];congr 4;refine congrArg Value.bool ?_;rw[decide_eq_decide];omega
  ·dsimp only;rw[j7 (show¬j9 l<=64 by omega),Bool.false_and]
end
section
variable {B:aB} {h0 h:hZ} {As:List HP} {a pw:hU} {offs:Int} {da:List aQ} {w:Pow} {ds:aF}
theorem iS(x:cw)(m:aE)(d:dV h x m)(b:dO m)(H:aa B h0 h (bJ cm a pw (bn x) offs da w ds::As)):
  ab xm 25 #[xd (dB a)] h λv h'=>∃r:Sl,v=r/\Sp h h' [al 3 r 1 aq (be ds m.drives)]:=by
 refine Eh (dB a) ?_;unfold tm;obtain⟨ok,f⟩:=aa.dP H;have c:=b.dr;refine bQ (λe=>ln) λ_=>⟨a,k0,x.2.2.2.2.2.2.1,f.cell k0,(Yc _ m.drives d.drives k4 H).mono ?_⟩;rintro _ i ⟨r,rfl,g⟩;exact⟨r,k0,r,k0,g⟩
theorem OF(x:cw)(m:aE)(j:dV h x m)(l:dO m)(H:aa B h0 h (bJ cm a pw (bn x) offs da w ds::As)):
  ab xm 16 #[xd (dB a)] h λv h'=>∃y:cw,v=ge y/\Sp h h' [dC y m]:=by
 refine xX (dB a) ?_;unfold oe;obtain⟨ok,d⟩:=aa.dP H;refine(Sp.refl h).alloc ac k0 λn k b=>?_;have c:=d.aj b.aj d.lt;refine bQ (λe=>ln) λ_=>⟨a,k0,x,c.aS _ k0,(MJ x m k (j.up b.aj) l).mono ?_⟩;rintro _ o ⟨y,rfl,i⟩;have g:=b.comp i;refine⟨y,k0,?_⟩;refine g.store ac 0 k0 k0 0 (bn y) k0 k0 k0 nq λh3 f=>?_;exact⟨y,(f.box 0 k0).aS _ k0,y,k0,f.cD [1]⟩
end
end Go.Qw
namespace Go.Vc
open Go Wl
def gT(w:Pow)(offs:Int):Bool:=w.off||w.offs !=offs
end Go.Vc
namespace Go.Qw
open Go Go.Vc Go.Proofs Wl
section
variable {B:aB} {h0 h:hZ} {As:List HP} {a pw:hU} {mc:ba} {offs:Int} {da:List aQ} {w:Pow} {ds:aF}
theorem aa.agb(H:aa B h0 h (bJ cm a pw mc offs da w ds::As)):∃l,MH w l/\cA h pw 92 (powC w l):=by obtain⟨ok,c⟩:=Go.Vc.aa.An H;have b:=c.rest;obtain⟨l,d,e⟩:=aa.Dn b;exact⟨l,d,e.box 0 k0⟩
theorem Ds(H:aa B h0 h (bJ cm a pw mc offs da w ds::As)):
  ab xm 57 #[xd (dB a)] h λv h'=>v=xg (gT w offs)/\h'=h:=by
 refine El (dB a) ?_;unfold tw;obtain⟨ok,f⟩:=aa.dP H;obtain⟨l,i,g⟩:=aa.agb H;have d:hY h (a.add 8)=dB (xd (dB pw)):=f.cell (adq ok.l8);have c:hY h (a.add 9)=dB (xb xi offs):=f.cell (Yb ok.l8);refine bQ (λ_=>?_) (λe=>ln);refine⟨a,k0,dB pw,d,(IR l g).mono ?_⟩;rintro _ _ ⟨rfl,rfl⟩;refine⟨_,k0,trivial,bj (λe=>⟨trivial,?_⟩) λe=>?_⟩
 ·have b:w.off=eR:=n3
  exact⟨by unfold gT;rw[b];rfl,k0⟩
 ·have b:w.off=eS:=n3
  refine⟨a,k0,dB pw,d,a,k0,offs,c,(PD l g).mono ?_⟩;rintro _ _ ⟨rfl,rfl⟩;exact⟨_,k0,⟨c,trivial⟩,by unfold gT;rw[b];rfl,k0⟩
end
end Go.Qw
namespace Go.Vc
open Go Wl
section
variable {k:Kit} {B:aB} {h0 h:hZ} {As:List HP} {a pw:hU} {mc:ba} {offs:Int} {w:Pow}
theorem aa.ahE(H:aa B h0 h As):∀n,aa B h0 h (qg n emp++As)
 |0=>H
 |n+1=>(((aa.ahE H n).comp (.one (A:=emp) (aX.refl _ _) trivial)).bu:aa B h0 h (emp::(qg n emp++As)))
theorem aa.aaz(h8:j9 mc=8)(H:aa B h0 h (ao a k.tS (eJ mc pw offs (qg 64 eH))::eE k.tP pw w::As)):aa B h0 h (bJ k a pw mc offs (qg 64 eH) w (qg 64 eH)::As):=by
 have ok:iL mc (qg 64 eH) (qg 64 (eH:Option bp)):=⟨h8,k9,k9,λi=>by
  simp only[qe,wb];split<;>rfl⟩
 have e:jF k pw (qg 64 eH) (qg 64 (eH:Option bp))=qg 64 emp:=by simp[jF,ahC]
 refine aa.BH ok ?_;rw[e];have f:=aa.ahE H 64;refine f.pick (λi=>if i=0 then 64 else if i=1 then 65 else if i<66 then i-2 else i) (λx y b=>by(try dsimp only at b);split at b<;>split at b<;>(try split at b)<;>(try split at b)<;>(try split at b)<;>(try split at b)<;>omega) λi A d=>?_;rcases i with _|_|i
 ·simpa using d
 ·simpa using d
 ·by_cases g:i<64
  ·have c:(qg 64 emp++As)[i]?=dB A:=d;rw[qp nn]at c
   try dsimp only
   rw[j3 k4,j3 k4,j1 k4,qp k8];simpa using c
  ·have c:(qg 64 emp++As)[i]?=dB A:=d;rw[qj k8]at c
   try dsimp only
   rw[j3 k4,j3 k4,j3 k4,qj k8];simp only[List.length_replicate]at c⊢;obtain⟨j,rfl⟩:∃j,i=j+64:=⟨i-64,k4⟩
   have e2:j+64+1+1-64=j+1+1:=k4
   rw[e2];simpa using c
end
end Go.Vc
namespace Go.Qw
open Go Go.Vc Go.Proofs Wl
section
theorem aaA(x:cw)(pw:hU)(offs:Int):aL xm (Instr.build 84 #[(0,ge x),(1,xd (dB pw)),(2,xb xi offs)]) (xh (eJ (bn x) pw offs (qg 64 eH)).toArray):=
 Ga ac (i:=_) k0 k0 k0 (vs:=[(0,ge x),(1,xd (dB pw)),(2,xb xi offs)]) (cells:=(eJ (bn x) pw offs (qg 64 eH)).toArray) l0
end
end Go.Qw
namespace Go.Vc
open Go Wl
section
variable {k:Kit} {B:aB} {h0 h:hZ} {As:List HP} {a pw b:hU} {mc:ba} {offs:Int} {da:List aQ} {w:Pow} {ds:aF} {d:bp} {n:Nat}
theorem aaB(h8:j9 mc=8):(eJ mc pw offs da).set (10+n) (xd (dB b))=eJ mc pw offs (da.set n (dB b)):=by unfold eJ;rw[qX _ _ k4,h8,show 10+n-8=n+1+1 by omega,wi,wi,List.map_set]
theorem aa.agc(ok:iL mc da ds)(y:n<64)(v:ds[n]?=dB eH)(H:aa B h0 h (ao a k.tS (eJ mc pw offs (da.set n (dB b)))::eE k.tP pw w::(jF k pw da ds++(ms k.tD (k.f pw) b d::As)))):aa B h0 h (bJ k a pw mc offs (da.set n (dB b)) w (ds.set n (dB d))::As):=by
 have t:=ok.aau y v;have p:=ok.la;have s:=ok.ls;have q:iL mc (da.set n (dB b)) (ds.set n (dB d)):=⟨ok.l8,by simp[p],by simp[s],λi=>by
  by_cases c:n=i
  ·subst c;rw[qe,qe,zq k4,zq k4];rfl
  ·have:=ok.same i;rw[qe,qe]at this⊢;rw[zN c,zN c];exact this⟩
 have m:=To (k:=k) (pw:=pw) ok;have x:(jF k pw da ds)[n]?=dB emp:=by simp only[jF,wH,t,v];rfl
 have l:jF k pw (da.set n (dB b)) (ds.set n (dB d))=(jF k pw da ds).set n (ms k.tD (k.f pw) b d):=by
  apply zP;intro j;simp only[jF,zb,wH,List.length_zipWith];by_cases g:n=j
  ·subst g;rw[j1 k0,j1 k4,j1 k0,j1 k4,j1 k0,j1 k4];rfl
  ·simp[g]
 refine aa.BH q ?_;rw[l];obtain⟨L,o⟩:∃L,L=jF k pw da ds:=⟨_,rfl⟩
 rw[<-o]at H x m⊢;have u:=H.cons (j9 L+2) (A:=ms k.tD (k.f pw) b d) (by
  rw[qE,qE,qj (ql _),zc];rfl)
 have e:(ao a k.tS (eJ mc pw offs (da.set n (dB b)))::eE k.tP pw w::(L++(ms k.tD (k.f pw) b d::As))).set (j9 L+2) emp=ao a k.tS (eJ mc pw offs (da.set n (dB b)))::eE k.tP pw w::(L++(emp::As)):=by rw[wi,wi,qX _ _ (ql _),zc];rfl
 rw[e]at u;have z:=u.bc 3 [0,2,1];have r:L.set n emp=L:=by
  obtain⟨F,E⟩:=qm.1 x
  conv=>lhs;rw[<-E]
  exact List.set_getElem_self F
 have G:aa B h0 h (ms k.tD (k.f pw) b d::eE k.tP pw w::ao a k.tS (eJ mc pw offs (da.set n (dB b)))::(L.set n emp++(emp::As))):=by rw[r];exact z
 have I:=aa.OB n k4 G;have D:=aa.closeAll (ao a k.tS (eJ mc pw offs (da.set n (dB b)))::eE k.tP pw w::L.set n (ms k.tD (k.f pw) b d)) I;exact aa.sg (L:=ao a k.tS (eJ mc pw offs (da.set n (dB b)))::eE k.tP pw w::L.set n (ms k.tD (k.f pw) b d)) D.sJ
end
open Go Wl Go.Qw
def co(p:Pm)(extra:Int)(l:au):aE:=⟨1,0,p,extra,bm l l.length,[]⟩
def iv(l:au)(k:Nat):aF:=(qx 64).map λi:Nat=>if(i:Int)∈(bm l l.length).take k then dB (bp.new (l.getD i 0).toNat)else eH
def fX(p:Pm)(extra:Int)(w:Pow)(l:au):Int×Pow×aF:=
 if(fb l).2&&(bH p&&fp extra 0 16)then
  if(bm l l.length).any λi=>decide (l.getD i.toNat 0<(j9 (bs (co p extra l)):Int))then(7,w,[])
  else layAll (cg (co p extra l) (bm l l.length)) w (iv l (bm l l.length).length)
 else(1,w,[])
theorem Tt(l:au):iv l 0=qg 64 eH:=by
 unfold iv;rw[List.take_zero];apply zP;intro j;simp only[qR,wb,zw,List.not_mem_nil,if_false];by_cases h:j<64
 ·simp[h,zw]
 ·simp[h]
theorem Vm(l:au)(k:Nat):j9 (iv l k)=64:=by simp[iv]
theorem Tu(l:au)(k n:Nat)(e:k<j9 (bm l l.length))(c:(bm l l.length)[k]=(n:Int))(b:n<64):(iv l k).set n (dB (bp.new (l.getD n 0).toNat))=iv l (k+1):=by
 apply zP;intro j;unfold iv;rw[aH _ _ e,c,zb,qw,zt];by_cases d:j<64
 ·simp only[qR,zw d,qY,qA,qB];by_cases a:n=j
  ·subst a;rw[j1 k0,j1 b,j1 (Or.inr k0)]
  ·rw[j3 a];have:¬(j:Int)=(n:Int):=k4
   simp only[this,or_false]
 ·rw[j3 k4];rw[qQ k8,qQ k8]
theorem Ap(l:au)(k:Nat)(x:Int):x∈bm l k↔∃n:Nat,n<k/\x=(n:Int)/\0<l.getD n 0:=by
 unfold bm;rw[qH,qo];constructor
 ·rintro⟨⟨n,b,rfl⟩,a⟩;exact⟨n,qD.1 b,k0,l7⟩
 ·rintro⟨n,b,rfl,a⟩;exact⟨⟨n,qD.2 b,k0⟩,l7⟩
theorem Vn(l:au)(k i:Nat)(a:i<j9 (bm l k)):∃n:Nat,n<k/\(bm l k)[i]=(n:Int)/\0<l.getD n 0:=(Ap l k _).1 (qh a)
end Go.Vc
namespace Wl
open Go
def gp(p:Int×Int×Int):Nat:=(p.1*p.2.2).toNat
def Ex(a:Nat)(b:aY)(i:Nat):aY:=(b.drop (i*a)).take a++(qg a 0).drop (b.drop (i*a)).length
theorem PJ(a:Nat)(b:aY)(i:Nat):j9 (Ex a b i)=a:=by unfold Ex;simp;omega
def splitB(p:Int×Int×Int)(b:aY):cC:=(qx (countP p b.length).toNat).map (Ex (gp p) b)
def MP(p:Int×Int×Int)(o b:Int)(n:Nat):Bool:=eI p (bI o b n) (fg p)
def ro(p:Int×Int×Int)(o b:Int):Option Nat:=(qx 16).find? (MP p o b)
def cR(p:Int×Int×Int)(o:Int):Nat->Option (au)
 |0=>dB []
 |n+1=>(cR p o n).bind λl=>(ro p o n).map λt=>l++[(t:Int)]
theorem iZ{p:Int×Int×Int}{o:Int}:∀{n:Nat} {l:au},cR p o n=dB l->j9 l=n
 |0,l,h=>by cases h;rfl
 |n+1,l,h=>by
  unfold cR at h;cases h1:cR p o n with
  |none=>rw[h1]at h;cases h
  |some k=>
   rw[h1]at h;cases h2:ro p o n with
   |none=>rw[h2]at h;cases h
   |some t=>
    rw[h2]at h;have h:dB (k++[(t:Int)])=dB l:=h;injection h with h
    rw[<-h,qy,iZ h1];rfl
theorem HE{p:Int×Int×Int}{o b:Int}{t:Nat}(h:ro p o b=dB t):t<16/\MP p o b t=eR/\∀k,k<t->MP p o b k=eS:=by
 unfold ro at h;obtain⟨e,us,vs,c,h3⟩:=List.find?_eq_some_iff_append.1 h;have d:=congrArg vd c;have f:t=j9 us:=by
  have:(qx 16)[j9 us]?=dB t:=by rw[c,qj (ql _),zc];rfl
  rw[zw m8]at this;injection this with this;exact this.symm
 refine⟨m8,e,λk g=>?_⟩;have a:k∈us:=by
  have:(qx 16)[k]?=us[k]?:=by rw[c,qp k4]
  rw[zw m8]at this;exact wX this.symm
 simpa using h3 k a
theorem BJ{p:Int×Int×Int}{o:Int}:∀{n:Nat} {l:au},cR p o n=dB l->∀i (b:i<j9 l),∃t:Nat,l[i]=(t:Int)/\ro p o i=dB t
 |0,l,h=>by cases h;intro i b;simp at b
 |n+1,l,h=>by
  unfold cR at h;cases h1:cR p o n with
  |none=>rw[h1]at h;cases h
  |some k=>
   rw[h1]at h;cases h2:ro p o n with
   |none=>rw[h2]at h;cases h
   |some t=>
    rw[h2]at h;have h:dB (k++[(t:Int)])=dB l:=h;injection h with h
    subst h;intro i b;have c:=iZ h1;by_cases a:i<j9 k
    ·rw[List.getElem_append_left a];exact BJ h1 i a
    ·have:i=j9 k:=by simp at b;omega
     subst this;refine⟨t,k9,?_⟩;rw[c];exact h2
end Wl
namespace Go.Qw
open Go Go.Vc Go.Proofs Wl
theorem PK(p:Pm)(h:hZ)(b:bH p=eR):ab xm 106 #[lN p] h λv h'=>v=xb xi (gp p)/\Sp h h' []:=by
 have c:=(bZ p).1 b;refine CV p ?_;unfold yF;refine(Sp.refl h).boxed λe h3 a=>⟨p.1,(a.box 0 k0).cell0 k0,p.2.2,(a.box 0 k0).cell k0,?_,a.cD []⟩
 have f:p.1*p.2.2<=16*24:=yC k4 k4 k4 k4;have d:0<=p.1*p.2.2:=vB k4 k4;rw[ag _];unfold gp;congr 1;omega
theorem rp{p:Pm}(c:bH p=eR):1<=gp p/\gp p<=384/\(gp p:Int)=p.1*p.2.2:=by have a:=(bZ p).1 c;have d:p.1*p.2.2<=16*24:=yC k4 k4 k4 k4;have b:0<p.1*p.2.2:=vU k4 k4;unfold gp;omega
theorem mF{p:Pm}(a:bH p=eR)(n:Nat):0<=countP p n/\countP p n<=n/\∀i:Nat,(i:Int)<countP p n->i*gp p<n:=by
 obtain⟨j,h,c⟩:=rp a;unfold countP;rw[a,zQ];by_cases h0:0<(n:Int)
 ·rw[j6 h0,j1 k0,<-c];have g:((n:Int)-1)/(gp p:Int)<=n-1:=Int.ediv_le_self _ k4;have f:0<=((n:Int)-1)/(gp p:Int):=Int.ediv_nonneg k4 k4;refine⟨k4,k4,λi b=>?_⟩;have h3:(i:Int)<=((n:Int)-1)/(gp p:Int):=k4
  have d:=(Int.le_ediv_iff_mul_le k4).1 h3;have e:((i*gp p:Nat):Int)=(i:Int)*(gp p:Int):=wA i (gp p);omega
 ·rw[j7 h0,j3 k6];exact⟨k4,k4,λi b=>k4⟩
theorem Vo(p:Pm)(s:Sl)(b:aY)(h:hZ)(g:bH p=eR)(q:Rd h s 1 aD b)(y:s.len<=s.cap)(S:j9 b<=2^30):ab xm 107 #[lN p,s] h λv h'=>∃r:Sl,v=r/\Sp h h' [gn r (splitB p b)]:=by
 refine Mh p s ?_;unfold Fh;have d:=q.len;obtain⟨Y,T,V⟩:=rp g;obtain⟨Q,R,c3⟩:=mF g b.length;refine(Sp.refl h).boxed λj H l=>?_;refine⟨p,(l.box 0 k0).aS _ k0,?_⟩;refine(Ev p s.len H).mono ?_;rintro _ F ⟨rfl,D⟩;have w:=l.up D.aj;refine⟨_,k0,?_⟩;obtain⟨n,u⟩:∃n:Nat,n=(countP p b.length).toNat:=⟨_,rfl⟩
 have c:(countP p (s.len:Nat))=(n:Int):=by rw[d];omega
 rw[c];have x:j9 (splitB p b)=n:=by unfold splitB;rw[<-u];simp
 have a:Sp h F [gn ⟨eH,0,0⟩ ((splitB p b).take 0),ao j 24 [xb xi p.1,xb xi p.2.1,xb xi p.2.2]]:=w.Gi 34 5 1 aD;refine aw (λt:Sl×Nat=>(t.1,(t.2:Int))) (λt h'=>t.2<=n/\Sp h h' [gn t.1 ((splitB p b).take t.2),ao j 24 [xb xi p.1,xb xi p.2.1,xb xi p.2.2]]) (λt=>n-t.2) (⟨eH,0,0⟩,0) k0 ⟨k9,a⟩ ?_;rintro⟨o,i⟩ h3 ⟨X,a⟩;dsimp only at*;refine ai (λe=>?_) (λe=>?_)
 ·have z:i<n:=k4
  have A:=c3 i (by rw[<-d,c];omega);refine⟨p,(a.box 1 k0).aS _ k0,(PK p h3 g).mono ?_⟩;rintro _ W ⟨rfl,N⟩;have J:=a.up N.aj;refine⟨_,k0,J.Lw ac aD gM k6 (0:UInt8) k0 k0 (gp p) (gp p) k0 k0 (ql _) k4 λv L P U f=>?_⟩;have f:=f.bu;refine⟨p,(f.box 2 k0).aS _ k0,(PK p L g).mono ?_⟩;rintro _ O ⟨rfl,E⟩;have m:=f.up E.aj;refine⟨_,k0,?_⟩;have em:qc xi ((i:Int)*(gp p:Int))=((i*gp p:Nat):Int):=by rw[<-wA,ag _]
  dsimp only;rw[em,qn];refine⟨⟨k4,k4⟩,?_⟩;have K:=(Seq.up q m.aj).drop (i*gp p) y;refine m.Lu ac 0 k0 gM (λ_=>rfl) (v:=⟨_,s.len-i*gp p,s.cap-i*gp p⟩) K iK λ_ I k=>?_;have k:Sp h I [al 5 v 1 aD (Ex (gp p) b i),gn o ((splitB p b).take i),ao j 24 [xb xi p.1,xb xi p.2.1,xb xi p.2.2]]:=by simpa[Ex]using k
  refine(k.bc 2 [1,0]).IA ac fH k8 λB h8 M=>?_;refine⟨(B,i+1),lb,⟨k7,?_⟩,k7⟩;dsimp only;rw[aH _ _ (show i<j9 (splitB p b) by omega)];have G:(splitB p b)[i]'(by omega)=Ex (gp p) b i:=by simp[splitB]
  rw[G];exact M
 ·rw[qi k4]at a;exact⟨o,k0,a.cD [0]⟩
theorem ow(a b:UInt8):qc xj ((qF (qk xj) (a.toNat:Int)^^^qF (qk xj) (b.toNat:Int)).toNat:Nat)=((a^^^b).toNat:Int):=by
 have e:∀a:UInt8,qF (qk xj) (a.toNat:Int)=a.toBitVec:=λa=>by
  apply BitVec.eq_of_toNat_eq;have:=wL a;simp[qk]
 rw[e,e];have c:=(a.toBitVec^^^b.toBitVec).isLt;have:((a^^^b).toNat:Int)=((a.toBitVec^^^b.toBitVec).toNat:Int):=rfl;rw[this];show(((a.toBitVec^^^b.toBitVec).toNat:Nat):Int)%256=_;have:(a.toBitVec^^^b.toBitVec).toNat<256:=c;omega
def tri(a:UInt8):Nat->Int×Int×Int
 |0=>((a.toNat:Int),(3:Int),(0:Int))
 |1=>(((Gf.x2 a).toNat:Int),(1:Int),(a.toNat:Int))
 |_=>(((Gf.x2 (Gf.x2 a)).toNat:Int),(0:Int),((Gf.x3 a).toNat:Int))
theorem Vp(a:UInt8)(h:hZ):ab xm 205 #[xb xj a.toNat,xb xj 3] h λv h'=>v=xb xj (Gf.x3 a).toNat/\h'=h:=by
 have e:∀n:Nat,n<256->
   ((qc xj ((qF (qk xj) (n:Int)&&&(qF (qk xj) (128:Int))).toNat:Nat)) !=(0:Int))=eR->qc xj ((qF (qk xj) (qc xj ((n:Int)*2^min (1:Int).toNat (qk xj)))^^^(qF (qk xj) (27:Int))).toNat:Nat)=((Gf.x2 (yy n)).toNat:Int):=l4
 have c:∀n:Nat,n<256->
   ((qc xj ((qF (qk xj) (n:Int)&&&(qF (qk xj) (128:Int))).toNat:Nat)) !=(0:Int))=eS->qc xj ((n:Int)*2^min (1:Int).toNat (qk xj))=((Gf.x2 (yy n)).toNat:Int):=l4
 refine Te _ _ ?_;unfold Mx;refine aw (tri a) (λt h'=>h'=h/\t<=2) (λt=>2-t) 0 k0 ⟨k0,k4⟩ ?_;rintro t h' ⟨rfl,f⟩;rcases(show t=0∨t=1∨t=2 by omega)with rfl|rfl|rfl
 ·rw[show tri a 0=((a.toNat:Int),(3:Int),(0:Int))from rfl];dsimp only;refine xH k6 (bi (FX k6 ?_));refine⟨k6,bi ?_⟩;refine bQ (λd=>?_) (λd=>?_)
  ·rw[e _ (wL a) d,yN];refine⟨k6,1,?_,⟨k0,k6⟩,k6⟩;have:=ow 0 a;simp only[wm]at this;exact yY k0 (yY k0 this)
  ·rw[c _ (wL a) d,yN];refine⟨k6,1,?_,⟨k0,k6⟩,k6⟩;have:=ow 0 a;simp only[wm]at this;exact yY k0 (yY k0 this)
 ·rw[show tri a 1=(((Gf.x2 a).toNat:Int),(1:Int),(a.toNat:Int))from rfl];dsimp only;refine xH k6 (bi (FX k6 ?_));refine⟨k6,bi ?_⟩;refine bQ (λd=>?_) (λd=>?_)
  ·rw[e _ (wL (Gf.x2 a)) d,yN];refine⟨k6,2,?_,⟨k0,k6⟩,k6⟩;refine yY k0 (yY k0 ?_);have:=ow a (Gf.x2 a);rw[vg]at this;exact this
  ·rw[c _ (wL (Gf.x2 a)) d,yN];refine⟨k6,2,?_,⟨k0,k6⟩,k6⟩;refine yY k0 (yY k0 ?_);have:=ow a (Gf.x2 a);rw[vg]at this;exact this
 ·exact FX (b:=(0:Int)==0) k6 ⟨k0,k0⟩
def jI:au:=(qx 255).map λi=>((Gf.pw i).toNat:Int)
def sv:au:=(qx 256).map λx=>if x=0 then 0 else((Gf.lg (yy x):Nat):Int)
theorem il:j9 jI=255:=by simp[jI]
theorem Aq:j9 sv=256:=by simp[sv]
def db:ba:=jI.map (Sc.enc (.int .u8))++sv.map (Sc.enc (.int .i64))
abbrev fI(h:hZ)(a:hU):Prop:=cA h a 197 db
theorem OG(k:IntKind)(l:au):(l.map (Sc.enc (.int k))).all (·.oneCell')=eR:=by rw[List.all_map,qU];intro x _;rfl
theorem Vq(h:hZ):ab xm 132 #[] h λv h'=>v=xh (jI.map (Sc.enc (.int .u8))).toArray/\Sp h h' []:=by
 refine QH ?_;unfold JE;refine(Sp.refl h).alloc ac k0 λa r o=>?_;refine aw (λi:Nat=>(((Gf.pw i).toNat:Int),(i:Int))) (λi h'=>i<=255/\Sp h h' [ao a 192 (((qx 255).map λj=>if j<i then((Gf.pw j).toNat:Int)else 0).map (Sc.enc (.int .u8)))]) (λi=>255-i) 0 k0 ⟨k4,?_⟩ ?_
 ·have e:((qx 255).map λj=>if j<0 then((Gf.pw j).toNat:Int)else 0).map (Sc.enc (.int .u8))=qg 255 (xb xj 0):=by simp;rfl
  rw[e];exact o
 ·rintro i q ⟨t,f⟩;refine ai (λl=>?_) (λn=>?_)
  ·dsimp only at l;refine⟨⟨k7,k7⟩,?_⟩;dsimp only;rw[show((i:Int).toNat*1)=i by omega];refine f.storeAt ac 0 k0 k0 k0 k0 k0 k8 λh3 g=>?_;refine(Vp (Gf.pw i) h3).mono ?_;rintro v s ⟨rfl,rfl⟩;refine⟨_,k0,i+1,?_,⟨k4,?_⟩,k4⟩
   ·rw[ag _];rfl
   ·have e:((((qx 255).map λj=>if j<i then((Gf.pw j).toNat:Int)else 0).map (Sc.enc (.int .u8))).set i (xb xj (Gf.pw i).toNat))=(((qx 255).map λj=>if j<i+1 then((Gf.pw j).toNat:Int)else 0).map (Sc.enc (.int .u8))):=by
     apply zP;intro j;simp only[zb,qR,qw,zt];by_cases c:i=j
     ·subst c;have:i<255:=k4
      simp[this]
     ·by_cases b:j<255
      ·simp only[c,if_false,zw b,qY];by_cases d:j<i
       ·rw[j1 d,j1 k4]
       ·rw[j3 d,j3 k4]
      ·simp[c,b]
    rw[<-e];exact g
  ·have k:i=255:=by dsimp only at n;omega
   subst k;have e:((qx 255).map λj=>if j<255 then((Gf.pw j).toNat:Int)else 0)=jI:=by unfold jI;apply List.map_congr_left;intro j c;rw[j1 (qD.1 c)]
   rw[e]at f;have p:=f.box 0 k0;refine⟨jI,⟨il,p.aS _ p5⟩,?_⟩;refine f.storeAll ac 0 k0 k0 (jI.map (Sc.enc (.int .u8))) k0 (by rw[qw,il]) (OG _ _) k0 λh3 g=>?_;have m:=g.box 0 k0;exact⟨jI,⟨il,m.aS _ p5⟩,k0,.zip g.aj⟩
theorem aaC(h:hZ):ab xm 133 #[xh (jI.map (Sc.enc (.int .u8))).toArray] h λv h'=>v=xh (sv.map (Sc.enc (.int .i64))).toArray/\Sp h h' []:=by
 refine UY jI ?_;unfold Pw;refine(Sp.refl h).boxed λa D u=>?_;refine u.alloc ac k0 λt B p=>?_;have n:=p.box 0 k0;refine⟨jI,⟨il,n.aS _ (by show List.take _ (jI.map _)=_;rw[qi (ql _)])⟩,?_⟩;let L:Nat->au:=λi=>(qx 256).map λx=>if x≠0/\Gf.lg (yy x)<i then((Gf.lg (yy x):Nat):Int)else 0
 refine aw (λi:Nat=>(i:Int)) (λi h'=>i<=255/\Sp h h' [emp,ao t 194 ((L i).map (Sc.enc (.int .i64)))]) (λi=>255-i) 0 k0 ⟨k4,?_⟩ ?_
 ·have e:(L 0).map (Sc.enc (.int .i64))=qg 256 (xb xi 0):=by simp[L];rfl
  rw[e];exact p.gF 0 k0 λ_ _=>trivial
 ·rintro i h3 ⟨E,g⟩;refine ai (λs=>?_) (λz=>?_)
  ·have c:i<255:=k4
   have r:=wL (Gf.pw i);refine⟨((Gf.pw i).toNat:Int),⟨k4,k4,by simp[jI,c]⟩,⟨k4,k4⟩,?_⟩;rw[show(((Gf.pw i).toNat:Int).toNat*1)=(Gf.pw i).toNat by omega];refine g.storeAt ac 1 k0 k0 k0 k0 k0 (by simp[L];omega) λy k=>?_;refine⟨i+1,ld,⟨k4,?_⟩,k4⟩;have e:((L i).map (Sc.enc (.int .i64))).set (Gf.pw i).toNat (xb xi i)=(L (i+1)).map (Sc.enc (.int .i64)):=by
    apply zP;intro j;simp only[zb,qR,qw,zt,L];by_cases f:(Gf.pw i).toNat=j
    ·subst f;simp only[if_true,zw r,qY,r];have m:(Gf.pw i).toNat≠0:=λh0=>Gf.Xs i c (yI.1 h0);rw[yN,Gf.Xr i c,j1 ⟨m,k4⟩]
    ·by_cases d:j<256
     ·simp only[f,if_false,zw d,qY];by_cases b:j=0
      ·simp[b]
      ·have A:Gf.lg (yy j)≠i:=λh0=>by
        apply f;rw[<-h0,Gf.Xq _ λw=>b (by have:=congrArg UInt8.toNat w;simpa[yT d]using this)];simp[yT d]
       by_cases l:Gf.lg (yy j)<i
       ·rw[j1 ⟨b,l⟩,j1 ⟨b,k4⟩]
       ·rw[j3 λq=>l q.2,j3 λq=>l k4]
     ·simp[f,d]
   rw[<-e];exact k
  ·have c:i=255:=k4
   subst c;have e:L 255=sv:=by
    unfold sv;apply List.map_congr_left;intro j f;by_cases b:j=0
    ·simp[b]
    ·rw[j1 ⟨b,Gf.Lx _⟩,j3 b]
   rw[e]at g;have n:=g.box 1 k0;refine⟨sv,⟨Aq,n.aS _ p5⟩,?_⟩;refine g.storeAll ac 1 k0 k0 (sv.map (Sc.enc (.int .i64))) k0 (by rw[qw,Aq]) (OG _ _) k0 λy k=>?_;have o:=k.box 1 k0;exact⟨sv,⟨Aq,o.aS _ p5⟩,k0,.zip k.aj⟩
theorem rq(h:hZ):ab xm 65 #[] h λv h'=>∃a:hU,v=xd (dB a)/\Sp h h' [ao a 197 db]:=by
 refine XV ?_;unfold SM;refine(Vq h).mono ?_;rintro v s ⟨rfl,p⟩;refine⟨jI,k0,?_⟩;refine p.alloc ac k0 λa r o=>?_;refine o.storeAll ac 0 k0 k0 (jI.map (Sc.enc (.int .u8))) k0 (by rw[qw,il]) (OG _ _) (by rw[qw,il];rfl) λh3 j=>?_;have g:=j.box 0 k0;have c:an h3 a 0 (jI.map (Sc.enc (.int .u8))):=g.aS _ p5;refine⟨jI,⟨il,c⟩,jI,⟨il,c⟩,?_⟩;refine(aaC h3).mono ?_;rintro v t ⟨rfl,k⟩;refine⟨sv,k0,nX.2 ⟨(k.aj).cells g.lt c,trivial⟩,_,Ga ac (i:=_) k0 k0 k0 (cells:=db.toArray) ?_,?_⟩
 ·have b:∀z:ba,j9 z=511->wq (λn=>[(0,255),(255,256)][n]?) z.toArray [(0,xh (jI.map (Sc.enc (.int .u8))).toArray),(1,xh (sv.map (Sc.enc (.int .i64))).toArray)]=dB db.toArray:=by
   intro z b;have e:z=[]++z.take 255++z.drop 255:=k9
   conv=>lhs;rw[e]
   rw[RM (vs:=jI.map (Sc.enc (.int .u8))) k0 (by simp[il]) (by simp[il,b])];have e2:[]++jI.map (Sc.enc (.int .u8))++z.drop 255=jI.map (Sc.enc (.int .u8))++z.drop 255++[]:=k9
   rw[e2,RM (vs:=sv.map (Sc.enc (.int .i64))) k0 (by simp[il,Aq]) (by simp[Aq,b])];simp[wq,db]
  exact b _ k0
 ·have q:(Value.agg db.toArray).cells.toList=db:=rfl;refine(j.comp k).boxed λm u f=>?_;have d:=f.box 0 k0;exact⟨nX.2 ⟨d.aS _ p5,trivial⟩,m,k0,f.take 1 λi A l=>by cases i with|zero=>exact l|succ i=>simp at l⟩
theorem HG{h:hZ}{a:hU}(c:fI h a)(n:Nat)(b:n<255):hY h (a.add n)=dB (xb xj (Gf.pw n).toNat):=
 c.cell (by rw[db,qp (by simp[il,b])];simp[jI,b])
theorem HI{h:hZ}{a:hU}(c:fI h a)(x:UInt8)(d:x≠0):hY h ((a.add 255).add x.toNat)=dB (xb xi (Gf.lg x)):=by
 have f:=c.addr;have e:(a.add 255).add x.toNat=a.add (255+x.toNat):=by rw[f,add_eq,add_eq,add_eq];congr 1;omega
 rw[e];refine c.cell ?_;have b:=wL x;have h0:x.toNat≠0:=λh0=>d (yI.1 h0);rw[db,qj (by simp[il])];simp[il,sv,b,h0]
theorem sw(a:hU)(h:hZ):ab xm 206 #[xd (dB a)] h λv h'=>v=xd (dB a)/\h'=h:=by refine KK (dB a) ?_;unfold Dd;exact xH k0 ⟨k0,k0⟩
theorem ur(a:hU)(h:hZ):ab xm 203 #[xd (dB a)] h λv h'=>v=xd (dB a)/\h'=h:=by refine Td (dB a) ?_;unfold Mw;exact xH k0 ⟨k0,k0⟩
theorem QQ(a:hU)(h:hZ):ab xm 302 #[xd (dB a)] h λv h'=>v=xd (dB a)/\h'=h:=by refine Th (dB a) ?_;unfold MF;exact xH k0 ⟨k0,k0⟩
theorem Cr{x:UInt8}:((x.toNat:Int)=0)↔x=0:=⟨λh=>yI.1 l6,λh=>by rw[h];rfl⟩
theorem KV(a:hU)(x y:UInt8)(h:hZ)(d:fI h a):ab xm 280 #[xd (dB a),xb xj x.toNat,xb xj y.toNat] h λv h'=>v=xb xj (Gf.mul x y).toNat/\h'=h:=by
 refine KO (dB a) _ _ ?_;unfold Dl;refine bi ?_;refine dD (λh0=>⟨by rw[Gf.mul,j1 (.inl (Cr.1 h0))];rfl,k0⟩) λi=>?_;refine dD (λh0=>⟨by rw[Gf.mul,j1 (.inr (Cr.1 h0))];rfl,k0⟩) λg=>?_;have c:x≠0:=λh0=>i (Cr.2 h0);have b:y≠0:=λh0=>g (Cr.2 h0);refine(sw a h).mono ?_;rintro v k ⟨rfl,rfl⟩;have j:=wL x;have l:=wL y;have l1:=Gf.Lx x;have l2:=Gf.Lx y;refine⟨dB a,k0,a,k0,⟨k4,k4⟩,(Gf.lg x:Int),?_,a,k0,⟨k4,k4⟩,(Gf.lg y:Int),?_,k6,a,k0,?_⟩
 ·rw[show((x.toNat:Int).toNat*1)=x.toNat by omega];exact HI d x c
 ·rw[show((y.toNat:Int).toNat*1)=y.toNat by omega];exact HI d y b
 rw[ag _];have e:wg ((Gf.lg x:Int)+(Gf.lg y:Int)) 255=(((Gf.lg x+Gf.lg y)%255:Nat):Int):=by rw[yD k4];rfl
 rw[e];have f:=yt (Gf.lg x+Gf.lg y) (show 255>0 by decide);refine⟨⟨k4,k4⟩,_,?_,by rw[Gf.mul,j3 (by simp[c,b])],k0⟩;rw[show((((Gf.lg x+Gf.lg y)%255:Nat):Int).toNat*1)=(Gf.lg x+Gf.lg y)%255 by omega];exact HG d _ f
theorem adx(a:hU)(x:UInt8)(h:hZ)(d:fI h a):ab xm 251 #[xd (dB a),xb xj x.toNat] h λv h'=>v=xb xj (Gf.inv x).toNat/\h'=h:=by
 refine KN (dB a) _ ?_;unfold Dj;refine dD (λh0=>⟨by rw[Gf.inv,j1 (Cr.1 h0)];rfl,k0⟩) λf=>?_;have b:x≠0:=λh0=>f (Cr.2 h0);refine(sw a h).mono ?_;rintro v i ⟨rfl,rfl⟩;have g:=wL x;have l1:=Gf.Lx x;refine⟨dB a,k0,a,k0,⟨k4,k4⟩,(Gf.lg x:Int),?_,k6,a,k0,?_⟩
 ·rw[show((x.toNat:Int).toNat*1)=x.toNat by omega];exact HI d x b
 rw[ag _];have e:wg (255-(Gf.lg x:Int)) 255=(((255-Gf.lg x)%255:Nat):Int):=by rw[yD k4];omega
 rw[e];have c:=yt (255-Gf.lg x) (show 255>0 by decide);refine⟨⟨k4,k4⟩,_,?_,by rw[Gf.inv,j3 b],k0⟩;rw[show((((255-Gf.lg x)%255:Nat):Int).toNat*1)=(255-Gf.lg x)%255 by omega];exact HG d _ c
theorem ady(a:hU)(n:Int)(h:hZ)(g:fI h a):ab xm 137 #[xd (dB a),xb xi n] h λv h'=>v=xb xj (Gf.pw (n%255).toNat).toNat/\h'=h:=by
 refine KG (dB a) n ?_;unfold CY;have j:=vt n (show(0:Int)<255 by decide);have i:-255<n.tmod 255:=Int.lt_tmod_of_pos n k6;have b:=RL n 255 k6;have c:=Int.emod_nonneg n (show(255:Int)≠0 by decide);have f:=Int.emod_lt_of_pos n (show(0:Int)<255 by decide);refine⟨k6,bO (λs h'=>s=n%255/\h'=h) ?_ ?_⟩
 ·refine ai (λd=>?_) (λe=>?_)
  ·rw[j1 d]at b;exact⟨by rw[ag _,b],k0⟩
  ·rw[j3 e]at b;exact⟨b.symm,k0⟩
 ·rintro s h' ⟨rfl,rfl⟩;refine(sw a h').mono ?_;rintro v i ⟨rfl,rfl⟩;refine⟨dB a,k0,a,k0,⟨c,f⟩,_,?_,k0,k0⟩;rw[wU];exact HG g _ k4
theorem ju(p:Pm)(h:hZ):ab xm 21 #[lN p] h λv h'=>v=xb xi (bD p)/\Sp h h' []:=by refine SJ p ?_;unfold LO;refine(Sp.refl h).boxed λa g c=>?_;refine⟨p,(c.box 0 k0).aS _ k0,?_⟩;refine(fa p g).mono ?_;rintro v i ⟨rfl,f⟩;have b:=c.comp f;have d:=b.box 0 k0;refine⟨_,k0,bj (λe=>⟨by simp[bD,e],.zip b.aj⟩) λe=>?_⟩;refine⟨_,d.cell0 k0,_,d.cell k0,?_,.zip b.aj⟩;have:=(bZ p).1 e;rw[ag _,bD,j1 e]
theorem aaD(n i:Int)(h:hZ):ab xm 136 #[xb xi n,xb xi i] h λv h'=>∃s:Sl,v=s/\
  Sp h h' [al 5 s 1 aD (if 1<=n/\n<=64/\0<=i/\i<n then(qg n.toNat (0:UInt8)).set i.toNat 1 else[])]:=by
 refine SZ n i ?_;unfold Mk;have a:∀c:Prop,¬c->[Decidable c]->Sp h h [al 5 ⟨eH,0,0⟩ 1 aD (if c then(qg n.toNat (0:UInt8)).set i.toNat 1 else[])]:=λc b _=>by
  rw[j3 b];exact(Sp.refl h).nil 5 1 aD
 refine bi ?_;refine ai (λe=>⟨⟨eH,0,0⟩,k0,a _ k4⟩) λg=>?_;refine ai (λe=>⟨⟨eH,0,0⟩,k0,a _ k4⟩) λe2=>?_;refine ai (λe=>⟨⟨eH,0,0⟩,k0,a _ k4⟩) λm=>?_;refine ai (λe=>⟨⟨eH,0,0⟩,k0,a _ k4⟩) λk=>?_;refine(Sp.refl h).make ac aD ⟨_,_,k0,k0,k0,k0,k0,k0⟩ k6 0 k0 k0 n.toNat n.toNat k4 k4 (ql _) k4 λs o j b f=>?_;refine f.set ac 0 k0 (λ_=>rfl) k0 i.toNat k4 k8 1 k0 k0 k0 λl d=>?_;refine⟨s,k0,?_⟩;rw[j1 k4];exact d
theorem QR(s:Int)(h:hZ):ab xm 223 #[xb xk s] h λv h'=>∃a:hU,v=xd (dB a)/\Sp h h' [ao a 344 [xb xl (qc xl s)]]:=by refine Tg s ?_;unfold Mz;exact(Sp.refl h).boxed λa c b=>⟨a,k0,b⟩
theorem Dt(a:hU)(s:Int)(h:hZ)(d:cA h a 344 [xb xl s]):ab xm 224 #[xd (dB a)] h λv h'=>v=xb xk (told s)/\cA h' a 344 [xb xl (ER s)]/\aX (·≠a.block) h h':=by refine Hn (dB a) ?_;unfold Ai;refine xH k0 ⟨a,k0,s,d.cell0 k0,a,k0,?_⟩;refine DM ac d k0 _ k0 k0 k0 (ql _) λe b c _=>?_;exact⟨a,k0,_,b.cell0 k0,k6,k0,b,c⟩
theorem MQ(a:hU)(s n:Int)(h:hZ)(f:cA h a 344 [xb xl s])(g:0<n:=by omega)(d:n<=2^62:=by omega):ab xm 282 #[xd (dB a),xb xi n] h λv h'=>v=xb xi (mC s n)/\cA h' a 344 [xb xl (ER s)]/\aX (·≠a.block) h h':=by refine FN (dB a) n ?_;unfold uI;refine bi (xH k0 (ai (λe=>k4) λ_=>?_));refine(Dt a s h f).mono ?_;rintro v i ⟨rfl,c,b⟩;exact⟨_,k0,sp,k0,c,b⟩
theorem WP(a b:Nat)(c:a<=2^40)(d:b<=2^40):qc xi ((a:Int)+(b:Int))=((a+b:Nat):Int):=by rw[ag _];rfl
theorem aaE(l:Nat)(h:hZ)(f:l<=20):ab xm 316 #[xb xi l] h λv h'=>v=xb xi (fD l)/\h'=h:=by
 have k:∀l:Nat,l<=20->∀r:Nat,r<=5->(∀j,j<r->j*j<l)->r*r<l->r<5:=k6
 have g:∀l:Nat,l<=20->∀r:Nat,r<=5->(∀j,j<r->j*j<l)->¬r*r<l->r=fD l:=k6
 refine KP l ?_;unfold Dm;refine aw (λr:Nat=>(r:Int)) (λr h'=>h'=h/\r<=5/\∀j,j<r->j*j<l) (λr=>5-r) 0 k0 ⟨k0,k4,λj c=>k4⟩ ?_;rintro r h' ⟨rfl,d,c⟩;have n:r*r<=25:=Nat.mul_le_mul d d;have e:qc xi ((r:Int)*(r:Int))=((r*r:Nat):Int):=by rw[<-wA];exact uM _
 rw[e];refine ai (λi=>?_) (λm=>?_)
 ·have a:r*r<l:=k4
  have o:=k l f r d c a;refine⟨r+1,ld,⟨k0,k4,λj b=>?_⟩,k4⟩;rcases Nat.lt_succ_iff_lt_or_eq.1 b with b|rfl
  ·exact c j b
  ·exact a
 ·exact⟨by rw[g l f r d c k4],k0⟩
theorem aaF(r:Nat)(h:hZ)(a:r<=5):ab xm 187 #[xb xl r] h λv h'=>v=xb xi (IC r)/\h'=h:=by
 intro w b;refine(Tryz.bits_Len (r:Int) w k4 k4).mono ?_;rintro e w' ⟨rfl,rfl⟩;have k:∀r:Nat,r<=5->Lib.bitLen r=IC r:=l4
 exact⟨_,k0,dl.refl _,by rw[qn,k r a],b⟩
theorem Vr(l k:Nat)(h:hZ)(b:l<=20)(a:1<=l)(g:k<=20)(d:1<=k):ab xm 283 #[xb xi l,xb xi k] h λv h'=>v=xb xi (sh l k)/\h'=h:=by
 have m:∀k:Nat,k<=20->1<k->qc xi ((k:Int)*qc xi ((k:Int)-1))=((k*(k-1):Nat):Int)/\k*(k-1)≠0:=k6
 have n:∀l:Nat,l<=20->1<=l->1<=fD l/\fD l<=5:=k6
 have c3:∀l:Nat,l<=20->1<=l->qc xi (yb (l:Int) (fD l))=((l/fD l:Nat):Int):=k6
 have y:∀l:Nat,l<=20->1<=l->∀k:Nat,k<=20->1<=k->qc xi ((l:Int)*k)≠0:=l4
 have q:∀k:Nat,k<=20->1<k->qc xi (yb (1048576:Int) (qc xi ((k:Int)*qc xi ((k:Int)-1))))=((1048576/(k*(k-1)):Nat):Int):=l4
 have p:∀l:Nat,l<=20->1<=l->qc xi (yb (1048576:Int) (l:Int))=((1048576/l:Nat):Int):=l4
 have x:∀l:Nat,l<=20->1<=l->∀k:Nat,k<=20->1<=k->qc xi (yb (qc xi ((1048576:Int)*fD l)) (qc xi ((l:Int)*k)))=((1048576*fD l/(l*k):Nat):Int):=l4
 have o:∀l:Nat,l<=20->1<=l->qc xi (yb (qc xi ((qc xi ((1048576:Int)*fD l))*IC (fD l))) (l:Int))=((1048576*fD l*IC (fD l)/l:Nat):Int):=l4
 have j:∀l:Nat,l<=20->∀k:Nat,k<=20->1048576*fD l/(l*k)<=2^30/\1048576*fD l*IC (fD l)/l<=2^30/\1048576/(k*(k-1))<=2^30/\1048576/l<=2^30:=l4
 refine Hs l k ?_;unfold Ak;have i:=j l b k g;refine(aaE l h b).mono ?_;rintro v u ⟨rfl,rfl⟩;have w:=n l b a;refine⟨_,k0,k4,bO (λs h'=>s=(((if k>1 then 1048576/(k*(k-1))else 1048576/l):Nat):Int)/\h'=u) ?_ ?_⟩
 ·refine ai (λe=>?_) (λe=>?_)
  ·have:=m k g k4;refine⟨by rw[this.1];omega,by rw[q k g k4,j1 k4],k0⟩
  ·refine⟨by rw[p l b a,j3 k4],k0⟩
 ·rintro s r ⟨rfl,rfl⟩;have z:(if k>1 then 1048576/(k*(k-1))else 1048576/l)<=2^30:=by split<;>first|exact i.2.2.1|exact i.2.2.2
  refine bi ?_;dsimp only;refine⟨show((fD l:Nat):Int)≠0 by omega,?_⟩;rw[c3 l b a];refine ai (λe=>⟨y l b a k g d,?_,k0⟩) (λe=>?_)
  ·rw[x l b a k g d,WP _ _ k4 (zf i.1 k6),sh,j1 (c:=k<l/fD l) (vP.1 e)]
  ·refine dD (λe2=>?_) (λe2=>?_)
   ·have t:qc xl (fD l:Int)=(fD l:Int):=sp
    rw[t];refine(aaF (fD l) r w.2).mono ?_;rintro v h3 ⟨rfl,rfl⟩;refine⟨_,k0,k4,?_,k0⟩;rw[o l b a,WP _ _ k4 (zf i.2.1 k6),sh,j3 (c:=k<l/fD l) λf=>e (vP.2 f),j1 (c:=k=l/fD l) (Int.ofNat_inj.1 e2)]
   ·exact⟨by rw[sh,j3 (c:=k<l/fD l) λf=>e (vP.2 f),j3 (c:=k=l/fD l) λf=>e2 (Int.ofNat_inj.2 f),Nat.add_zero],k0⟩
theorem Yf(l:Nat)(h:hZ)(c:l<=20)(b:1<=l):ab xm 226 #[xb xi l] h λv h'=>∃s:Sl,v=s/\Sp h h' [al 3 s 1 aq (jV l)]:=by
 refine Ji l ?_;unfold BE;refine bi (ai (λe=>k4) λ_=>ai (λe=>k4) λ_=>?_);refine(Sp.refl h).make ac aq fN k6 0 k0 k0 0 l k0 k0 k4 k4 λs q g o d=>?_;refine aw (λt:Sl×Nat=>(t.1,((na l t.2:Nat):Int),((t.2+1:Nat):Int))) (λt h'=>t.2<=l/\Sp h h' [al 3 t.1 1 aq ((jV l).take t.2)]) (λt=>l-t.2) (s,0) k0 ⟨k9,p6⟩ ?_;rintro⟨s,k⟩ f ⟨r,a⟩;dsimp only at*;refine ai (λe=>?_) (λe=>?_)
 ·refine(Vr l (k+1) f c b k4 k4).mono ?_;rintro v h3 ⟨rfl,rfl⟩;refine⟨_,k0,?_⟩;have n:=ID l c k k4;have p:=Ly l c (k+1) k4;have e2:qc xi ((na l k:Int)+(sh l (k+1):Int))=((na l (k+1):Nat):Int):=by rw[ag _,na];rfl
  dsimp only;rw[e2];refine a.push ac 0 k0 fN k0 k6 (λ_=>rfl) eT _ k0 k6 qa λj u m=>?_;refine⟨(j,k+1),lb,⟨k7,?_⟩,k7⟩;have i:(jV l).take (k+1)=(jV l).take k++[((na l (k+1):Nat):Int)]:=by rw[aH _ _ zv];simp[jV]
  dsimp only;rw[i];exact m
 ·refine⟨s,k0,?_⟩;rw[qi zv]at a;exact a
theorem Vs{p:aB}(t:Sl)(lt:au)(x b:Int)(h:hZ)(l:Seq h p t 1 aq lt)(q:0<=x)(a:lt.getLast?=dB b)(c:x<b)(s:j9 lt<=2^40):
  ab xm 281 #[t,xb xi x] h λv h'=>v=xb xi (Xt lt x)/\h'=h:=by
 refine Hr t x ?_;unfold Aj;have r:=l.len;have j:lt≠[]:=λe=>by rw[e]at a;cases a
 have n:0<j9 lt:=List.length_pos_iff.2 j;have g:lt[j9 lt-1]=b:=by rw[List.getLast?_eq_getElem?,qd k4]at a;simpa using a
 refine bi (dD (λe=>k4) λ_=>ai (λe=>k4) λ_=>?_);rw[ag _];refine l.bC (j9 lt-1) k4 k4 _ k0 ?_;rw[g];refine ai (λe=>k4) λ_=>?_;have d:(lt.findIdx λy=>decide (y>x))<j9 lt:=List.findIdx_lt_length_of_exists ⟨b,List.mem_of_getLast? a,oo⟩;refine aw (λk:Nat=>(k:Int)) (λk h'=>h'=h/\k<=(lt.findIdx λy=>decide (y>x))) (λk=>j9 lt-k) 0 k0 ⟨k0,k4⟩ ?_;rintro k h' ⟨rfl,m⟩;refine ai (λe=>?_) (λe=>k4);have f:k<j9 lt:=k4
 refine l.bC k k0 f _ k0 ?_;rw[ag _];refine ai (λe2=>?_) (λe2=>?_)
 ·have:(lt.findIdx λy=>decide (y>x))=k:=Nat.le_antisymm (Nat.le_of_not_lt λi=>by have:=List.not_of_lt_findIdx i;simp at this;omega) m;exact⟨by rw[Xt,this];rfl,k0⟩
 ·refine⟨k+1,k0,⟨k0,?_⟩,k4⟩;refine Nat.lt_of_le_of_ne m λo=>?_;have:=List.findIdx_getElem (xs:=lt) (p:=λy=>decide (y>x)) (w:=d);simp only[<-o]at this;simp at this;omega
theorem Jk(t:Sl)(n:Nat)(a:hU)(s:Int)(h:hZ)(i:Seq h (·≠a.block) t 1 aq (jV n))(l:cA h a 344 [xb xl s])(d:1<=n)(f:n<=20):
  ab xm 225 #[t,xd (dB a)] h λv h'=>v=xb xi (IE s n)/\cA h' a 344 [xb xl (ER s)]/\aX (·≠a.block) h h':=by
 refine KL t (dB a) ?_;unfold Df;have k:=i.len;rw[me]at k;refine dD (λe=>k4) λ_=>?_;rw[ag _];refine i.bC (n-1) k4 zv _ k0 ?_;have j:(jV n)[n-1]'(by rw[me];omega)=((na n n:Nat):Int):=by simp only[jV,List.getElem_map,List.getElem_range];rw[show n-1+1=n by omega]
 rw[j];have q:=RX n f d;have o:=ID n f n f;refine(MQ a s _ h l).mono ?_;rintro v m ⟨rfl,g,c⟩;have b:=xL s (na n n);refine⟨_,k0,(Vs t (jV n) _ _ m (i.aj c) b.1 (Lz n d) b.2 zv).mono ?_⟩;rintro v p ⟨rfl,rfl⟩;exact⟨_,k0,k0,g,c⟩
theorem aaG(a:hU)(s:Int)(n k:Nat)(h:hZ)(E:cA h a 344 [xb xl s])(N:n<=64)(U:k<=n):
  ab xm 227 #[xd (dB a),xb xi n,xb xi k] h λv h'=>∃r:Sl,v=r/\aa (λb=>b<h.size/\¬b=a.block) h h' [ao a 344 [xb xl (gG n s (upto n) k).1],al 3 r 1 aq (IB s n k)]:=by
 refine MB (dB a) n k ?_;unfold Fv;refine bi (ai (λe=>k4) λ_=>ai (λe=>k4) λ_=>ai (λe=>k4) λ_=>ai (λe=>k4) λ_=>?_);have M:aa (λb=>b<h.size/\¬b=a.block) h h [ao a 344 [xb xl s]]:=.Zq (λb=>b=a.block) (λb p=>by rw[p];exact E.lt) ⟨E,k0⟩;refine M.make ac aq fN k6 0 k0 k0 n n k0 k0 (ql _) k4 λv T R P I=>?_;refine aw (λi:Nat=>(i:Int)) (λi h'=>i<=n/\aa (λb=>b<h.size/\¬b=a.block) h h' [ao a 344 [xb xl s],al 3 v 1 aq ((upto n).take i++qg (n-i) 0)]) (λi=>n-i) 0 k0 ⟨k4,by simpa using I⟩ ?_;rintro i S ⟨V,o⟩;refine ai (λe=>?_) (λe=>?_)
 ·have g:i<n:=k4
  refine o.set ac 1 k0 (λ_=>rfl) k0 i k0 (by simp[hJ];omega) (i:Int) k0 k0 k0 λh3 f=>?_;refine⟨i+1,ld,⟨k4,?_⟩,k4⟩;have e2:((upto n).take i++qg (n-i) 0).set i (i:Int)=(upto n).take (i+1)++qg (n-(i+1)) 0:=by
   have q:j9 ((upto n).take i)=i:=by rw[qZ,hJ];omega
   rw[aH _ _ A0,qX _ _ k4,q,zc,show n-i=n-(i+1)+1 by omega,yd,zx];simp[upto]
  rw[<-e2];exact f
 ·have g:i=n:=k4
  subst g;have e2:(upto i).take i++qg (i-i) 0=upto i:=by rw[qi A0];simp
  rw[e2]at o;refine aw (λj:Nat=>(j:Int)) (λj h'=>j<=k/\aa (λb=>b<h.size/\¬b=a.block) h h' [ao a 344 [xb xl (gG i s (upto i) j).1],al 3 v 1 aq (gG i s (upto i) j).2]) (λj=>k-j) 0 k0 ⟨k4,o⟩ ?_;rintro j h3 ⟨Q,f⟩;have z:=xM i s (upto i) j;rw[hJ]at z;refine ai (λJ=>?_) (λJ=>?_)
  ·rw[ag _];have d:((i:Int)-(j:Int))=((i-j:Nat):Int):=k4
   rw[d];refine(MQ a _ _ h3 (f.box 0 k0)).mono ?_;rintro w F ⟨rfl,B,x⟩;have l:=f.CI 0 k0 x B;have H:=xL (gG i s (upto i) j).1 ((i-j:Nat):Int);refine⟨_,k0,?_⟩;dsimp only;rw[ag _,ag _];have G:(j:Int)+mC (gG i s (upto i) j).1 ((i-j:Nat):Int)=((j+(mC (gG i s (upto i) j).1 ((i-j:Nat):Int)).toNat:Nat):Int):=k4
   have c:j+(mC (gG i s (upto i) j).1 ((i-j:Nat):Int)).toNat<(gG i s (upto i) j).2.length:=k4
   rw[G];have m:=l.seq 1 k0 λ_=>rfl;refine m.bC _ k0 c _ k0 ?_;refine m.bC j k0 k4 _ k0 ?_;refine l.set ac 1 k0 (λ_=>rfl) k0 j k0 k4 _ k0 k0 k0 λL y=>⟨trivial,?_⟩
   refine y.set ac 1 k0 (λ_=>rfl) k0 _ k0 oo _ k0 k0 k0 λO K=>⟨trivial,?_⟩
   refine⟨j+1,k0,⟨k4,?_⟩,k4⟩;rw[gG,sM,lE,lE,Go.Vc.getD_lt c,Go.Vc.getD_lt (show j<(gG i s (upto i) j).2.length by omega)];exact K
  ·have t:j=k:=k4
   subst t;refine⟨⟨k4,k4⟩,?_⟩;have A:=f.seq 1 k0 λ_=>rfl;refine(jS ⟨v.ptr,j,v.cap⟩ ((gG i s (upto i) j).2.take j) h3 (A.take j k4) qa).mono ?_;rintro w F ⟨r,rfl,l⟩;refine⟨r,k0,?_⟩;refine(PE r _ F (l.own 0 k0) qa).mono ?_;rintro w L ⟨rfl,u,D⟩;have y:=(f.comp l).oS 2 k0 D u;exact⟨(),k0,r,k0,y.del 1⟩
theorem BL(p:Pm)(seed id:Int)(h:hZ):ab xm 161 #[lN p,xb xk seed,xb xi id] h λv h'=>∃r:Sl,v=r/\Sp h h' [al 3 r 1 aq (if bH p&&bW id then dt (bD p).toNat seed id else[])]:=by
 refine UZ p seed id ?_;unfold Px;refine(Sp.refl h).boxed λa D B=>?_;refine bi ?_;refine⟨p,(B.box 0 k0).aS _ k0,(fa p D).mono ?_⟩;rintro v o ⟨rfl,K⟩;have g:=B.comp K;have k:(bH p&&bW id)=eS->Sp h o [al 3 ⟨eH,0,0⟩ 1 aq (if bH p&&bW id then dt (bD p).toNat seed id else[])]:=λH=>by
  rw[H];exact(g.nil 3 1 aq).take 1 (λi A c=>by cases i with|zero=>exact c|succ i=>simp at c)
 refine⟨_,k0,bj (λe=>⟨⟨eH,0,0⟩,k0,k A3⟩) λx=>?_⟩;refine ai (λe=>⟨⟨eH,0,0⟩,k0,k m9⟩) λT=>?_;refine ai (λe=>⟨⟨eH,0,0⟩,k0,k m9⟩) λe2=>?_;have hid:bW id=eR:=m9
 rw[x,hid];refine⟨p,(g.box 0 k0).aS _ k0,(ju p o).mono ?_⟩;rintro v h3 ⟨rfl,L⟩;have P:=g.comp L;have J:=(bZ p).1 x;have U:bD p=p.1+p.2.1:=by rw[bD,j1 x]
 obtain⟨n,G⟩:∃n:Nat,bD p=n:=⟨(bD p).toNat,k4⟩
 refine⟨_,k0,?_⟩;dsimp only;rw[G,qn];refine(QR _ h3).mono ?_;rintro v Q ⟨d,rfl,F⟩;refine⟨dB d,k0,?_⟩;refine(Dt d _ Q (F.box 0 k0)).mono ?_;rintro v S ⟨rfl,l,y⟩;have z:=F.CI 0 k0 y l;refine⟨_,k0,?_⟩;refine(Yf n S k4 k4).mono ?_;rintro v I ⟨t,rfl,m⟩;have f:=z.comp m;refine⟨t,k0,?_⟩;have j:∀b,t.on b->b≠d.block:=λb w V=>by
  have D:=(m.fresh 0 k0).2 b w;have o:=(z.box 0 k0).lt;omega
 refine(Jk t n d _ I ((m.own 0 k0).seq (λ_=>rfl) j) (f.box 0 k0) k4 k4).mono ?_;rintro v O ⟨rfl,s,u⟩;have E:=f.CI 0 k0 u s;refine⟨_,k0,?_⟩;refine(aaG d _ n _ O (E.box 0 k0) k4 (xN _ n k4 k4)).mono ?_;rintro v h8 ⟨r,rfl,M⟩;have R:=E.call 0 k0 (λb=>b=d.block) (λq N b w=>by rw[w];exact N.2) M;exact⟨r,k0,r,k0,((P.comp R).take 3 λi A c=>by cases i with|zero=>exact c|succ i=>simp at c)⟩
end Go.Qw
