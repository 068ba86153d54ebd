/- Lemmas for the proof of the law; no condition. -/
import Derived.Test.YtnjommcknbionaaGreatDoorTabS
import Derived.Test.YtnjommcknbionaaGreatDoorShelfA
import Derived.Test.YtnjommcknbionaaGreatDoorPlE
import Derived.Test.YtnjommcknbionaaGreatDoorPlF
import Derived.Test.YtnjommcknbionaaGreatDoorPlG
set_option linter.unusedVariables false
set_option linter.unusedSimpArgs false
open Go.Proofs.Tryz renaming prog -> vV
open Go.Value renaming agg -> vQ, bool -> vP, int -> vL, pointer -> vN, slice -> vM, string -> vO
open Go.IntKind renaming bits -> qf, i64 -> vR, signed -> wS, u32 -> vT, u64 -> vU, u8 -> vS, wrap -> qc
open Option renaming isSome_iff_exists -> yP, map_some -> qK, some -> wL
open Int renaming ediv_nonneg -> vo, fdiv -> qD, mul_le_mul -> yt, mul_nonneg -> ve, natCast_mul -> zW, tdiv -> wQ, tmod -> zQ, tmod_eq_emod_of_nonneg -> ya, tmod_lt_of_pos -> yU, toNat_natCast -> qo
open UInt8 renaming ofNat -> w6, ofNat_toNat -> yk, toNat_inj -> wI, toNat_lt -> wF, xor_comm -> vz, zero_xor -> wG
open List renaming all_eq_false -> y8, all_eq_true -> qT, any_append -> vp, any_eq_true -> yK, append_assoc -> qm, append_nil -> qU, cons_append -> zk, drop_drop -> zo, drop_eq_getElem_cons -> qL, drop_of_length_le -> q9, eq_nil_of_length_eq_zero -> qM, exists_cons_of_length_eq_add_one -> wX, ext_getElem? -> zq, filter_append -> zf, filter_cons -> zu, filter_nil -> vr, flatMap_append -> q7, flatMap_cons -> zg, flatMap_nil -> wM, foldl_cons -> zw, foldl_nil -> wj, getD_eq_getElem?_getD -> qg, getElem?_append_left -> ql, getElem?_append_right -> qh, getElem?_cons_succ -> qw, getElem?_eq_getElem -> qd, getElem?_eq_none -> qX, getElem?_eq_some_iff -> qk, getElem?_map -> qN, getElem?_range -> q8, getElem?_replicate -> wW, getElem?_set -> qW, getElem?_set_ne -> zG, getElem?_set_self -> zH, getElem?_zipWith -> wC, getElem_drop -> wz, getElem_mem -> qn, getElem_of_mem -> qQ, getElem_take -> yB, length -> vn, length_append -> qp, length_cons -> zc, length_drop -> qR, length_filter_le -> zt, length_map -> qC, length_nil -> wZ, length_range -> zm, length_set -> qZ, length_take -> qO, map_append -> zi, map_map -> wJ, map_mergeSort -> yZ, mem_append -> qE, mem_cons -> zl, mem_filter -> q6, mem_flatMap -> zZ, mem_map -> qH, mem_mergeSort -> yw, mem_of_getElem? -> yH, mem_range -> qF, mem_singleton -> qB, nil_append -> zO, pairwise_cons -> zL, range -> qz, range_succ -> zx, replicate -> qi, replicate_succ -> yN, set_append_right -> qY, set_cons_succ -> wm, set_cons_zero -> zM, take_append_drop -> qy, take_append_of_le_length -> zE, take_length -> za, take_of_length_le -> qj
open Nat renaming add_assoc -> w5, add_sub_cancel_left -> zd, le_refl -> qt, le_trans -> zh, lt_of_lt_of_le -> qG, mod_eq_of_lt -> zP, mod_lt -> yE, mul_le_mul_right -> ze, mul_one -> zN, sub_self -> q5, succ_mul -> zy, zero_le -> zJ
open BitVec renaming ofInt -> qq, ofInt_natCast -> wi, ofNat -> zC, toNat_ofNat -> wo
open Bool renaming and_eq_true -> qA, false_eq_true -> q0, false_or -> vm, not_false -> we, not_true -> zY, true_and -> zK
open Prod renaming ext -> yR, fst -> qP, snd -> zF
open Go.Instr renaming fill -> wc, storeAt -> qe
set_option maxRecDepth 100000
namespace Go.Vc
open Go Wl
abbrev Cells:=cu
abbrev powC(w:Pow)(l:Int):aM:=[vP w.off,vP w.fuse.isSome,vL vR l,vL vR w.offs]
def Ei(w:Pow)(l:Int):Prop:=∀k,w.fuse=some k->l=k/\k<2^62
def dq(t:Nat)(a:Addr)(w:Pow):HP:=HP.ex fun l:Int=>(ai a t (powC w l)).and (Ei w l)
section
variable {B:ap} {h0 h h':Heap} {As:List HP} {t:Nat} {a:Addr} {w:Pow}
theorem aa.sD(H:aa B h0 h (dq t a w::As)):∃l,Ei w l/\aa B h0 h (ai a t (powC w l)::As):=by
 obtain⟨l,H⟩:=H.ta;obtain⟨H,b⟩:=H.Ce;exact⟨l,b,H⟩
theorem aa.CG{l:Int}(b:Ei w l)(H:aa B h0 h (ai a t (powC w l)::As)):aa B h0 h (dq t a w::As):=
 (H.toCe b).Dl (F:=fun l:Int=>(ai a t (powC w l)).and (Ei w l)) l
end
end Go.Vc
namespace Go.Qw
open Go Go.Vc Go.Proofs Wl
section
variable {B:ap} {h0 h h':Heap} {As:List HP} {t:Nat} {a:Addr} {w:Pow}
theorem AX(l:Int)(b:bV h a 83 (powC w l)):ab vV 69 #[vN (some a)] h fun v h'=>v=vP (!w.off)/\h'=h:=by
 refine xC (some a) ?_;unfold oW;exact bn (fun _=>⟨a,rfl,w.off,b.cell0 rfl,rfl,rfl⟩) fun e=>by cases e
theorem GD(l:Int)(b:bV h a 83 (powC w l)):ab vV 37 #[vN (some a)] h fun v h'=>v=vL vR w.offs/\h'=h:=by
 refine tz (some a) ?_;unfold nj;exact bn (fun e=>by cases e) fun _=>⟨a,rfl,w.offs,b.cell rfl,rfl,rfl⟩
theorem Pn(h:Heap):ab vV 17 #[] h fun v h'=>∃a,v=vN (some a)/\Sp h h' [dq 83 a Pow.new]:=by
 refine He ?_;unfold Bp;refine(Sp.refl h).boxed fun a c b=>⟨a,rfl,aa.CG (l:=0) (w:=Pow.new) (fun k e=>by cases e) b⟩
theorem xT(H:aa B h0 h (dq 83 a w::As)):ab vV 132 #[vN (some a)] h fun v h'=>v=vP w.step.1/\aa B h0 h' (dq 83 a w.step.2::As):=by
 obtain⟨l,o,b⟩:=H.sD;refine tQ (some a) ?_;unfold nz;refine(AX l (b.box 0 rfl)).mono ?_;rintro _ x ⟨rfl,rfl⟩;refine⟨_,rfl,bf (fun e=>?_) (fun e=>?_)⟩
 ·have:w.step=(false,w):=by unfold Pow.step;rw[if_pos (by simpa using e)]
  rw[this];exact⟨rfl,H⟩
 have g:w.off=false:=by simpa using e
 refine⟨a,rfl,_,(b.box 0 rfl).cell rfl,bf (fun e2=>?_) (fun e2=>?_)⟩
 ·have:w.step=(true,w):=by
   unfold Pow.step;rw[if_neg (by simp[g])];cases d:w.fuse with
   |none=>rfl
   |some k=>rw[d]at e2;cases e2
  rw[this];exact⟨rfl,H⟩
 obtain⟨k,d⟩:∃k,w.fuse=some k:=yP.1 e2;obtain⟨rfl,u⟩:=o k d;have r:powC w (k:Int)=[vP false,vP true,vL vR k,vL vR w.offs]:=by simp[powC,g,d]
 rw[r]at b;refine⟨a,rfl,_,(b.box 0 rfl).cell rfl,bt (fun q=>?_) (fun q=>?_)⟩
 ·have i:k=0:=by omega
  subst i;have m:w.step=(false,⟨true,some 0,qc vR (w.offs+1)⟩):=by unfold Pow.step;rw[if_neg (by simp[g]),d]
  rw[m];refine⟨a,rfl,b.kr af 0 rfl rfl [vP true] rfl rfl rfl (by simp) fun t n=>?_⟩;refine⟨a,rfl,w.offs,(n.box 0 rfl).cell rfl,a,rfl,n.store af 0 rfl rfl 3 [vL vR (qc vR (w.offs+1))] rfl rfl rfl (by simp[powC]) fun h3 f=>⟨rfl,?_⟩⟩;refine aa.CG (l:=((0:Nat):Int)) (fun p c=>by cases c;exact⟨rfl,by decide⟩) ?_;exact f
 ·obtain⟨j,rfl⟩:∃j,k=j+1:=⟨k-1,by omega⟩
  have m:w.step=(true,⟨false,some j,w.offs⟩):=by unfold Pow.step;rw[if_neg (by simp[g]),d]
  rw[m];refine⟨a,rfl,_,(b.box 0 rfl).cell rfl,a,rfl,b.store af 0 rfl rfl 2 [vL vR (qc vR (((j+1:Nat):Int)-1))] rfl rfl rfl (by simp[powC]) fun h3 f=>⟨rfl,?_⟩⟩;refine aa.CG (l:=(j:Int)) (fun p c=>by cases c;exact⟨rfl,by omega⟩) ?_;rw[ak _]at f;have s:((j+1:Nat):Int)-1=(j:Int):=by omega
  rw[s]at f;exact f
end
abbrev Pm:=Int×Int×Int
abbrev jH(p:Pm):Value:=vQ #[vL vR p.1,vL vR p.2.1,vL vR p.2.2]
theorem dO(p:Pm)(h:Heap):ab vV 36 #[jH p] h fun v h'=>v=vP (bC p)/\Sp h h' []:=by
 refine KM p ?_;unfold Gv;refine(Sp.refl h).boxed fun a d f=>?_;have e:=f.box 0 rfl;have c:Sp h d []:=.zip f.ag;have g:cellOf d a=some (vL vR p.1):=e.cell0 rfl;have j:cellOf d (a.add 1)=some (vL vR p.2.1):=e.cell rfl;have i:cellOf d (a.add 2)=some (vL vR p.2.2):=e.cell rfl;unfold bC;refine⟨_,g,aj (fun b=>?_) (fun b=>⟨by rw[decide_eq_false b];rfl,c⟩)⟩;rw[decide_eq_true b];refine⟨_,g,aj (fun b=>?_) (fun b=>⟨by rw[decide_eq_false b];rfl,c⟩)⟩;rw[decide_eq_true b];refine⟨_,j,aj (fun b=>?_) (fun b=>⟨by rw[decide_eq_false b];rfl,c⟩)⟩;rw[decide_eq_true b];refine⟨_,j,aj (fun b=>?_) (fun b=>⟨by rw[decide_eq_false b];rfl,c⟩)⟩;rw[decide_eq_true b];refine⟨_,i,aj (fun b=>?_) (fun b=>⟨by rw[decide_eq_false b];rfl,c⟩)⟩;rw[decide_eq_true b];exact⟨_,i,rfl,c⟩
abbrev mE:bP C.torQ 22 3 1 [vL vR 0] 8:=⟨_,_,rfl,rfl,rfl,rfl,rfl,rfl⟩
abbrev fv:bP C.torQ 31 5 1 [vL vS 0] 1:=⟨_,_,rfl,rfl,rfl,rfl,rfl,rfl⟩
abbrev iQ:bP C.torQ 72 31 1 [vM none 0 0] 24:=⟨_,_,rfl,rfl,rfl,rfl,rfl,rfl⟩
theorem gx(s:Sl)(l:aB)(h:Heap)(b:Rd h s 1 aG l)(d:l.length<=2^30):ab vV 100 #[s] h fun v h'=>∃r:Sl,v=r/\Sp h h' [ao 3 r 1 aG l]:=by
 refine oY s ?_;unfold kD;refine bn (fun e=>?_) (fun e=>?_)
 ·have:=b.isNil e;subst this;exact⟨⟨none,0,0⟩,rfl,(Sp.refl h).nil 3 1 aG⟩
 ·refine(Sp.refl h).lit af aG mE rfl [] rfl (by decide) rfl fun i j a=>?_;refine a.append af 0 rfl mE ⟨_,_,rfl,rfl⟩ rfl (by decide) (fun _=>rfl) (b.up a.ag) jQ (by simp;omega) fun c g f=>⟨c,rfl,f⟩
theorem ie(s:Sl)(l:aQ)(h:Heap)(b:Rd h s 1 av l)(d:l.length<=2^30:=by omega):ab vV 34 #[s] h fun v h'=>∃r:Sl,v=r/\Sp h h' [ao 5 r 1 av l]:=by
 refine DC s ?_;unfold uw;refine bn (fun e=>?_) (fun e=>?_)
 ·have:=b.isNil e;subst this;exact⟨⟨none,0,0⟩,rfl,(Sp.refl h).nil 5 1 av⟩
 ·refine(Sp.refl h).lit af av fv rfl [] rfl (by decide) rfl fun i j a=>?_;refine a.append af 0 rfl fv ⟨_,_,rfl,rfl⟩ rfl (by decide) (fun _=>rfl) (b.up a.ag) dN (by simp;omega) fun c g f=>⟨c,rfl,f⟩
theorem GF{e:TypeId}(s:Sl)(l:aB)(h:Heap)(c:Own h e s 1 aG l)(a:l.length<2^40):ab vV 54 #[s] h fun v h'=>v=.tuple #[]/\Own h' e s 1 aG (iq l)/\aH (fun b=>¬s.on b) h h':=
 Iy Tryz.slices_Sort_int Tryz.slices_Sort_int_none c a
theorem cU(x n:Int)(h:Heap)(b:0<n)(g:n<=2^62):ab vV 8 #[vL vR x,vL vR n] h fun v h'=>v=vL vR (x%n)/\h'=h:=by
 refine od x n ?_;unfold ke;have f:=yU x b;have e:-n<x.tmod n:=Int.lt_tmod_of_pos x b;have d:=Ip x n b;refine⟨by omega,aP ?_⟩;refine aj (fun c=>?_) (fun a=>?_)
 ·rw[ak _];exact⟨by rw[d,if_pos c],rfl⟩
 ·exact⟨by rw[d,if_neg a],rfl⟩
theorem Ej{p q:ap}(a b:Sl)(c g:Row)(h:Heap)(o:Seq h p a 1 av c)(r:Seq h q b 1 av g)(w:c.length<=2^40):
  ab vV 32 #[a,b] h fun v h'=>v=vP (decide (c=g))/\h'=h:=by
 refine mD a b ?_;unfold jd;have n:=o.len;have m:=r.len;refine cq (fun d=>⟨?_,rfl⟩) (fun l=>?_)
 ·rw[decide_eq_false (fun e=>d (by rw[n,m,e]))]
 ·refine aA (fun k:Nat=>(k:Int)) (fun k h'=>h'=h/\k<=c.length/\c.take k=g.take k) (fun k=>c.length-k) 0 rfl ⟨rfl,by omega,by simp⟩ ?_;rintro k h' ⟨rfl,x,j⟩;refine aj (fun t=>?_) (fun u=>?_)
  ·have i:k<c.length:=by omega
   have f:k<g.length:=by omega
   refine o.cA k rfl i _ rfl ?_;refine r.cA k rfl f _ rfl ?_;refine cq (fun d=>⟨?_,rfl⟩) (fun l=>?_)
   ·rw[decide_eq_false];intro e;subst e;exact d rfl
   ·rw[ak _];have s:c[k]=g[k]:=wI.1 (by omega);exact⟨k+1,by simp,⟨rfl,by omega,by rw[aO _ _ i,aO _ _ f,j,s]⟩,by omega⟩
  ·have:k=c.length:=by omega
   subst this;rw[qj (by omega),qj (by omega)]at j;exact⟨by rw[decide_eq_true j],rfl⟩
theorem fC.take{α:Type}{h:Heap}{s:Sl}{k:Nat}{f:α->aM}{d:List (List α)}(a:fC h s k f d)(n:Nat)(g:n<=d.length):fC h ⟨s.ptr,n,s.cap⟩ k f (d.take n):=by
 obtain⟨rs,a⟩:=a;have j:=a.len;refine⟨rs.take n,a.top.take n (by omega),by simp;omega,fun i r l b c=>?_⟩;rw[List.getElem?_take]at b c;split at b
 ·rename_i e;rw[if_pos e]at c;exact a.row i r l b c
 ·cases b
end Go.Qw
namespace Wl
structure dA (d:bj):Prop where
 wait:d.wait<=d.l.length
 len:d.l.length<=d.room
 room:d.room<=512
 cell:∀c∈d.l,c.length=64
 laid:d.laid.length<=d.room
 cellL:∀c∈d.laid,c.length=64
section
variable {d:bj} {w:Pow} {b:aQ}
theorem dA.new{n:Nat}(h:n<=512):dA (bj.new n):=⟨qt _,zJ _,h,by simp[bj.new],zJ _,by simp[bj.new]⟩
theorem dA.append(h:dA d):dA (d.append w b).2.2:=by
 obtain⟨j,i,h3,e,g,f⟩:=h;unfold bj.append;split
 ·exact⟨j,i,h3,e,g,f⟩
 ·rename_i m;split
  ·exact⟨j,i,h3,e,g,f⟩
  ·split
   ·exact⟨j,i,h3,e,g,f⟩
   ·rename_i k;split
    ·exact⟨j,i,h3,e,g,f⟩
    ·have a:∀c∈d.l++[b],c.length=64:=fun c a=>by
      rcases qE.1 a with a|a
      ·exact e c a
      ·rw[qB.1 a];omega
     split
     ·exact⟨by simp;omega,by simp;omega,h3,a,zJ _,by simp⟩
     ·exact⟨by simp;omega,by simp;omega,h3,a,g,f⟩
theorem dA.sync(h:dA d):dA (d.sync w).2.2:=by
 obtain⟨e,a,h3,b,f,c⟩:=h;unfold bj.sync;split
 ·exact⟨e,a,h3,b,f,c⟩
 ·split
  ·exact⟨zJ _,a,h3,b,zJ _,by simp⟩
  ·exact⟨e,a,h3,b,f,c⟩
theorem dA.rewrite{l:cu}(h:dA d):dA (d.rewrite w l).2.2:=by
 obtain⟨e,a,h3,b,g,f⟩:=h;unfold bj.rewrite;split
 ·exact⟨e,a,h3,b,g,f⟩
 ·rename_i i;have i:∀c∈l,c.length=64:=by simpa using i
  split
  ·exact⟨e,a,h3,b,g,f⟩
  ·split
   ·exact⟨e,a,h3,b,g,f⟩
   ·split
    ·exact⟨e,a,h3,b,g,f⟩
    ·split
     ·exact⟨zJ _,by dsimp only;omega,h3,i,zJ _,by simp⟩
     ·exact⟨e,a,h3,b,by dsimp only;omega,i⟩
end
end Wl
namespace Go.Vc
open Go Wl Go.Qw
abbrev dJ(s:Sl)(l:Cells):HP:=io 31 s 5 1 av l
def iR(t:Nat)(f:bj->Sl->Sl->aM)(a:Addr)(d:bj):HP:=
 (HP.ex fun b:Sl×Sl=>(ai a t (f d b.1 b.2)).sep ((dJ b.1 d.l).sep (dJ b.2 d.laid))).and (dA d)
section
variable {B:ap} {h0 h h':Heap} {As:List HP} {t:Nat} {f:bj->Sl->Sl->aM} {a:Addr} {d:bj}
theorem aa.om(H:aa B h0 h (iR t f a d::As)):dA d/\∃s b:Sl,aa B h0 h (ai a t (f d s b)::dJ s d.l::dJ b d.laid::As):=by
 obtain⟨H,ok⟩:=H.Ce;obtain⟨c,H⟩:=H.ta;exact⟨ok,c.1,c.2,H.xf.xf.bh 3 [2,1,0]⟩
theorem aa.sE{s b:Sl}(ok:dA d)(H:aa B h0 h (ai a t (f d s b)::dJ s d.l::dJ b d.laid::As)):aa B h0 h (iR t f a d::As):=
 ((((H.bh 3 [2,1,0]).nY).nY).Dl (F:=fun c:Sl×Sl=>(ai a t (f d c.1 c.2)).sep ((dJ c.1 d.l).sep (dJ c.2 d.laid))) (s,b)).toCe ok
end
end Go.Vc
namespace Go.Qw
open Go Go.Vc Go.Proofs Wl
abbrev eC(pw:Addr)(d:bj)(s b:Sl):aM:=[vN (some pw),vL vR d.room,s,vL vR d.wait,b,vP d.has,vP d.lost]
abbrev iC(pw a:Addr)(d:bj):HP:=iR 74 (eC pw) a d
section
variable {B:ap} {h0 h h':Heap} {As:List HP} {a pw:Addr} {d:bj} {w:Pow}
theorem Nd(n:Int)(pw:Addr)(h:Heap):ab vV 39 #[vL vR n,vN (some pw)] h fun v h'=>
  (1<=n/\n<=512->∃a,v=vN (some a)/\Sp h h' [iC pw a (bj.new n.toNat)])/\(¬(1<=n/\n<=512)->v=vN none/\Sp h h' []):=by
 refine Hg n (some pw) ?_;unfold Bq;refine aP (aj (fun e=>⟨fun c=>absurd c (by omega),fun _=>⟨rfl,Sp.refl h⟩⟩) fun g=>aj (fun e=>⟨fun c=>absurd c (by omega),fun _=>⟨rfl,Sp.refl h⟩⟩) fun e2=>bn (fun e=>by cases e) fun _=>?_);refine(Sp.refl h).boxed fun a i d=>⟨fun _=>⟨a,rfl,?_⟩,fun c=>absurd (by omega) c⟩
 refine aa.sE (s:=⟨none,0,0⟩) (b:=⟨none,0,0⟩) (dA.new (by omega)) ?_;have e:((n.toNat:Nat):Int)=n:=by omega
 have f:=((d.Cf 31 5 1 av).Cf 31 5 1 av).bh 3 [2,1,0];have e2:eC pw (bj.new n.toNat) ⟨none,0,0⟩ ⟨none,0,0⟩=[vN (some pw),vL vR n,vM none 0 0,vL vR 0,vM none 0 0,vP false,vP false]:=by
  simp only[eC,bj.new,e];rfl
 rw[e2];exact f
theorem xU(s b:Sl)(c:bj)(H:aa B h0 h (ai a 74 (eC pw d s b)::dJ s d.l::dJ b d.laid::dq 83 pw w::As))(ok:dA d)(f:c={d with laid:=[],has:=false}):
  ab vV 133 #[vN (some a)] h fun v h'=>v=vL vR 0/\aa B h0 h' (iC pw a c::dq 83 pw w::As):=by
 refine tR (some a) ?_;unfold nA;refine⟨a,rfl,H.store af 0 rfl rfl 4 [vM none 0 0] rfl rfl rfl (by simp[eC]) fun i g=>?_⟩;refine⟨a,rfl,g.store af 0 rfl rfl 5 [vP false] rfl rfl rfl (by simp[eC]) fun h3 e=>⟨rfl,?_⟩⟩;subst f;refine aa.sE (s:=s) (b:=⟨none,0,0⟩) ⟨ok.wait,ok.len,ok.room,ok.cell,zJ _,by simp⟩ ?_;exact((e.Cf 31 5 1 av).bh 5 [1,2,0,4])
theorem KU(x:Sl)(row:aQ)(H:aa B h0 h (iC pw a d::dq 83 pw w::As))(P:Rd h x 1 av row)(hr:row.length<=2^20):
  ab vV 79 #[vN (some a),x] h fun v h'=>v=vL vR (d.append w row).1/\aa B h0 h' (iC pw a (d.append w row).2.2::dq 83 pw (d.append w row).2.1::As):=by
 refine kC (some a) x ?_;unfold iP;have S:=P.len;obtain⟨ok,s,b,z⟩:=H.om;have q:=z.box 0 rfl;obtain⟨V,_⟩:=aa.tc (z.bh 4 [1]);have L:=ok.room;have O:=ok.len;have F:=ok.wait;have g:∀(e:Int),d.append w row=(e,w,d)->(Value.int .i64 e=vL vR (d.append w row).1/\aa B h0 h (iC pw a (d.append w row).2.2::dq 83 pw (d.append w row).2.1::As)):=fun e Q=>by
  rw[Q];exact⟨rfl,H⟩
 refine aP (cq (fun e=>g 1 (by unfold bj.append;rw[if_pos (by omega)])) fun X=>?_);have u:row.length=64:=by omega
 refine aP (bn (fun e=>by cases e) fun _=>⟨a,rfl,d.lost,q.cell rfl,bn (fun e=>g 5 ?_) fun f=>?_⟩)
 ·unfold bj.append;rw[if_neg (by omega),if_pos e]
 refine⟨a,rfl,s,q.cell rfl,a,rfl,(d.room:Int),q.cell rfl,aj (fun e=>g 7 ?_) fun J=>?_⟩
 ·unfold bj.append;rw[if_neg (by omega),if_neg (by simp[f]),if_pos (by omega)]
 obtain⟨l,hl,I⟩:=(z.bh 4 [3,0,1,2]).sD;refine⟨a,rfl,some pw,q.cell0 rfl,(AX l (I.box 0 rfl)).mono ?_⟩;rintro _ U ⟨rfl,rfl⟩;refine⟨_,rfl,bf (fun e=>g 14 ?_) fun o=>?_⟩
 ·unfold bj.append;rw[if_neg (by omega),if_neg (by simp[f]),if_neg (by omega),if_pos (by simpa using e)]
 have j:w.off=false:=by simpa using o
 refine aP ⟨a,rfl,s,q.cell rfl,(ie x row U P).mono ?_⟩;rintro _ h4 ⟨r,rfl,Y⟩;have D:=(z.cQ Y).bh 5 [2,0,1,3,4];have p:=D.box 2 rfl;refine⟨r,rfl,⟨p.cell rfl,trivial⟩,?_⟩;have T:=D;refine D.rT af cx iQ rfl [r] rfl (show 1*1<=2^20 by decide) rfl ⟨p.cell rfl,trivial⟩ ?_;refine D.Dn af iQ (by omega) fun A Z K=>⟨trivial,?_⟩
 have K:=K.bh 4 [1,0,2,3];refine⟨a,rfl,K.store af 0 rfl rfl 2 [A] rfl rfl rfl (by simp[eC]) fun h7 N=>⟨trivial,?_⟩⟩;have M:=N.box 0 rfl;refine⟨a,rfl,(d.wait:Int),M.cell rfl,a,rfl,?_⟩;rw[ak ((d.wait:Int)+1)];refine N.store af 0 rfl rfl 3 [vL vR ((d.wait:Int)+1)] rfl rfl rfl (by simp[eC]) fun h8 W=>?_;obtain⟨i,k⟩:∃i:bj,i={d with l:=d.l++[row],wait:=d.wait+1}:=⟨_,rfl⟩
 have m:dA i:=by
  subst k;refine⟨by simp;omega,by simp;omega,ok.room,fun c y=>?_,ok.laid,ok.cellL⟩;rcases qE.1 y with y|y
  ·exact ok.cell c y
  ·rw[qB.1 y];exact u
 have t:aa B h0 h8 (ai a 74 (eC pw i A b)::dJ A i.l::dJ b i.laid::dq 83 pw w::As):=by rw[k];exact W
 refine⟨a,rfl,some pw,(t.box 0 rfl).cell0 rfl,(xT (t.bh 4 [3,0,1,2])).mono ?_⟩;rintro _ h9 ⟨rfl,E⟩;have E:=E.bh 4 [1,2,3,0];have n:d.append w row=if w.step.1 then(0,w.step.2,{i with laid:=[],has:=false})else(14,w.step.2,i):=by
  rw[k];unfold bj.append;rw[if_neg (by omega),if_neg (by simp[f]),if_neg (by omega),if_neg (by simp[j])]
 rw[n];refine⟨_,rfl,bf (fun e=>?_) (fun e=>?_)⟩
 ·rw[e];exact⟨rfl,E.sE m⟩
 ·rw[e];refine(xU A b _ E m rfl).mono ?_;rintro _ R ⟨rfl,G⟩;exact⟨0,rfl,rfl,G⟩
theorem FF(x:Sl)(row:aQ)(h:Heap)(b:Rd h x 1 av row):ab vV 79 #[vN none,x] h fun v h'=>v=vL vR (if row.length≠64 then 1 else 5)/\h'=h:=by
 refine kC none x ?_;unfold iP;have a:=b.len;refine aP (cq (fun e=>⟨by rw[if_pos (by omega)],rfl⟩) fun e=>?_);exact aP (bn (fun _=>⟨by rw[if_neg (by omega)],rfl⟩) fun e=>by cases e)
theorem Po(H:aa B h0 h (iC pw a d::dq 83 pw w::As)):
  ab vV 135 #[vN (some a)] h fun v h'=>v=vL vR (d.sync w).1/\aa B h0 h' (iC pw a (d.sync w).2.2::dq 83 pw (d.sync w).2.1::As):=by
 refine lJ (some a) ?_;unfold jF;obtain⟨ok,s,b,i⟩:=H.om;have j:=i.box 0 rfl;refine aP (bn (fun e=>by cases e) fun _=>⟨a,rfl,d.lost,j.cell rfl,bn (fun e=>?_) fun c=>?_⟩)
 ·have:d.sync w=(5,w,d):=by unfold bj.sync;rw[if_pos e]
  rw[this];exact⟨rfl,H⟩
 refine⟨a,rfl,some pw,j.cell0 rfl,(xT (i.bh 4 [3,0,1,2])).mono ?_⟩;rintro _ m ⟨rfl,g⟩;have g:=g.bh 4 [1,2,3,0];have f:d.sync w=if w.step.1 then(0,w.step.2,{{d with wait:=0}with laid:=[],has:=false})else(14,w.step.2,d):=by
  unfold bj.sync;rw[if_neg (by simp[c])]
 rw[f];refine⟨_,rfl,bf (fun e=>?_) (fun e=>?_)⟩
 ·rw[e];exact⟨rfl,g.sE ok⟩
 ·rw[e];refine⟨a,rfl,g.store af 0 rfl rfl 3 [vL vR 0] rfl rfl rfl (by simp[eC]) fun h3 k=>?_⟩;refine(xU (d:={d with wait:=0}) s b _ k ⟨zJ _,ok.len,ok.room,ok.cell,ok.laid,ok.cellL⟩ rfl).mono ?_;rintro _ n ⟨rfl,l⟩;exact⟨0,rfl,rfl,l⟩
theorem Jv(h:Heap):ab vV 135 #[vN none] h fun v h'=>v=vL vR 5/\h'=h:=by
 refine lJ none ?_;unfold jF;exact aP (bn (fun _=>⟨rfl,rfl⟩) fun e=>by cases e)
theorem iC.box(H:aa B h0 h (iC pw a d::As)):∃s b:Sl,bV h a 74 (eC pw d s b)/\fC h s 1 av d.l/\s.len=d.l.length:=by
 obtain⟨ok,s,b,c⟩:=H.om;exact⟨s,b,c.box 0 rfl,(c.bh 3 [1]).Ow fun _=>rfl,(aa.tc (c.bh 3 [1])).1⟩
theorem Pp(s b:Sl)(c:bV h a 74 (eC pw d s b)):ab vV 187 #[vN (some a)] h fun v h'=>v=vL vR d.room/\h'=h:=by
 refine tU (some a) ?_;unfold nB;exact bn (fun e=>by cases e) fun _=>⟨a,rfl,_,c.cell rfl,rfl,rfl⟩
theorem xV(s b:Sl)(c:bV h a 74 (eC pw d s b))(f:s.len=d.l.length):ab vV 11 #[vN (some a)] h fun v h'=>v=vL vR (d.l.length:Int)/\h'=h:=by
 refine uU (some a) ?_;unfold nR;exact bn (fun e=>by cases e) fun _=>⟨a,rfl,_,c.cell rfl,by rw[f],rfl⟩
theorem xW(s b:Sl)(c:bV h a 74 (eC pw d s b)):ab vV 112 #[vN (some a)] h fun v h'=>v=vP d.lost/\h'=h:=by
 refine tO (some a) ?_;unfold ny;exact bn (fun _=>⟨a,rfl,_,c.cell rfl,rfl,rfl⟩) fun e=>by cases e
theorem GG(s b:Sl)(i:Int)(m:bV h a 74 (eC pw d s b))(k:fC h s 1 av d.l)(q:∀c∈d.l,c.length=64):ab vV 13 #[vN (some a),vL vR i] h fun v h'=>∃r:Sl,v=r/\Sp h h' [ao 5 r 1 av (if 0<=i then d.l.getD i.toNat []else[])]:=by
 refine tw (some a) i ?_;unfold ni;have o:=k.len;have f:(if 0<=i then d.l.getD i.toNat []else[])=[]->∃r:Sl,Value.slice none 0 0=vM r.ptr r.len r.cap/\Sp h h [ao 5 r 1 av (if 0<=i then d.l.getD i.toNat []else[])]:=fun e=>by
  rw[e];exact⟨⟨none,0,0⟩,rfl,(Sp.refl h).nil 5 1 av⟩
 refine aP (bn (fun e=>by cases e) fun _=>aj (fun e=>f (by rw[if_neg (by omega)])) fun t=>⟨a,rfl,s,m.cell rfl,aj (fun e=>f ?_) fun e2=>?_⟩)
 ·rw[if_pos (by omega),qg,qX (by omega)];rfl
 ·refine⟨a,rfl,s,m.cell rfl,k.get i.toNat (by omega) (by omega) fun r n=>?_⟩;have g:i.toNat<d.l.length:=by omega
  have:=q _ (qn g);refine(ie r _ h n).mono ?_;rintro _ u ⟨j,rfl,p⟩;rw[if_pos (by omega),getD_lt g];exact⟨j,rfl,j,rfl,p⟩
theorem CH(l:Sl)(a:Cells)(h:Heap)(f:fC h l 1 av a)(x:a.length<=2^20)(q:∀c∈a,c.length<=2^20):ab vV 188 #[l] h fun v h'=>∃r:Sl,v=r/\Sp h h' [dJ r a]:=by
 refine Hq l ?_;unfold BB;have o:=f.len;refine aA (fun t:Sl×Nat=>(t.1,(t.2:Int))) (fun t h'=>t.2<=a.length/\Sp h h' [dJ t.1 (a.take t.2)]) (fun t=>a.length-t.2) (⟨none,0,0⟩,0) rfl ⟨by simp,by simpa using(Sp.refl h).Cf 31 5 1 av⟩ ?_;rintro⟨s,i⟩ p ⟨w,d⟩;dsimp only at*;refine aj (fun e=>?_) (fun e=>?_)
 ·have b:i<a.length:=by omega
  refine(f.up d.ag).get i rfl b fun r j=>?_;have:=q _ (qn b);refine(ie r _ p j).mono ?_;rintro _ u ⟨n,rfl,g⟩;refine⟨n,rfl,?_⟩;refine aa.Dn af (d.comp g) iQ (by simp;omega) fun m h3 k=>?_;refine⟨(m,i+1),by dsimp only;rw[ak _];rfl,⟨by dsimp only;omega,?_⟩,by dsimp only;omega⟩;dsimp only;rw[aO _ _ b];exact k
 ·rw[qj (by omega)]at d;exact⟨s,rfl,d⟩
theorem RD(s b:Sl)(f:bV h a 74 (eC pw d s b))(j:fC h s 1 av d.l)(ok:dA d):ab vV 121 #[vN (some a)] h fun v h'=>∃r:Sl,v=r/\Sp h h' [dJ r d.l]:=by
 refine uW (some a) ?_;unfold nT;have:=ok.len;have:=ok.room;refine bn (fun e=>by cases e) fun _=>⟨a,rfl,s,f.cell rfl,(CH s d.l h j (by omega) fun c i=>by rw[ok.cell c i];decide).mono ?_⟩
 rintro _ k ⟨r,rfl,g⟩;exact⟨r,rfl,r,rfl,g⟩
end
theorem RE(b:Sl)(l:aQ)(h:Heap)(q:Rd h b 1 av l)(B:l.length<=2^40):ab vV 193 #[b] h fun v h'=>v=vL vT (gT l).toNat/\h'=h:=by
 refine KP b ?_;unfold Gy;have A:=q.len;refine aA (fun t:Nat=>(((fK (l.take t)).toNat:Int),(t:Int))) (fun t h'=>t<=l.length/\h'=h) (fun t=>l.length-t) 0 rfl ⟨by omega,rfl⟩ ?_;rintro i x ⟨E,rfl⟩;refine aj (fun e=>?_) (fun e=>?_)
 ·have d:i<l.length:=by
   have r:(i:Int)<(b.len:Int):=e;omega
  refine q.cA i rfl d (l[i].toNat:Int) rfl ?_;have y:qc vT (l[i].toNat:Int)=((zC 32 l[i].toNat).toNat:Int):=by rw[Gg,wi]
  rw[y,AM];refine aA (fun k:Nat=>(((cG k (fK (l.take i)^^^zC 32 l[i].toNat)).toNat:Int),(k:Int))) (fun k h'=>k<=8/\h'=x) (fun k=>8-k) 0 rfl ⟨by omega,rfl⟩ ?_;rintro k p ⟨D,rfl⟩;obtain⟨c,o⟩:∃c,c=cG k (fK (l.take i)^^^zC 32 l[i].toNat):=⟨_,rfl⟩
  dsimp only;rw[<-o];refine aj (fun e2=>⟨by decide,?_⟩) (fun e2=>?_)
  ·have a:∀n:ga,n=fD c->∃f:Nat,(((n.toNat:Nat):Int),qc vR ((k:Int)+1))=(((cG f (fK (l.take i)^^^zC 32 l[i].toNat)).toNat:Int),(f:Int))/\(f<=8/\p=p)/\8-f<8-k:=fun n w=>
    ⟨k+1,by rw[ak _,w,o];rfl,⟨by omega,rfl⟩,by omega⟩
   have s:qc vT ((qq (qf vT) (c.toNat:Int)&&&qq (qf vT) (1:Int)).toNat:Nat)=((c&&&1#32).toNat:Int):=SP c 1#32;have z:qc vT ((qq (qf vT) ((c>>>1).toNat:Int)^^^qq (qf vT) (3988292384:Int)).toNat:Nat)=(((c>>>1)^^^3988292384#32).toNat:Int):=AM (c>>>1) 3988292384#32;rw[s,LO,z];refine bt (fun g=>a _ ?_) (fun g=>a _ ?_)
   ·unfold fD;rw[if_pos ((AN c).1 g)]
   ·unfold fD;rw[if_neg (fun u=>g ((AN c).2 u))]
  ·have j:k=8:=by omega
   subst j;refine⟨i+1,?_,⟨by omega,rfl⟩,by omega⟩;rw[ak _,aO _ _ d,Dr,o];rfl
 ·have m:i=l.length:=by
   have r:¬(i:Int)<(b.len:Int):=e;omega
  subst m;refine⟨?_,rfl⟩;rw[za];exact congrArg (Value.int .u32) (AM 4294967295#32 (fK l))
theorem xX(kind:Int)(b:Sl)(l:aQ)(h:Heap)(z:Rd h b 1 av l)(O:l.length<=2^40:=by omega):ab vV 125 #[vL vR kind,b] h fun v h'=>∃r:Sl,v=r/\Sp h h' [ao 5 r 1 av (cb kind l)]:=by
 refine Ji kind b ?_;unfold DM;have M:=z.len;have f:¬(1<=kind/\kind<=255/\l.length<=55)->∃r:Sl,Value.slice none 0 0=vM r.ptr r.len r.cap/\Sp h h [ao 5 r 1 av (cb kind l)]:=fun e=>by
  unfold cb;rw[if_neg e];exact⟨⟨none,0,0⟩,rfl,(Sp.refl h).nil 5 1 av⟩
 refine aP (aj (fun e=>f (by omega)) fun P=>aj (fun e=>f (by omega)) fun e2=>aj (fun e=>f (by omega)) fun N=>?_);refine(Sp.refl h).make af av fv (by decide) 0 rfl rfl 64 64 rfl rfl (qt _) (by decide) fun o x k s B=>?_;rw[bX];refine B.lit af av fv rfl [87,115,1,b8 kind] rfl (show 4*1<=2^20 by decide) rfl fun v3 h3 w=>?_;refine w.Dj af 0 rfl fv (fun _=>rfl) (w.seq 1 rfl fun _=>rfl) dN fun _ q j=>⟨⟨by decide,by rw[k];decide⟩,?_⟩
 have j:Sp h q [ao 5 o 1 av ([87,115,1,b8 kind]++qi 60 0)]:=by
  have:=j.cL [0];simpa using this
 refine j.IC af 0 rfl fv (fun _=>rfl) (Seq.up z j.ag) dN 4 (by simp) rfl rfl fun _ y t=>⟨⟨by decide,by rw[s];decide⟩,?_⟩
 have F:([87,115,1,b8 kind]++qi 60 0).take 4++(l.take (([87,115,1,b8 kind]++qi 60 (0:UInt8)).length-4)++([87,115,1,b8 kind]++qi 60 0).drop (4+l.length))=ci kind l++qi 5 0:=by
  have K:([87,115,1,b8 kind]++qi 60 (0:UInt8)).length=64:=by simp
  rw[K,qj (l:=l) (by omega),<-zo];have x:([87,115,1,b8 kind]++qi 60 (0:UInt8)).drop 4=qi 60 0:=rfl;have h3:([87,115,1,b8 kind]++qi 60 (0:UInt8)).take 4=[87,115,1,b8 kind]:=rfl;rw[x,h3,List.drop_replicate];unfold ci;have q:qi (60-l.length) (0:UInt8)=qi (55-l.length) 0++qi 5 0:=by rw[List.replicate_append_replicate];congr 1;omega
  rw[q];simp[qm]
 rw[F]at t;have a:(ci kind l).length=59:=lu (by omega);have D:Rd y ⟨o.ptr,59,o.cap⟩ 1 av (ci kind l):=by
  have:=(t.seq 0 rfl fun _=>rfl).take 59 (by simp[a]);rw[zE (by omega),qj (by omega)]at this;exact this
 refine(RE ⟨o.ptr,59,o.cap⟩ (ci kind l) y D (by omega)).mono ?_;rintro _ L ⟨rfl,rfl⟩;obtain⟨c,A⟩:∃c,c=gT (ci kind l):=⟨_,rfl⟩
 rw[<-A];refine⟨_,rfl,?_⟩;refine aA (fun i:Nat=>(i:Int)) (fun i h'=>i<=4/\Sp h h' [ao 5 o 1 av (ci kind l++((hJ c).take i++qi (5-i) 0))]) (fun i=>4-i) 0 rfl ⟨by omega,by simpa using t⟩ ?_;rintro i R ⟨Q,u⟩;have d:=tf c;refine aj (fun e=>?_) (fun e=>?_)
 ·have I:i<4:=by
   have H:(i:Int)<4:=e;omega
  rw[ak ((8:Int)*i),ak ((59:Int)+i)];refine⟨by omega,?_⟩;have E:((8:Int)*(i:Int)).toNat=8*i:=by omega
  have G:min (8*i) (qf vT)=8*i:=by
   have:qf vT=32:=rfl;omega
  rw[E,G,bX];have J:b8 (qD (c.toNat:Int) (2^(8*i)))=(hJ c)[i]'(by omega):=by simp[hJ]
  rw[J];refine u.set af 0 rfl (fun _=>rfl) rfl (59+i) (by omega) (by simp[a];omega) ((hJ c)[i]'(by omega)) rfl rfl rfl fun h8 g=>?_;refine⟨i+1,by rw[ak _];rfl,⟨by omega,?_⟩,by omega⟩;have p:(ci kind l++((hJ c).take i++qi (5-i) 0)).set (59+i) ((hJ c)[i]'(by omega))=ci kind l++((hJ c).take (i+1)++qi (5-(i+1)) 0):=by
   rw[qY _ _ (by omega),a,zd,qY _ _ (by simp;omega),aO _ _];have:5-i=(5-(i+1))+1:=by omega
   rw[this,yN];simp[d,Nat.min_eq_left (show i<=4 by omega)];rw[aO _ _ (show i<(hJ c).length by omega),qm];rfl
  rw[p]at g;exact g
 ·have m:i=4:=by
   have H:¬(i:Int)<4:=e;omega
  subst m;refine u.set af 0 rfl (fun _=>rfl) rfl 63 rfl (by simp[a,d]) 165 rfl rfl rfl fun h8 g=>⟨o,rfl,?_⟩
  have n:(ci kind l++((hJ c).take 4++qi (5-4) 0)).set 63 165=cb kind l:=by
   unfold cb;rw[if_pos ⟨by omega,by omega,by omega⟩,<-A,qj (by omega),qY _ _ (by omega),a,qY _ _ (by simp[d])];simp[d]
  rw[n]at g;exact g
end Go.Qw
namespace Go.Vc
open Go Wl
abbrev dt:=ByteArray×Int×Int×Sl
abbrev bZ:=Int×Int×Int×Int×Int×Int×Sl×Sl
abbrev bI(x:dt):aM:=[vO x.1,vL vR x.2.1,vL vR x.2.2.1,x.2.2.2]
abbrev aY(x:bZ):aM:=[vL vR x.1,vL vR x.2.1,vL vR x.2.2.1,vL vR x.2.2.2.1,vL vR x.2.2.2.2.1,vL vR x.2.2.2.2.2.1,x.2.2.2.2.2.2.1,x.2.2.2.2.2.2.2]
abbrev fP(x:bZ):Value:=vQ #[vL vR x.1,vL vR x.2.1,vL vR x.2.2.1,vL vR x.2.2.2.1,vL vR x.2.2.2.2.1,vL vR x.2.2.2.2.2.1,x.2.2.2.2.2.2.1,x.2.2.2.2.2.2.2]
def kE:ja dt Wl.ca:=⟨fun h q a b=>(a.1=b.name/\a.2.1=b.object/\a.2.2.1=b.length)/\Seq h q a.2.2.2 1 aG b.tries,fun a d=>⟨a.1,a.2.ag d⟩,fun a c=>⟨a.1,a.2.mono c⟩⟩
abbrev oz:ja Sl (List Wl.ca):=cP kE 4 bI
structure oo (h:Heap) (q:ap) (x:bZ) (m:aC):Prop where
 seq:x.1=m.seq
 next:x.2.1=m.next
 p:(x.2.2.1,x.2.2.2.1,x.2.2.2.2.1)=m.p
 extra:x.2.2.2.2.2.1=m.extra
 drives:Seq h q x.2.2.2.2.2.2.1 1 aG m.drives
 aF:oz.p h q x.2.2.2.2.2.2.2 m.aF
 dcap:x.2.2.2.2.2.2.1.len<=x.2.2.2.2.2.2.1.cap
 ocap:x.2.2.2.2.2.2.2.len<=x.2.2.2.2.2.2.2.cap
abbrev fk(h:Heap)(x:bZ)(m:aC):Prop:=oo h (fun b=>b<h.size) x m
theorem oo.ag{h b:Heap}{q:ap}{x:bZ}{m:aC}(a:oo h q x m)(c:aH q h b):oo b q x m:=⟨a.seq,a.next,a.p,a.extra,a.drives.ag c,oz.loc a.aF c,a.dcap,a.ocap⟩
theorem oo.mono{h:Heap}{q q':ap}{x:bZ}{m:aC}(a:oo h q x m)(c:∀b,q b->q' b):oo h q' x m:=⟨a.seq,a.next,a.p,a.extra,a.drives.mono c,oz.mono a.aF c,a.dcap,a.ocap⟩
theorem fk.up{h c:Heap}{x:bZ}{m:aC}(a:fk h x m)(d:aH (fun b=>b<h.size) h c):fk c x m:=(oo.ag a d).mono fun _ e=>qG e d.1
def fa(x:bZ)(m:aC):HP:=⟨fun h q=>oo h q x m,fun a c=>a.ag c,fun a b=>a.mono b⟩
theorem LZ:∀x,∀c∈bI x,c.oneCell'=true:=by intro x c a;simp[bI]at a;rcases a with rfl|rfl|rfl|rfl<;>rfl
end Go.Vc
namespace Go.Qw
open Go Go.Vc Go.Proofs Wl
theorem mF(n a b:Int)(h:Heap):ab vV 179 #[vL vR n,vL vR a,vL vR b] h fun v h'=>v=vP (dE n a b)/\h'=h:=by
 refine DU n a b ?_;unfold uJ dE;refine aj (fun e=>⟨?_,rfl⟩) (fun e=>⟨?_,rfl⟩)
 ·rw[decide_eq_true (show a<=n from e)];rfl
 ·rw[decide_eq_false (show¬a<=n from e)];rfl
theorem GH(s:ByteArray)(h:Heap)(E:s.size<=2^40):ab vV 136 #[vO s] h fun v h'=>v=vP (gH s)/\Sp h h' []:=by
 refine Hn s ?_;unfold By;refine TX af ⟨_,rfl,rfl⟩ ⟨_,rfl,rfl⟩ ⟨_,rfl,rfl⟩ s fun r D n=>?_;have u:=n.rd 0 rfl;have y:=u.len;have B:=tg s;refine aA (fun i:Nat=>(i:Int)) (fun i h'=>i<=s.size/\h'=D/\∀c∈(fW s).take i,jz c=true) (fun i=>s.size-i) 0 rfl ⟨by omega,rfl,by simp⟩ ?_;rintro i o ⟨F,rfl,b⟩;refine aj (fun e=>?_) (fun e=>?_)
 ·have g:i<(fW s).length:=by
   have A:(i:Int)<(r.len:Int):=e;omega
  refine u.cA i rfl g ((fW s)[i].toNat:Int) rfl ?_;obtain⟨c,t⟩:∃c,c=(fW s)[i]:=⟨_,rfl⟩
  rw[<-t];have lX:jz c=true->∃m:Nat,qc vR ((i:Int)+1)=(m:Int)/\(m<=s.size/\o=o/\∀c∈(fW s).take m,jz c=true)/\s.size-m<s.size-i:=fun p=>
   ⟨i+1,by rw[ak _];rfl,⟨by omega,rfl,fun x j=>by
    rw[aO _ _ g]at j;rcases qE.1 j with j|j
    ·exact b x j
    ·rw[qB.1 j,<-t];exact p⟩,by omega⟩
  have f:jz c=false->Value.bool false=vP (gH s)/\Sp h o []:=fun p=>by
   refine⟨?_,n.cL []⟩;unfold gH;have:s.data.toList.all jz=false:=y8.2 ⟨c,by rw[t];exact qn g,by rw[p];simp⟩;rw[this];rfl
  have a:jz c=true↔((97<=(c.toNat:Int)/\(c.toNat:Int)<=122)∨(48<=(c.toNat:Int)/\(c.toNat:Int)<=57)∨(c.toNat:Int)=45):=by
   unfold jz;simp[or_assoc];omega
  have d:jz c=false↔¬((97<=(c.toNat:Int)/\(c.toNat:Int)<=122)∨(48<=(c.toNat:Int)/\(c.toNat:Int)<=57)∨(c.toNat:Int)=45):=by
   rw[<-a];cases jz c<;>simp
  refine aj (fun q=>aj (fun e2=>cq (fun k=>f (d.2 (by omega))) fun k=>lX (a.2 (by omega))) fun e2=>aj (fun k=>cq (fun l=>f (d.2 (by omega))) fun l=>lX (a.2 (by omega))) fun k=>lX (a.2 (by omega))) fun q=>aj (fun e2=>aj (fun k=>cq (fun l=>f (d.2 (by omega))) fun l=>lX (a.2 (by omega))) fun k=>aj (fun l=>cq (fun z=>f (d.2 (by omega))) fun z=>lX (a.2 (by omega))) fun l=>lX (a.2 (by omega))) fun e2=>lX (a.2 (by omega))
 ·have A:¬(i:Int)<(r.len:Int):=e;rw[qj (by omega)]at b;have w:s.data.toList.all jz=true:=qT.2 b;refine aj (fun q=>⟨?_,n.cL []⟩) (fun q=>⟨?_,n.cL []⟩)
  ·unfold gH;rw[w,decide_eq_true (show 1<=s.size by omega)];congr 1;simp;omega
  ·unfold gH;rw[w,decide_eq_false (show¬1<=s.size by omega)];rfl
theorem Pq(s:Sl)(l:aB)(a:Int)(h:Heap)(p:Rd h s 1 aG l)(x:l.length<=2^40):ab vV 180 #[s,vL vR a] h fun v h'=>v=vP (ly l a)/\h'=h:=by
 refine Hp s a ?_;unfold BA;have w:=p.len;refine aA (fun i:Nat=>(i:Int)) (fun i h'=>i<=l.length/\h'=h/\∀j,j<i->gz l a j=true) (fun i=>l.length-i) 0 rfl ⟨by omega,rfl,by omega⟩ ?_;rintro i k ⟨y,rfl,b⟩;refine aj (fun e=>?_) (fun e=>?_)
 ·have c:i<l.length:=by
   have t:(i:Int)<(s.len:Int):=e;omega
  refine p.cA i rfl c l[i] rfl ?_;have n:l.getD i 0=l[i]:=getD_lt c;have f:gz l a i=false->Value.bool false=vP (ly l a)/\k=k:=fun o=>⟨by unfold ly;rw[xj c o],rfl⟩
  have lX:gz l a i=true->∃m:Nat,qc vR ((i:Int)+1)=(m:Int)/\(m<=l.length/\k=k/\∀j,j<m->gz l a j=true)/\l.length-m<l.length-i:=fun o=>
   ⟨i+1,by rw[ak _];rfl,⟨by omega,rfl,fun j r=>by
    by_cases q:j=i
    ·rw[q];exact o
    ·exact b j (by omega)⟩,by omega⟩
  refine(mF l[i] 0 a k).mono ?_;rintro _ _ ⟨rfl,rfl⟩;refine⟨_,rfl,bf (fun g=>f (by unfold gz;rw[n,g];rfl)) fun g=>aj (fun e2=>?_) fun e2=>lX (by unfold gz;rw[n,g,decide_eq_true (show i=0 by omega)];rfl)⟩;rw[ak ((i:Int)-1)];refine p.cA (i-1) (by omega) (by omega) (l[i-1]'(by omega)) rfl ?_;have d:l.getD (i-1) 0=l[i-1]'(by omega):=getD_lt (by omega);refine aj (fun u=>f ?_) (fun u=>lX ?_)
  ·unfold gz;rw[n,d,g,decide_eq_false (show¬i=0 by omega),decide_eq_false (by omega)];rfl
  ·unfold gz;rw[n,d,g,decide_eq_true (show l[i-1]'(by omega)<l[i]by omega)];simp
 ·have t:¬(i:Int)<(s.len:Int):=e;exact⟨by unfold ly;rw[nL fun j r=>b j (by omega)],rfl⟩
theorem tW(p:Pm)(n:Int)(h:Heap)(r:n<=2^40:=by omega):ab vV 83 #[jH p,vL vR n] h fun v h'=>v=vL vR (countP p n)/\Sp h h' []:=by
 refine DG p n ?_;unfold uz;refine(Sp.refl h).boxed fun q g d=>?_;refine aP ⟨p,(d.box 0 rfl).aI _ rfl,(dO p g).mono ?_⟩;rintro _ k ⟨rfl,i⟩;have b:=d.up i.ag;refine⟨_,rfl,bf (fun e=>⟨?_,b.cL []⟩) fun f=>aj (fun e=>⟨?_,b.cL []⟩) fun e=>?_⟩
 ·unfold countP;rw[e];rfl
 ·unfold countP;rw[decide_eq_false (show¬0<n by omega),Bool.and_false];rfl
 ·have l:=(bS p).1 f;refine⟨p,(b.box 0 rfl).aI _ rfl,?_⟩;refine(sj p (R:=fun v h'=>v=vL vR (p.1*p.2.2)/\Sp h h' []) ?_).mono ?_
  ·unfold oZ;refine b.boxed fun m h3 c=>⟨p.1,(c.box 1 rfl).cell0 rfl,p.2.2,(c.box 1 rfl).cell rfl,?_,c.cL []⟩
   have o:p.1*p.2.2<=16*24:=yt (by omega) (by omega) (by omega) (by omega);have a:0<=p.1*p.2.2:=ve (by omega) (by omega);rw[ak _]
  ·rintro _ h3 ⟨rfl,j⟩;have a:0<p.1*p.2.2:=Int.mul_pos (by omega) (by omega);refine⟨_,rfl,Int.ne_of_gt a,?_,j⟩;have g:(n-1)/(p.1*p.2.2)<=n-1:=Int.ediv_le_self _ (by omega);have k:0<=(n-1)/(p.1*p.2.2):=vo (by omega) (by omega);rw[ak (n-1),Int.tdiv_eq_ediv_of_nonneg (by omega),ak ((n-1)/(p.1*p.2.2)),ak _];unfold countP;rw[f,decide_eq_true (show 0<n by omega)];rfl
theorem KV(s:Sl)(l:aB)(h:Heap)(d:Rd h s 1 aG l)(k:l.length<=2^40):ab vV 109 #[s,.func (.func 237) #[] #[]] h fun v h'=>v=vP (!l.all (dE · 0 15))/\h'=h:=by
 refine gM s (237,#[],#[]) ?_;unfold fw;have j:=d.len;refine(iA s (237,#[],#[]) (R:=fun v h'=>(∃i:Int,v=vL vR i/\(decide (i>=0)=!l.all (dE · 0 15)))/\h'=h) ?_).mono ?_
 ·unfold fY;refine aA (fun i:Nat=>(i:Int)) (fun i h'=>i<=l.length/\(l.take i).all (dE · 0 15)=true/\h'=h) (fun i=>l.length-i) 0 rfl ⟨by omega,by simp,rfl⟩ ?_;rintro i c ⟨f,a,rfl⟩;refine aj (fun e=>?_) (fun e=>?_)
  ·have b:i<l.length:=by
    have g:(i:Int)<(s.len:Int):=e;omega
   refine d.cA i rfl b l[i] rfl (fZ (by rfl) ?_);refine(CA l[i] (R:=fun v h'=>v=vP (!dE l[i] 0 15)/\h'=c) ?_).mono ?_
   ·unfold ss;refine(mF l[i] 0 15 c).mono ?_;rintro _ _ ⟨rfl,rfl⟩;exact⟨_,rfl,rfl,rfl⟩
   ·rintro _ _ ⟨rfl,rfl⟩;refine⟨_,rfl,bf (fun e2=>?_) (fun e2=>?_)⟩
    ·refine⟨⟨i,rfl,?_⟩,rfl⟩;rw[decide_eq_true (show(i:Int)>=0 by omega)];have:l.all (dE · 0 15)=false:=y8.2 ⟨_,qn b,by rw[e2];simp⟩;rw[this];rfl
    ·refine⟨i+1,by rw[ak _];rfl,⟨by omega,?_,rfl⟩,by omega⟩;rw[aO _ _ b,List.all_append,a];simp[e2]
  ·have g:¬(i:Int)<(s.len:Int):=e;refine⟨⟨-1,rfl,?_⟩,rfl⟩;rw[qj (by omega)]at a;rw[a];rfl
 ·rintro _ c ⟨⟨i,rfl,f⟩,rfl⟩;exact⟨i,rfl,by rw[f],rfl⟩
end Go.Qw
namespace Wl
structure dB (m:aC):Prop where
 dr:m.drives.length<=2^30
 ob:m.aF.length<=2^30
 nm:∀e∈m.aF,e.name.size<=2^30/\e.tries.length<=2^30
end Wl
namespace Go.Vc
open Go
theorem addr_add(a:Addr)(i j:Nat):(a.add i).add j=a.add (i+j):=by
 unfold Addr.add;by_cases c:i=0<;>by_cases b:j=0<;>simp[c,b,w5]
theorem bV.at2{h:Heap}{a:Addr}{e:TypeId}{b:aM}{v:Value}(d:bV h a e b)(i j:Nat)(c:b[i+j]?=some v):cellOf h ((a.add i).add j)=some v:=by
 rw[addr_add];exact d.cell c
theorem bV.ra{h:Heap}{a:Addr}{e:TypeId}{b:aM}{u v w:Value}(c:bV h a e b)(i:Nat)(f:b[i]?=some u)(g:b[i+1]?=some v)(d:b[i+2]?=some w):ah h (a.add i) 0 [u,v,w]:=
 ⟨c.at2 i 0 f,c.at2 i 1 g,c.at2 i 2 d,trivial⟩
end Go.Vc
namespace Go.Qw
open Go Go.Vc Go.Proofs Wl
abbrev RF:bP C.torQ 86 123 4 [vO ⟨#[]⟩,vL vR 0,vL vR 0,vM none 0 0] 56:=⟨_,_,rfl,rfl,rfl,rfl,rfl,rfl⟩
theorem Nf(x:bZ)(m:aC)(e:dt)(E:Wl.ca)(h:Heap)(l:fk h x m)(y:js kE h e E)(G:ir m=true)(Q:E.name.size<=2^30)(L:E.tries.length<=2^30):
  ab vV 181 #[fP x,vQ #[vO e.1,vL vR e.2.1,vL vR e.2.2.1,e.2.2.2]] h fun v h'=>v=vP (fE m E)/\Sp h h' []:=by
 refine Fx x e ?_;unfold xI;obtain⟨_,A,d,_⟩:=IE G;have I:=(bS m.p).1 d;obtain⟨⟨J,e2,t⟩,w⟩:=y;have c:x.2.2.1=m.p.1:=congrArg (·.1) l.p;have n:x.2.2.2.1=m.p.2.1:=congrArg (·.2.1) l.p;have f:x.2.2.2.2.1=m.p.2.2:=congrArg (·.2.2) l.p;have O:m.p.1*m.p.2.2<=16*24:=yt (by omega) (by omega) (by omega) (by omega);have B:0<=m.p.1*m.p.2.2:=ve (by omega) (by omega);refine(Sp.refl h).boxed fun N R F=>?_;refine F.boxed fun M D r=>?_;have i:∀{h':Heap} {As:List HP},Sp h h' As->fE m E=false->Value.bool false=vP (fE m E)/\Sp h h' []:=fun{h' As} H' g=>⟨by rw[g],.zip H'.ag⟩
 refine aP ⟨E.name,by rw[<-J];exact(r.box 1 rfl).cell0 rfl,(GH E.name D (by omega)).mono ?_⟩;rintro _ h3 ⟨rfl,z⟩;have a:=r.up z.ag;refine⟨_,rfl,bf (fun b=>i a (by unfold fE;rw[b];rfl)) fun j=>?_⟩;refine⟨E.object,by rw[<-e2];exact(a.box 1 rfl).cell rfl,m.next,by rw[<-l.next];exact(a.box 0 rfl).cell rfl,?_⟩;rw[ak (m.next-1)];refine(mF E.object 0 (m.next-1) h3).mono ?_;rintro _ _ ⟨rfl,rfl⟩;refine⟨_,rfl,bf (fun b=>i a (by unfold fE;rw[j,b];rfl)) fun o=>?_⟩;have g:=a.box 0 rfl;refine⟨E.length,by rw[<-t];exact(a.box 1 rfl).cell rfl,m.p.1,by rw[<-c];exact g.cell rfl,m.p.2.2,by rw[<-f];exact g.at2 2 2 rfl,?_⟩;rw[ak (m.p.1*m.p.2.2),ak (m.p.1*m.p.2.2*8)];refine(mF E.length 0 (m.p.1*m.p.2.2*8) _).mono ?_;rintro _ _ ⟨rfl,rfl⟩;refine⟨_,rfl,bf (fun b=>i a (by unfold fE;rw[j,o,b];rfl)) fun k=>?_⟩;have s:0<=E.length/\E.length<=m.p.1*m.p.2.2*8:=by unfold dE at k;simpa using k
 refine⟨e.2.2.2,(a.box 1 rfl).cell rfl,?_⟩;refine(KV e.2.2.2 E.tries _ (Seq.up w a.ag) (by omega)).mono ?_;rintro _ _ ⟨rfl,rfl⟩;refine⟨_,rfl,bf (fun b=>?_) (fun b=>⟨trivial,i a ?_⟩)⟩
 ·have q:E.tries.all (dE · 0 15)=true:=by simpa using b
  refine⟨e.2.2.2,(a.box 1 rfl).cell rfl,m.p,?_,E.length,by rw[<-t];exact(a.box 1 rfl).cell rfl,?_⟩
  ·rw[<-c,<-n,<-f];exact g.ra 2 rfl rfl rfl
  ·refine(tW m.p E.length _).mono ?_;rintro _ P ⟨rfl,K⟩;have u:=a.up K.ag;refine⟨_,rfl,⟨(u.box 1 rfl).cell rfl,trivial⟩,?_,.zip u.ag⟩;unfold fE;have H:=w.len;rw[j,o,k,q,H];simp;rfl
 ·have q:E.tries.all (dE · 0 15)=false:=by simpa using b
  unfold fE;rw[j,o,k,q];rfl
theorem KW(a:Addr)(e:dt)(l:Sl)(b:List Wl.ca)(h:Heap)(q:bV h a 123 (bI e))(o:js oz h l b)(F:b.length<=2^30):
  ab vV 182 #[l,.func (.func 183) #[] #[vN (some a)]] h fun v h'=>v=vP (b.any fun y=>decide (y.object=e.2.1))/\Sp h h' []:=by
 refine eF l (183,#[],#[vN (some a)]) ?_;unfold df;refine(fi l (183,#[],#[vN (some a)]) (R:=fun v h'=>(∃i:Int,v=vL vR i/\(decide (i>=0)=b.any fun y=>decide (y.object=e.2.1)))/\Sp h h' []) ?_).mono ?_
 ·unfold dH;obtain⟨p,B,E,A⟩:=cP.Dk o;have z:=cP.len o;refine aA (fun i:Nat=>(i:Int)) (fun i h'=>i<=b.length/\(b.take i).any (fun y=>decide (y.object=e.2.1))=false/\Sp h h' []) (fun i=>b.length-i) 0 rfl ⟨by omega,by simp,Sp.refl h⟩ ?_;rintro i m ⟨r,c,j⟩;refine aj (fun k=>?_) (fun k=>?_)
  ·have d:i<b.length:=by
    have u:(i:Int)<(l.len:Int):=k;omega
   obtain⟨⟨_,t,_⟩,_⟩:=A i (by omega) d;refine(Seq.up B j.ag).fF (g:=bI) i rfl (by omega) (p[i]'(by omega)) rfl (fZ (by rfl) ?_);refine(Fy (p[i]'(by omega)) a (R:=fun v h'=>v=vP (b[i].object==e.2.1)/\Sp m h' []) ?_).mono ?_
   ·unfold xJ;refine(Sp.refl m).boxed fun D w f=>?_;have n:=q.ag (up j.ag f.ag) q.lt;exact⟨b[i].object,by rw[<-t];exact(f.box 0 rfl).cell rfl,e.2.1,n.cell rfl,rfl,.zip f.ag⟩
   ·rintro _ w ⟨rfl,s⟩;have f:=j.up s.ag;refine⟨_,rfl,bt (fun e2=>?_) (fun e2=>?_)⟩
    ·refine⟨⟨i,rfl,?_⟩,f⟩;rw[decide_eq_true (show(i:Int)>=0 by omega)];exact(yK.2 ⟨_,qn d,by simpa using e2⟩).symm
    ·refine⟨i+1,by rw[ak _];rfl,⟨by omega,?_,f⟩,by omega⟩;rw[aO _ _ d,vp,c];simpa using e2
  ·have u:¬(i:Int)<(l.len:Int):=k;refine⟨⟨-1,rfl,?_⟩,j⟩;rw[qj (by omega)]at c;rw[c];rfl
 ·rintro _ m ⟨⟨i,rfl,r⟩,x⟩;exact⟨i,rfl,by rw[r],x⟩
theorem RG(x:bZ)(m:aC)(h:Heap)(k:fk h x m)(Q:dB m):ab vV 105 #[fP x] h fun v h'=>v=vP (bN m)/\Sp h h' []:=by
 refine Jg x ?_;unfold DI;refine(Sp.refl h).boxed fun O h1 G=>?_;have s:=G.box 0 rfl;have I:x.2.2.1=m.p.1:=congrArg (·.1) k.p;have R:x.2.2.2.1=m.p.2.1:=congrArg (·.2.1) k.p;have S:x.2.2.2.2.1=m.p.2.2:=congrArg (·.2.2) k.p;have w:∀{h':Heap} {As:List HP},Sp h h' As->bN m=false->Value.bool false=vP (bN m)/\Sp h h' []:=fun{h' As} H' s=>⟨by rw[s],.zip H'.ag⟩
 refine aP ⟨m.seq,by rw[<-k.seq];exact s.cell0 rfl,(mF m.seq 1 2147483647 h1).mono ?_⟩;rintro _ _ ⟨rfl,rfl⟩;refine⟨_,rfl,bf (fun b=>w G (by unfold bN ir;rw[b];rfl)) fun F=>?_⟩;refine⟨m.next,by rw[<-k.next];exact s.cell rfl,(mF m.next 0 16777216 _).mono ?_⟩;rintro _ _ ⟨rfl,rfl⟩;refine⟨_,rfl,bf (fun b=>w G (by unfold bN ir;rw[F,b];rfl)) fun J=>?_⟩;refine⟨m.p,by rw[<-I,<-R,<-S];exact s.ra 2 rfl rfl rfl,(dO m.p _).mono ?_⟩;rintro _ h2 ⟨rfl,R2⟩;have q:=G.up R2.ag;refine⟨_,rfl,bf (fun b=>w q (by unfold bN ir;rw[F,J,b];rfl)) fun X=>?_⟩;refine⟨m.extra,by rw[<-k.extra];exact(q.box 0 rfl).cell rfl,(mF m.extra 0 16 _).mono ?_⟩;rintro _ _ ⟨rfl,rfl⟩;refine⟨_,rfl,bf (fun b=>w q (by unfold bN ir;rw[F,J,X,b];rfl)) fun b4=>?_⟩;have H:ir m=true:=by unfold ir;rw[F,J,X,b4];rfl
 have M:=k.up q.ag;have z:=q.box 0 rfl;have ax:=Q.dr;have al:=Q.ob;refine aP ⟨_,z.cell rfl,(Pq _ m.drives 63 _ M.drives (by omega)).mono ?_⟩;rintro _ _ ⟨rfl,rfl⟩;refine⟨_,rfl,bf (fun b=>w q (by unfold bN;rw[H,b];rfl)) fun Y=>?_⟩;have ad:=cP.len k.aF;refine⟨x.2.2.2.2.2.2.2,z.cell rfl,aj (fun e=>w q ?_) fun am=>?_⟩
 ·unfold bN;rw[H,Y,decide_eq_false (by omega)];rfl
 have U:m.aF.length<=12:=by omega
 refine⟨x.2.2.2.2.2.2.2,z.cell rfl,?_⟩;obtain⟨l,D⟩:=cP.fix k.aF;have ay:=D.2.1;refine aA (fun i:Nat=>(i:Int)) (fun i h'=>i<=m.aF.length/\(∀j,j<i->lz m j=true)/\Sp h h' [ai O 88 (aY x)]) (fun i=>m.aF.length-i) 0 rfl ⟨by omega,by omega,q⟩ ?_;rintro i h3 ⟨hi,o,L⟩;refine aj (fun e=>?_) (fun e=>?_)
 ·have c:i<m.aF.length:=by
   have e':(i:Int)<(x.2.2.2.2.2.2.2.len:Int):=e;omega
  have B:=Q.nm _ (qn c);have f:lx m.aF i=m.aF[i]:=kN c;have u:∀{h':Heap} {As:List HP},Sp h h' As->lz m i=false->Value.bool false=vP (bN m)/\Sp h h' []:=fun{h' As} H' s=>w H' (by unfold bN;rw[xj c s];simp);have F3:=mb.up D L.ag;refine F3.1.fF (g:=bI) i rfl (by omega) (l[i]'(by omega)) rfl ?_;refine L.alloc af rfl fun y h4 H4=>?_;refine H4.storeAll af 1 rfl rfl (bI (l[i]'(by omega))) rfl rfl rfl rfl fun h5 A=>?_;have A:Sp h h5 [ai O 88 (aY x),ai y 123 (bI (l[i]'(by omega)))]:=A;have Z:=mb.up D A.ag;obtain⟨⟨y1,y2,y3⟩,y4⟩:=Fix.row Z c;obtain⟨b6,d⟩:∃b,b=(decide (i=0)||dw (lx m.aF (i-1)).name (lx m.aF i).name):=⟨_,rfl⟩
  refine cg (fun _ h'=>fE m m.aF[i]=true/\b6=true/\Sp h h' [ai O 88 (aY x),ai y 123 (bI (l[i]'(by omega)))]) ?_ ?_
  ·refine⟨x,(A.box 0 rfl).aI _ rfl,l[i]'(by omega),(A.box 1 rfl).aI _ rfl,?_⟩;refine(Nf x m (l[i]'(by omega)) m.aF[i] h5 (k.up A.ag) (Fix.row Z c) H B.1 B.2).mono ?_;rintro _ V ⟨rfl,R6⟩;have a:=A.up R6.ag;have E:=mb.up D a.ag;refine⟨_,rfl,trivial,bf (fun b=>u a (by unfold lz;rw[f,b];rfl)) fun b=>aj (fun e2=>?_) fun e2=>⟨b,by rw[d,decide_eq_true (show i=0 by omega)];rfl,a⟩⟩;rw[ak ((i:Int)-1)];obtain⟨T,ha,zz,hc,rfl⟩:=E.1.fF (g:=bI) (i:=(i:Int)-1) (i-1) (by omega) (by omega) (l[i-1]'(by omega)) rfl (K:=fun t=>t=l[i-1]'(by omega)) rfl;refine⟨x.2.2.2.2.2.2.2,(a.box 0 rfl).cell rfl,T,ha,m.aF[i-1].name,?_,m.aF[i].name,?_,?_⟩
   ·rw[<-(Fix.row E (show i-1<m.aF.length by omega)).1.1];exact hc.1
   ·rw[<-y1];exact(a.box 1 rfl).cell0 rfl
   ·have n:lx m.aF (i-1)=m.aF[i-1]:=kN;rw[f,n]at d;refine bf (fun r=>u a ?_) (fun r=>⟨b,?_,a⟩)
    ·unfold lz;rw[f,n,b,decide_eq_false (show¬i=0 by omega)];unfold dw;rw[r];rfl
    ·rw[d];unfold dw;rw[r];simp
  ·rintro _ V ⟨b,N,a⟩;have E:=mb.up D a.ag;refine⟨x.2.2.2.2.2.2.2,(a.box 0 rfl).cell rfl,⟨by omega,by have:=k.ocap;omega⟩,?_⟩;rw[qo];refine(KW y (l[i]'(by omega)) ⟨x.2.2.2.2.2.2.2.ptr,i,x.2.2.2.2.2.2.2.cap⟩ (m.aF.take i) V (a.box 1 rfl) (cP.take E.WL i (by omega)) (by simp;omega)).mono ?_;rintro _ h7 ⟨rfl,R7⟩;have W:=a.up R7.ag;rw[y2];refine⟨_,rfl,bn (fun r=>u W ?_) fun r=>?_⟩
   ·unfold lz;rw[f,r];simp
   ·refine⟨i+1,by rw[ak _];rfl,⟨by omega,fun j hj=>?_,W.cL [0]⟩,by omega⟩;by_cases P:j=i
    ·subst P;rw[N]at d;unfold lz;rw[<-d,f,b,r];rfl
    ·exact o j (by omega)
 ·have e':¬(i:Int)<(x.2.2.2.2.2.2.2.len:Int):=e;refine⟨?_,.zip L.ag⟩;unfold bN;rw[H,Y,decide_eq_true U,nL fun j hj=>o j (by omega)];rfl
section
variable {B:ap} {h0 h:Heap} {As:List HP}
theorem mV(s:Sl)(l:aQ)(n:Int)(k:Nat)(w:k<=4)(r:l.length<=2^20)(H:aa B h0 h (ao 5 s 1 av l::As)):
  ab vV 131 #[s,vL vR n,vL vR k] h fun v h'=>∃b:Sl,v=b/\aa B h0 h' (ao 5 b 1 av (l++bm n k)::As):=by
 refine DN s n k ?_;unfold uD;have m:=bq n k;refine aA (fun t:Sl×Nat=>(t.1,(k:Int)-1-t.2)) (fun t h'=>t.2<=k/\aa B h0 h' (ao 5 t.1 1 av (l++(bm n k).take t.2)::As)) (fun t=>k-t.2) (s,0) (by rw[ak _];simp) ⟨by simp,by simpa using H⟩ ?_;rintro⟨o,j⟩ x ⟨q,a⟩;dsimp only at*;refine aj (fun e=>?_) (fun e=>?_)
 ·have p:j<k:=by omega
  rw[ak ((8:Int)*((k:Int)-1-j))];refine⟨by omega,?_⟩;have f:((8:Int)*((k:Int)-1-j)).toNat=8*(k-1-j):=by omega
  have g:min (8*(k-1-j)) (qf vR)=8*(k-1-j):=by
   have:qf vR=64:=rfl;omega
  rw[f,g,bX];have i:b8 (qD n (2^(8*(k-1-j))))=(bm n k)[j]'(by omega):=by simp[bm]
  rw[i];refine a.push af 0 rfl fv rfl (by decide) (fun _=>rfl) dN ((bm n k)[j]'(by omega)) rfl (by decide) (by simp;omega) fun c u d=>?_;refine⟨(c,j+1),by dsimp only;rw[ak _];congr 1;omega,⟨by dsimp only;omega,?_⟩,by dsimp only;omega⟩;dsimp only;rw[aO _ _ (show j<(bm n k).length by omega),<-qm];exact d
 ·rw[qj (by omega)]at a;exact⟨o,rfl,a⟩
theorem Ek(b:Sl)(l:aB)(o:Sl)(c:aQ)(H:aa B h0 h (ao 5 o 1 av c::As))(r:St B h0 As fun h=>Rd h b 1 aG l)(D:c.length<=2^30)(E:l.length<=2^30){K:Sl×Int->Heap->Prop}
  (y:∀q h',aa B h0 h' (ao 5 q 1 av (c++l.map b8)::As)->K (q,(l.length:Int)) h'):
  aS (σ:=Sl×Int) (fun a z h8=>
 Br (decide (a.2<((b.len:Nat):Int)))
 (∃g:Addr,(b.ptr=some g/\0<=a.2/\a.2<((b.len:Nat):Int))/\
 ∃j:Int,cellOf h8 (g.add (a.2.toNat*1))=some (vL vR j)/\
 aw vV (Instr.buildSlice 31 1 #[(0,(vL vS (qc vS j)))]) (.one (.sc .slc)) h8 fun d w=>
 aw vV (Builtin.append_ #[31,31] 31 #[(vM a.1.ptr a.1.len a.1.cap),(vM d.ptr d.len d.cap)]) (.one (.sc .slc)) w fun f n=>
 z ((⟨f.ptr,f.len,f.cap⟩:Sl),qc vR (a.2+(1:Int))) n)
 (K a h8)) (o,(0:Int)) h:=by
 have x:b.len=l.length:=(r.at [_] H).len;refine aA (fun t:Sl×Nat=>(t.1,(t.2:Int))) (fun t h'=>t.2<=l.length/\aa B h0 h' (ao 5 t.1 1 av (c++(l.take t.2).map b8)::As)) (fun t=>l.length-t.2) (o,0) rfl ⟨by simp,by simpa using H⟩ ?_;rintro⟨u,i⟩ A ⟨G,m⟩;dsimp only at*;refine aj (fun e=>?_) (fun e=>?_)
 ·have k:i<l.length:=by omega
  refine(r.at [_] m).cA i rfl k l[i] rfl ?_;rw[bX];refine m.push af 0 rfl fv rfl (by decide) (fun _=>rfl) dN (b8 l[i]) rfl (by decide) (by simp;omega) fun v F s=>?_;refine⟨(v,i+1),by dsimp only;rw[ak _];rfl,⟨by dsimp only;omega,?_⟩,by dsimp only;omega⟩;dsimp only;rw[aO _ _ k,zi,<-qm];exact s
 ·have p:i=l.length:=by omega
  subst p;rw[za]at m;exact y u A m
end
theorem Uo{m:aC}(a:bN m=true){i:Nat}(b:i<m.aF.length):fE m m.aF[i]=true:=by
 unfold bN at a;simp only[qA]at a;have:=qT.1 a.2.2.2 i (qF.2 b);unfold lz at this;simp only[qA]at this;have c:=this.1
 rwa [kN b]at c
theorem Pr{m:aC}(d:bN m=true){i:Nat}(g:i<m.aF.length):m.aF[i].name.size<=12/\m.aF[i].tries.length<=3073:=by
 have b:=Uo d g;unfold fE gH at b;simp only[qA,decide_eq_true_eq]at b;obtain⟨⟨_,_,e⟩,_,h3,_,c⟩:=b;refine⟨e,?_⟩;obtain⟨_,_,a,_⟩:=IE (OI d);have f:=(bS m.p).1 a;unfold dE at h3;simp only[qA,decide_eq_true_eq]at h3;have j:m.p.1*m.p.2.2<=16*24:=yt (by omega) (by omega) (by omega) (by omega);unfold countP at c;split at c
 ·have:(m.aF[i].length-1)/(m.p.1*m.p.2.2)<=m.aF[i].length-1:=Int.ediv_le_self _ (by rename_i h;simp at h;omega);omega
 ·omega
theorem Ps{m:aC}(a:bN m=true){i:Nat}(b:i<m.aF.length):(gg m.aF[i]).length<=4000:=by
 have:=Pr a b;unfold gg;simp[bq];have:m.aF[i].name.data.size=m.aF[i].name.size:=rfl;omega
theorem xY{m:aC}(a:bN m=true):∀n,n<=m.aF.length->((m.aF.take n).flatMap gg).length<=n*4000
 |0,_=>by simp
 |n+1,hn=>by
  rw[aO _ _ (show n<m.aF.length by omega),q7,qp];have c:=xY a n (by omega);have b:=Ps a (show n<m.aF.length by omega);have h3:([m.aF[n]].flatMap gg).length=(gg m.aF[n]).length:=by rw[zg,wM,qU]
  omega
theorem CI{m:aC}(a:bN m=true):m.aF.length<=12:=by
 unfold bN at a;simp only[qA,decide_eq_true_eq]at a;exact a.2.2.1
theorem CJ(m:aC)(j:dB m):(eT m).length<=100000:=by
 unfold eT;split
 ·rename_i e;have d:=e;unfold bN at d;simp only[qA,decide_eq_true_eq]at d;have k:m.drives.length<=64:=by
   have a:=d.2.1;unfold ly at a;rw[qT]at a;by_cases g:m.drives.length<=64
   ·exact g
   ·exfalso;have f:∀i,i<m.drives.length->(i:Int)<=m.drives.getD i 0:=fun i=>by
     induction i with
     |zero=>
      intro c;have:=a 0 (qF.2 c);unfold gz dE at this;simp at this;simpa using this.1
     |succ i ih=>
      intro c;have:=a (i+1) (qF.2 c);have h3:=ih (by omega);unfold gz dE at this;simp at this;have b:=this.2;simp only[qg]at h3⊢;omega
    have h3:=f 64 (by omega);have b:=a 64 (qF.2 (by omega));unfold gz dE at b;simp at b;simp only[qg]at h3;omega
  have h:(m.aF.flatMap gg).length<=12*4000:=by
   have a:=xY e m.aF.length (qt _);rw[za]at a;have:=ze 4000 (CI e);omega
  simp only[qp,zc,wZ,qC,bq];omega
 ·simp
theorem Pt(x:bZ)(m:aC)(h:Heap)(d:fk h x m)(hz:dB m):ab vV 77 #[fP x] h fun v h'=>∃r:Sl,v=r/\Sp h h' [ao 5 r 1 av (eT m)]:=by
 refine Hk x ?_;unfold Bv;refine(Sp.refl h).boxed fun a1 h1 H1=>?_;refine⟨x,(H1.box 0 rfl).aI _ rfl,(RG x m h1 (d.up H1.ag) hz).mono ?_⟩;rintro _ h2 ⟨rfl,R2⟩;have H2:=H1.up R2.ag;refine⟨_,rfl,bf (fun e=>?_) fun z=>?_⟩
 ·unfold eT;rw[e];exact⟨⟨none,0,0⟩,rfl,((H2.nil 5 1 av).cL [1])⟩
 have U:x.2.2.1=m.p.1:=congrArg (·.1) d.p;have am:x.2.2.2.1=m.p.2.1:=congrArg (·.2.1) d.p;have ax:x.2.2.2.2.1=m.p.2.2:=congrArg (·.2.2) d.p;have N:=H2.box 0 rfl;have c:=CJ m hz;unfold eT at c;rw[z,if_pos rfl]at c;have hM:∀{h':Heap} {As:List HP},Sp h h' As->fk h' x m:=fun{h' As} J=>d.up J.ag;refine aP ⟨m.seq,by rw[<-d.seq];exact N.cell0 rfl,m.next,by rw[<-d.next];exact N.cell rfl,?_⟩;have H3:=(H2.nil 5 1 av).cn;refine(mV ⟨none,0,0⟩ [] m.seq 4 (by decide) (by simp) H3).mono ?_;rintro _ h4 ⟨s4,rfl,H4⟩;refine⟨s4,rfl,⟨by rw[<-d.next];exact(H4.box 1 rfl).cell rfl,trivial⟩,?_⟩;refine(mV s4 _ m.next 4 (by decide) (by simp[bq]) H4).mono ?_;rintro _ h5 ⟨s5,rfl,H5⟩;refine⟨s5,rfl,trivial,?_⟩;have l:=H5.box 1 rfl;refine⟨m.p.1,by rw[<-U];exact l.cell rfl,m.p.2.1,by rw[<-am];exact l.at2 2 1 rfl,m.p.2.2,by rw[<-ax];exact l.at2 2 2 rfl,m.extra,by rw[<-d.extra];exact l.cell rfl,x.2.2.2.2.2.2.1,l.cell rfl,?_⟩;have ay:=d.drives.len;have V:=cP.len d.aF;rw[bX,bX,bX,bX,bX,ay];refine H5.lit af av fv rfl [b8 m.p.1,b8 m.p.2.1,b8 m.p.2.2,b8 m.extra,b8 (m.drives.length:Nat)] rfl (show 5*1<=2^20 by decide) rfl fun a8 h6 H6=>?_;refine H6.append af 0 rfl fv ⟨_,_,rfl,rfl⟩ rfl (by decide) (fun _=>rfl) (H6.seq 2 rfl fun _=>rfl) dN (by simp[bq]) fun s7 h7 P=>?_;have P:=P.cL [0,1];refine⟨x.2.2.2.2.2.2.1,(P.box 1 rfl).cell rfl,?_⟩;have a4:(([]++bm m.seq 4)++bm m.next 4++[b8 m.p.1,b8 m.p.2.1,b8 m.p.2.2,b8 m.extra,b8 (m.drives.length:Nat)]).length=13:=by simp[bq]
 have br:=hz.dr;refine Ek x.2.2.2.2.2.2.1 m.drives s7 _ P (St.mk' fun h' J=>(hM J).drives) (by omega) (by omega) fun s8 h8 H8=>?_;dsimp only;refine⟨x.2.2.2.2.2.2.2,(H8.box 1 rfl).cell rfl,?_⟩;rw[bX,V];obtain⟨a,b⟩:∃a,a=([]++bm m.seq 4)++bm m.next 4++[b8 m.p.1,b8 m.p.2.1,b8 m.p.2.2,b8 m.extra,b8 (m.drives.length:Nat)]++m.drives.map b8:=⟨_,rfl⟩
 rw[<-b]at H8;have ad:a.length=13+m.drives.length:=by rw[b];simp[bq];omega
 simp only[qp,zc,wZ,qC,bq]at c;refine H8.push af 0 rfl fv rfl (by decide) (fun _=>rfl) dN (b8 (m.aF.length:Nat)) rfl (by decide) (by omega) fun s9 h9 R=>?_;have R:Sp h h9 [ao 5 s9 1 av (a++[b8 (m.aF.length:Nat)]),ai a1 88 (aY x)]:=R;refine⟨x.2.2.2.2.2.2.2,(R.box 1 rfl).cell rfl,?_⟩;obtain⟨L,Q⟩:=cP.fix d.aF;have bs:=Q.2.1;refine aA (fun t:Sl×Nat=>(t.1,(t.2:Int))) (fun t h'=>t.2<=m.aF.length/\Sp h h' [ao 5 t.1 1 av (a++[b8 (m.aF.length:Nat)]++(m.aF.take t.2).flatMap gg),ai a1 88 (aY x)]) (fun t=>m.aF.length-t.2) (s9,0) rfl ⟨by simp,by simpa using R⟩ ?_;rintro⟨o,i⟩ a5 ⟨hi,j⟩;dsimp only at*;refine aj (fun e=>?_) (fun e=>?_)
 ·have q:i<m.aF.length:=by omega
  have X:=mb.up Q j.ag;have a0:=Pr z q;have u:((m.aF.take i).flatMap gg).length<=50000:=by
   have h1:=xY z i hi;have:=CI z;have:i*4000<=12*4000:=ze _ (by omega);omega
  refine X.1.fF (g:=bI) i rfl (by omega) (L[i]'(by omega)) rfl ?_;refine j.alloc af rfl fun T bb W=>?_;refine W.storeAll af 2 rfl rfl (bI (L[i]'(by omega))) rfl rfl rfl rfl fun a2 f=>?_;have Y:=mb.up Q f.ag;obtain⟨⟨w,y2,y3⟩,y4⟩:=Fix.row Y q;obtain⟨E,hE⟩:∃E,E=m.aF[i]:=⟨_,rfl⟩
  rw[<-hE]at w y2 y3 y4 a0;have s:=f.box 2 rfl;refine aP ⟨E.name,by rw[<-w];exact s.cell0 rfl,E.name,by rw[<-w];exact s.cell0 rfl,?_⟩;rw[bX];refine f.rT af av fv rfl [b8 (E.name.size:Nat)] rfl (show 1*1<=2^20 by decide) rfl ⟨by rw[<-w];exact s.cell0 rfl,by rw[<-w];exact s.cell0 rfl,trivial⟩ ?_;have H:(a++[b8 (m.aF.length:Nat)]++(m.aF.take i).flatMap gg).length<=160000:=by rw[qp,qp,ad];simp;simp at u;omega
  obtain⟨k,O⟩:∃k,k=a++[b8 (m.aF.length:Nat)]++(m.aF.take i).flatMap gg:=⟨_,rfl⟩
  rw[<-O]at f H;refine f.push af 0 rfl fv rfl (by decide) (fun _=>rfl) dN (b8 (E.name.size:Nat)) rfl (by decide) (by omega) fun a7 a6 B=>?_;have I:=B.box 2 rfl;refine⟨⟨by rw[<-w];exact I.cell0 rfl,by rw[<-w];exact I.cell0 rfl,trivial⟩,?_⟩;refine B.OH af 0 rfl fv ⟨_,rfl,rfl⟩ rfl (by decide) E.name (by simp;omega) fun D al n=>?_;have y:=n.box 2 rfl;refine⟨⟨by rw[<-w];exact y.cell0 rfl,trivial⟩,?_⟩;have n:Sp h al [ao 5 D 1 av (k++[b8 (E.name.size:Nat)]++fW E.name),ai a1 88 (aY x),ai T 123 (bI (L[i]'(by omega)))]:=n;refine aP ⟨E.object,by rw[<-y2];exact y.cell rfl,E.length,by rw[<-y3];exact y.cell rfl,?_⟩;have bl:=tg E.name;refine(mV D _ E.object 3 (by decide) (by simp;omega) n).mono ?_;rintro _ bk ⟨K,rfl,M⟩;have Z:=M.box 2 rfl;refine⟨K,rfl,⟨by rw[<-y3];exact Z.cell rfl,trivial⟩,?_⟩;refine(mV K _ E.length 2 (by decide) (by simp[bq];omega) M).mono ?_;rintro _ a9 ⟨A,rfl,G⟩;have a3:=G.box 2 rfl;refine⟨A,rfl,trivial,(L[i]'(by omega)).2.2.2,a3.cell rfl,?_⟩;refine Ek (L[i]'(by omega)).2.2.2 E.tries A _ G (St.mk' fun h' J=>by rw[hE];exact(Fix.row (mb.up Q J.ag) q).2) (by simp[bq];omega) (by omega) fun S bd F=>?_;dsimp only;have a2:=CI z;refine⟨(S,i+1),by dsimp only;rw[ak _];rfl,⟨by dsimp only;omega,?_⟩,by dsimp only;omega⟩;dsimp only;rw[aO _ _ q,q7,<-qm,<-O,zg,wM,qU,<-hE];have e3:k++[b8 (E.name.size:Nat)]++fW E.name++bm E.object 3++bm E.length 2++E.tries.map b8=k++gg E:=by
   unfold gg fW;simp[qm]
  rw[e3]at F;exact F.cL [0,1]
 ·rw[qj (by omega)]at j;refine⟨o,rfl,?_⟩;have e2:a++[b8 (m.aF.length:Nat)]++m.aF.flatMap gg=eT m:=by
   rw[b];unfold eT;rw[z,if_pos rfl];simp[qm]
  rw[e2]at j;exact j.cL [0]
end Go.Qw
namespace Go.Vc
open Go Wl
def iS{α:Type}(k:Nat)(f:α->aM)(L:List (Sl×List α)):HP:=⟨fun h q=>∀y∈L,Seq h q y.1 k f y.2,fun a d y b=>(a y b).ag d,fun a c y b=>(a y b).mono c⟩
section
variable {α:Type} {B:ap} {h0 h:Heap} {As:List HP} {k:Nat} {f:α->aM} {L:List (Sl×List α)} {s:Sl} {l:List α}
theorem aa.Up(H:aa B h0 h As)(k:Nat)(f:α->aM):aa B h0 h (iS k f []::As):=
 (H.comp (.one (A:=iS k f []) (aH.refl _ _) (fun y a=>by cases a))).cn
theorem aa.Ma(H:aa B h0 h (iS k f L::oG s k f l::As)):aa B h0 h (iS k f ((s,l)::L)::As):=by
 have g:aa B h0 h ((oG s k f l).sep (iS k f L)::As):=H.nY;refine g.jo 0 rfl fun q ⟨j,i,_,b,c,d,e⟩ y a=>?_;rcases zl.1 a with rfl|a
 ·exact d.mono b
 ·exact(e y a).mono c
end
end Go.Vc
namespace Go.Qw
open Go Go.Vc Go.Proofs Wl
theorem VA(n:Int):bm n 4=[b8 (qD n (2^24)),b8 (qD n (2^16)),b8 (qD n (2^8)),b8 n]:=by
 have e:qD n (2^0)=n:=by simp
 show[b8 (qD n (2^24)),b8 (qD n (2^16)),b8 (qD n (2^8)),b8 (qD n (2^0))]=_;rw[e]
theorem Pu(seq a c:Int)(b:Sl)(l:aQ)(h:Heap)(p:Rd h b 1 av l)(u:l.length<=2^20):ab vV 78 #[vL vR seq,vL vR a,vL vR c,b] h fun v h'=>∃r:Sl,v=r/\Sp h h' [ao 5 r 1 av (gP seq a c l)]:=by
 refine Jd seq a c b ?_;unfold DD;refine⟨by decide,by decide,by decide,?_⟩;have i:min (24:Int).toNat (qf vR)=24:=rfl;have j:min (16:Int).toNat (qf vR)=16:=rfl;have s:min (8:Int).toNat (qf vR)=8:=rfl;rw[i,j,s,bX,bX,bX,bX,bX,bX,bX];have d:=VA seq;generalize b8 (qD seq (2^24))=c1 at d⊢;generalize b8 (qD seq (2^16))=c2 at d⊢;generalize b8 (qD seq (2^8))=c3 at d⊢;generalize b8 seq=c4 at d⊢;have e:gP seq a c l=cb 2 ([c1,c2,c3,c4]++([b8 a,b8 c,b8 (b.len:Nat)]++l)):=by unfold gP;rw[d,p.len]
 generalize b8 a=c5 at e⊢;generalize b8 c=c6 at e⊢;generalize b8 (b.len:Nat)=c7 at e⊢;refine(Sp.refl h).lit af av fv rfl [c1,c2,c3,c4,c5,c6,c7] rfl (show 7*1<=2^20 by decide) (by kernel_rfl) fun w x n=>?_;refine n.append af 0 rfl fv ⟨_,_,rfl,rfl⟩ rfl (by decide) (fun _=>rfl) (Seq.up p n.ag) dN (by simp;omega) fun q m k=>?_;have o:Rd m q 1 av ([c1,c2,c3,c4,c5,c6,c7]++l):=k.seq 0 rfl fun _=>rfl;have f:([c1,c2,c3,c4,c5,c6,c7]++l).length<=2^40:=by simp;omega
 rw[e];have g:[c1,c2,c3,c4,c5,c6,c7]++l=[c1,c2,c3,c4]++([c5,c6,c7]++l):=rfl;rw[<-g];generalize [c1,c2,c3,c4,c5,c6,c7]++l=ll at o f⊢;refine(xX 2 q ll m o f).mono ?_;rintro _ h3 ⟨r,rfl,t⟩;exact⟨r,rfl,r,rfl,(aa.comp (Sp.zip k.ag) t)⟩
theorem oq(x:bZ)(m:aC)(h:Heap)(A:fk h x m)(z:dB m):ab vV 38 #[fP x] h fun v h'=>∃r:Sl,v=r/\Sp h h' [dJ r (bc m)]:=by
 refine Fs x ?_;unfold xB;refine(Sp.refl h).boxed fun D N n=>?_;refine⟨x,(n.box 0 rfl).aI _ rfl,(Pt x m N (A.up n.ag) z).mono ?_⟩;rintro _ I ⟨b,rfl,G⟩;have j:=n.comp G;have s:=CJ m z;obtain⟨l,k⟩:∃l,l=eT m:=⟨_,rfl⟩
 rw[<-k]at j s;have L:=(j.own 1 rfl).len;have p:=(j.own 1 rfl).cap;refine⟨b,rfl,by decide,?_⟩;have d:qc vR (wQ (qc vR ((qc vR (((b.len:Nat):Int)+(48:Int)))-(1:Int))) (48:Int))=(fx l:Int):=by
  rw[ak ((b.len:Int)+48),ak ((b.len:Int)+48-1),Int.tdiv_eq_ediv_of_nonneg (by omega)];unfold fx;rw[ak (((b.len:Int)+48-1)/48)];omega
 have H:fx l<=3000:=by unfold fx;omega
 rw[d];obtain⟨f,g⟩:∃f:cu,f=bc m:=⟨_,rfl⟩
 have y:f.length=fx l:=by rw[g,k];simp[bc]
 have c:Sp h I [dJ ⟨none,0,0⟩ (f.take 0),ai D 88 (aY x),ao 5 b 1 av l]:=j.Cf 31 5 1 av;refine aA (fun t:Sl×Nat=>(t.1,(t.2:Int))) (fun t h'=>t.2<=fx l/\Sp h h' [dJ t.1 (f.take t.2),ai D 88 (aY x),ao 5 b 1 av l]) (fun t=>fx l-t.2) (⟨none,0,0⟩,0) rfl ⟨by simp,c⟩ ?_;rintro⟨o,i⟩ h3 ⟨T,c⟩;dsimp only at*;refine aj (fun e=>?_) (fun e=>?_)
 ·have q:i<fx l:=by omega
  have E:48*i<l.length:=by unfold fx at q;omega
  rw[ak ((i:Int)*48),ak ((i:Int)+1),ak (((i:Int)+1)*48)];obtain⟨a,K⟩:∃a:Nat,a=min (48*i+48) l.length:=⟨_,rfl⟩
  have u:(if((i:Int)+1)*48<((b.len:Nat):Int)then((i:Int)+1)*48 else((b.len:Nat):Int))=(a:Int):=by
   split<;>omega
  rw[u];refine⟨m.seq,by rw[<-A.seq];exact(c.box 1 rfl).cell0 rfl,⟨by omega,by omega,by omega⟩,?_⟩;have M:((i:Int)*48).toNat=48*i:=by omega
  rw[M,qo];have w:=((c.seq 2 rfl fun _=>rfl).drop (48*i) p).take (a-48*i) (by rw[qR];omega);have e2:(l.drop (48*i)).take (a-48*i)=(l.drop (48*i)).take 48:=by
   by_cases Q:48*i+48<=l.length
   ·rw[show a-48*i=48 by omega]
   ·rw[qj (by rw[qR];omega),qj (by rw[qR];omega)]
  rw[e2,zN]at w;refine(Pu m.seq i (fx l) ⟨_,a-48*i,b.cap-48*i⟩ _ h3 (by rw[zN];exact w) (by simp;omega)).mono ?_;rintro _ S ⟨r,rfl,O⟩;have B:=(c.cQ O).bh 4 [1,0,2,3];refine⟨r,rfl,trivial,?_⟩;refine B.rT af cx iQ rfl [r] rfl (show 1*1<=2^20 by decide) rfl trivial ?_;refine B.Dn af iQ (by simp;omega) fun F R P=>⟨trivial,?_⟩
  refine⟨(F,i+1),rfl,⟨by dsimp only;omega,?_⟩,by dsimp only;omega⟩;dsimp only;rw[aO _ _ (show i<f.length by omega)];have J:f[i]'(by omega)=gP m.seq i (fx l) ((l.drop (48*i)).take 48):=by
   subst g;subst k;simp[bc]
  rw[J];exact P
 ·rw[qj (by omega),g]at c;exact⟨o,rfl,c.cL [0]⟩
theorem KX(s:Sl)(a:List dt)(h:Heap)(c:Rd h s 4 bI a)(d:a.length<=2^30):ab vV 160 #[s] h fun v h'=>∃r:Sl,v=r/\Sp h h' [ao 123 r 4 bI a]:=by
 refine jG s ?_;unfold gb;refine bn (fun e=>?_) (fun e=>?_)
 ·have:=c.isNil e;subst this;exact⟨⟨none,0,0⟩,rfl,(Sp.refl h).nil 123 4 bI⟩
 ·refine(Sp.refl h).lit af bI RF rfl ([]:List dt) rfl (by decide) rfl fun k j b=>?_;refine b.append af 0 rfl RF ⟨_,_,rfl,rfl⟩ rfl (by decide) (fun _=>rfl) (Seq.up c b.ag) LZ (by simp;omega) fun g i f=>?_;exact⟨g,rfl,f⟩
def AY(pool:List (Sl×aB))(p:dt×Wl.ca):Prop:=(p.1.1=p.2.name/\p.1.2.1=p.2.object/\p.1.2.2.1=p.2.length)/\(p.1.2.2.2,p.2.tries)∈pool
theorem aa.Jw{B:ap}{l h:Heap}{As:List HP}{y:bZ}{m:aC}{L:List (dt×Wl.ca)}{pool:List (Sl×aB)}(f:y.1=m.seq/\y.2.1=m.next/\(y.2.2.1,y.2.2.2.1,y.2.2.2.2.1)=m.p/\y.2.2.2.2.2.1=m.extra)(n:L.map zF=m.aF)(t:∀p∈L,AY pool p)
  (H:aa B l h (iS 1 aG pool::ao 3 y.2.2.2.2.2.2.1 1 aG m.drives::ao 123 y.2.2.2.2.2.2.2 4 bI (L.map qP)::As)):aa B l h (fa y m::As):=by
 have i:=(H.own 2 rfl)
 have g:=(H.own 1 rfl)
 have D:=((H.freeze 1 rfl fun _=>rfl).freeze 2 rfl fun _=>rfl).nY.nY;refine D.jo 0 rfl fun q ⟨I,F,_,b,c,z,w⟩=>?_;obtain⟨G,E,_,s,A,z3,z4⟩:=w;refine⟨f.1,f.2.1,f.2.2.1,f.2.2.2,z3.mono fun x k=>c x (s x k),⟨L.map qP,z.mono b,by rw[<-n];simp,fun j r e a d=>?_⟩,g.cap,i.cap⟩;rw[<-n]at d;rw[qN]at a d;cases hj:L[j]? with
 |none=>rw[hj]at a;cases a
 |some p=>
  rw[hj]at a d;have v:=wL.inj (show some p.1=some r from a);have e2:=wL.inj (show some p.2=some e from d);subst v;subst e2;obtain⟨o,u⟩:=t p (yH hj);exact⟨o,(z4 _ u).mono fun x k=>c x (A x k)⟩
theorem sF(x:bZ)(m:aC)(h:Heap)(z:fk h x m)(O:dB m):ab vV 97 #[fP x] h fun v h'=>∃(y:bZ) (L:List (dt×Wl.ca)) (pool:List (Sl×aB)),v=fP y/\(y.1=m.seq/\y.2.1=m.next/\(y.2.2.1,y.2.2.2.1,y.2.2.2.2.1)=m.p/\y.2.2.2.2.2.1=m.extra)/\L.map zF=m.aF/\(∀p∈L,AY pool p)/\
  Sp h h' [iS 1 aG pool,ao 3 y.2.2.2.2.2.2.1 1 aG m.drives,ao 123 y.2.2.2.2.2.2.2 4 bI (L.map qP)]:=by
 refine Jf x ?_;unfold DH;refine(Sp.refl h).boxed fun S k H1=>?_;refine H1.alloc af rfl fun R q N=>?_;have D:=N.box 0 rfl;have hM:∀{h':Heap} {As:List HP},Sp h h' As->fk h' x m:=fun{h' As} H'=>z.up H'.ag;obtain⟨b,M⟩:=cP.fix z.aF;have ax:=M.2.1;have am:=O.dr;have ad:=O.ob;refine aP ⟨x.2.2.2.2.2.2.1,D.cell rfl,x.2.2.2.2.2.2.2,D.cell rfl,?_⟩;refine(gx _ m.drives q (hM N).drives (by omega)).mono ?_;rintro _ h3 ⟨d,rfl,X⟩;have F:=N.comp X;refine⟨d,rfl,⟨(F.box 0 rfl).cell rfl,trivial⟩,?_⟩;refine(KX _ b h3 (mb.up M F.ag).1 (by omega)).mono ?_;rintro _ h4 ⟨o,rfl,R4⟩;have H4:=F.comp R4;refine⟨o,rfl,trivial,?_⟩;refine H4.store af 0 rfl rfl 6 [d] rfl rfl rfl (by simp[Value.cells]) fun h5 H5=>⟨trivial,?_⟩
 refine H5.store af 0 rfl rfl 7 [o] rfl rfl rfl (by simp[Value.cells]) fun U s=>⟨trivial,?_⟩
 obtain⟨y,u⟩:∃y:bZ,y=(x.1,x.2.1,x.2.2.1,x.2.2.2.1,x.2.2.2.2.1,x.2.2.2.2.2.1,d,o):=⟨_,rfl⟩
 have s:Sp h U [ai S 88 (aY y),ai R 88 [vL vR 0,vL vR 0,vL vR 0,vL vR 0,vL vR 0,vL vR 0,vM none 0 0,vM none 0 0],ao 3 d 1 aG m.drives,ao 123 o 4 bI b]:=by rw[u];exact s
 have c:y.2.2.2.2.2.2.2=o:=by rw[u]
 have H:y.2.2.2.2.2.2.1=d:=by rw[u]
 refine⟨o,by rw[<-c];exact(s.box 0 rfl).cell rfl,?_⟩;have V:=(s.own 3 rfl).len;have s:=s.Up 1 aG;refine aA (fun t:List dt×List (Sl×aB)=>(t.1.length:Int)) (fun t h'=>t.1.length<=m.aF.length/\(∀(j:Nat) r e,t.1[j]?=some r->m.aF[j]?=some e->(r.1=e.name/\r.2.1=e.object/\r.2.2.1=e.length)/\(r.2.2.2,e.tries)∈t.2)/\Sp h h' [iS 1 aG t.2,ai S 88 (aY y),ai R 88 [vL vR 0,vL vR 0,vL vR 0,vL vR 0,vL vR 0,vL vR 0,vM none 0 0,vM none 0 0],ao 3 d 1 aG m.drives,ao 123 o 4 bI (t.1++b.drop t.1.length)]) (fun t=>m.aF.length-t.1.length) ([],[]) rfl ⟨by simp,fun j r e k=>by simp at k,s⟩ ?_;rintro⟨a,pool⟩ h7 ⟨hi,A,l⟩;dsimp only at*;refine aj (fun e=>?_) (fun e=>?_)
 ·have n:a.length<m.aF.length:=by omega
  have Z:=mb.up M l.ag;obtain⟨⟨y1,y2,y3⟩,y4⟩:=Fix.row Z n;have f:(a++b.drop a.length)[a.length]'(by simp;omega)=b[a.length]'(by omega):=by simp
  obtain⟨I,T,zz,hc,rfl⟩:=(l.seq 4 rfl fun _=>rfl).fF (g:=bI) (i:=(a.length:Int)) a.length rfl (by simp;omega) (b[a.length]'(by omega)) (by rw[f]) (K:=fun t=>t=b[a.length]'(by omega)) rfl;refine⟨o,by rw[<-c];exact(l.box 1 rfl).cell rfl,o,by rw[<-c];exact(l.box 1 rfl).cell rfl,I,T,_,hc.2.2.2.1,?_⟩;have Y:=(O.nm _ (qn n)).2;refine(gx _ m.aF[a.length].tries h7 y4 (by omega)).mono ?_;rintro _ h8 ⟨t,rfl,W⟩;have w:=l.cQ W;refine⟨t,rfl,⟨by rw[<-c];exact(w.box 2 rfl).cell rfl,by rw[<-c];exact(w.box 2 rfl).cell rfl,trivial⟩,?_⟩;refine w.Ra af 5 rfl (fun _=>rfl) rfl a.length rfl (by simp;omega) 3 [t] (by simp) ((b[a.length]'(by omega)).1,(b[a.length]'(by omega)).2.1,(b[a.length]'(by omega)).2.2.1,t) rfl rfl rfl (by rw[f];simp[bI]) fun h9 E=>⟨trivial,?_⟩
  have E:=(E.freeze 0 rfl fun _=>rfl).bh 6 [1,0,2,3,4,5];have E:=E.Ma;refine⟨(a++[((b[a.length]'(by omega)).1,(b[a.length]'(by omega)).2.1,(b[a.length]'(by omega)).2.2.1,t)],(t,m.aF[a.length].tries)::pool),by simp only[qp,List.length_singleton];rw[ak _];rfl,⟨by simp;omega,fun j r e k q=>?_,?_⟩,by simp;omega⟩
  ·dsimp only at k⊢;by_cases J:j<a.length
   ·rw[ql J]at k;obtain⟨g1,g2⟩:=A j r e k q;exact⟨g1,List.mem_cons_of_mem _ g2⟩
   ·have P:j=a.length:=by
     have:=(qk.1 k).1;simp at this;omega
    subst P;rw[qh (qt _),q5]at k;simp at k;rw[qd n]at q;injection q with q
    subst k;subst q;exact⟨⟨y1,y2,y3⟩,List.mem_cons_self⟩
  ·dsimp only;have e4:(a++b.drop a.length).set a.length ((b[a.length]'(by omega)).1,(b[a.length]'(by omega)).2.1,(b[a.length]'(by omega)).2.2.1,t)=a++[((b[a.length]'(by omega)).1,(b[a.length]'(by omega)).2.1,(b[a.length]'(by omega)).2.2.1,t)]++b.drop (a++[((b[a.length]'(by omega)).1,(b[a.length]'(by omega)).2.1,(b[a.length]'(by omega)).2.2.1,t)]).length:=by
    rw[qY _ _ (qt _),q5,qL (show a.length<b.length by omega),zM];simp
   rw[<-e4];exact E
 ·have al:a.length=m.aF.length:=by omega
  rw[q9 (by omega),qU]at l;refine⟨y,(l.box 1 rfl).aI _ rfl,?_⟩;refine l.storeAll af 2 rfl rfl (aY y) rfl rfl rfl rfl fun h8 w=>?_;have G:(a.zip m.aF).map qP=a:=List.map_fst_zip (by omega);have Q:(a.zip m.aF).map zF=m.aF:=List.map_snd_zip (by omega);refine⟨y,(w.box 2 rfl).aI _ rfl,y,a.zip m.aF,pool,rfl,⟨by rw[u];exact z.seq,by rw[u];exact z.next,by rw[u];exact z.p,by rw[u];exact z.extra⟩,Q,fun p hp=>?_,?_⟩
  ·obtain⟨j,J,rfl⟩:=qQ hp;have B:j<a.length/\j<m.aF.length:=by simp at J;omega
   have:=A j _ _ (qd B.1) (qd B.2);rw[List.getElem_zip];exact this
  ·rw[G,H,c];exact w.cL [0,3,4]
theorem Ng(x:bZ)(m:aC)(h:Heap)(e:fk h x m)(a:dB m):ab vV 97 #[fP x] h fun v h'=>∃y:bZ,v=fP y/\Sp h h' [fa y m]:=by
 refine(sF x m h e a).mono ?_;rintro _ h' ⟨y,L,pool,rfl,c,b,d,H⟩;exact⟨y,rfl,aa.Jw c b d H⟩
end Go.Qw
namespace Go.Vc
open Go Wl
abbrev bg:=Int×Int×Int×Int×Int×Int×Int×Sl
abbrev ba(x:bg):aM:=[vL vR x.1,vL vR x.2.1,vL vR x.2.2.1,vL vR x.2.2.2.1,vL vR x.2.2.2.2.1,vL vR x.2.2.2.2.2.1,vL vT x.2.2.2.2.2.2.1,x.2.2.2.2.2.2.2]
abbrev recv(x:bg):Value:=vQ #[vL vR x.1,vL vR x.2.1,vL vR x.2.2.1,vL vR x.2.2.2.1,vL vR x.2.2.2.2.1,vL vR x.2.2.2.2.2.1,vL vT x.2.2.2.2.2.2.1,x.2.2.2.2.2.2.2]
theorem Uq:∀x,∀c∈ba x,c.oneCell'=true:=by intro x c a;simp[ba]at a;rcases a with rfl|rfl|rfl|rfl|rfl|rfl|rfl|rfl<;>rfl
def fH(x y:Int):Int:=if x<y then-1 else if x>y then 1 else 0
def iT(a b:bg):Int:=if fH a.1 b.1≠0 then fH a.1 b.1 else if fH a.2.1 b.2.1≠0 then fH a.2.1 b.2.1 else fH a.2.2.1 b.2.2.1
def bH(a b:bg):Bool:=decide (iT a b<=0)
theorem gi(x y:Int):(x<y/\fH x y=-1)∨(x>y/\fH x y=1)∨(x=y/\fH x y=0):=by
 unfold fH;by_cases a:x<y
 ·exact .inl ⟨a,if_pos a⟩
 ·by_cases b:x>y
  ·exact .inr (.inl ⟨b,by rw[if_neg a,if_pos b]⟩)
  ·exact .inr (.inr ⟨by omega,by rw[if_neg a,if_neg b]⟩)
theorem sG(a b:bg):iT a b<=0↔a.1<b.1∨(a.1=b.1/\(a.2.1<b.2.1∨(a.2.1=b.2.1/\a.2.2.1<=b.2.2.1))):=by
 unfold iT;rcases gi a.1 b.1 with⟨h1,e1⟩|⟨h1,e1⟩|⟨h1,e1⟩
 ·rw[e1,if_pos (by decide)];omega
 ·rw[e1,if_pos (by decide)];omega
 ·rw[e1,if_neg (by decide)];rcases gi a.2.1 b.2.1 with⟨h2,e2⟩|⟨h2,e2⟩|⟨h2,e2⟩
  ·rw[e2,if_pos (by decide)];omega
  ·rw[e2,if_pos (by decide)];omega
  ·rw[e2,if_neg (by decide)];rcases gi a.2.2.1 b.2.2.1 with⟨h3,e3⟩|⟨h3,e3⟩|⟨h3,e3⟩<;>rw[e3]<;>omega
theorem mG(a b:bg):iT a b<0↔¬bH b a=true:=by
 unfold bH;rw[decide_eq_true_eq,sG];unfold iT;rcases gi a.1 b.1 with⟨h1,e1⟩|⟨h1,e1⟩|⟨h1,e1⟩
 ·rw[e1,if_pos (by decide)];omega
 ·rw[e1,if_pos (by decide)];omega
 ·rw[e1,if_neg (by decide)];rcases gi a.2.1 b.2.1 with⟨h2,e2⟩|⟨h2,e2⟩|⟨h2,e2⟩
  ·rw[e2,if_pos (by decide)];omega
  ·rw[e2,if_pos (by decide)];omega
  ·rw[e2,if_neg (by decide)];rcases gi a.2.2.1 b.2.2.1 with⟨h3,e3⟩|⟨h3,e3⟩|⟨h3,e3⟩<;>rw[e3]<;>omega
theorem Pv(a b:bg):iT a b=0↔(a.1=b.1/\a.2.1=b.2.1/\a.2.2.1=b.2.2.1):=by
 unfold iT;rcases gi a.1 b.1 with⟨h1,e1⟩|⟨h1,e1⟩|⟨h1,e1⟩
 ·rw[e1,if_pos (by decide)];omega
 ·rw[e1,if_pos (by decide)];omega
 ·rw[e1,if_neg (by decide)];rcases gi a.2.1 b.2.1 with⟨h2,e2⟩|⟨h2,e2⟩|⟨h2,e2⟩
  ·rw[e2,if_pos (by decide)];omega
  ·rw[e2,if_pos (by decide)];omega
  ·rw[e2,if_neg (by decide)];rcases gi a.2.2.1 b.2.2.1 with⟨h3,e3⟩|⟨h3,e3⟩|⟨h3,e3⟩<;>rw[e3]<;>omega
theorem cS:Ord bH:=⟨fun a b c e d=>by
 unfold bH at*;rw[decide_eq_true_eq,sG]at*;omega,fun a b=>by
 unfold bH;rw[Bool.or_eq_true,decide_eq_true_eq,decide_eq_true_eq,sG,sG];omega⟩
theorem Jx{α:Type}(A B C:List α)(x y:α){i j:Nat}(c:i=A.length)(b:j=A.length+1+B.length):
  (A++x::(B++y::C))[i]?=some x/\(A++x::(B++y::C))[j]?=some y/\((A++x::(B++y::C)).set i y).set j x=A++y::(B++x::C)/\((A++x::(B++y::C)).set j x).set i y=A++y::(B++x::C):=by
 subst c;subst b;have a:A.length+1+B.length-A.length=B.length+1:=by omega
 refine⟨by rw[qh (qt _),q5];rfl,?_,?_,?_⟩
 ·rw[qh (by omega),a,qw,qh (qt _),q5];rfl
 ·rw[qY _ _ (qt _),q5,zM,qY _ _ (by omega),a,wm,qY _ _ (qt _),q5,zM]
 ·rw[qY _ _ (show A.length<=A.length+1+B.length by omega),a,wm,qY _ _ (qt _),q5,zM,qY _ _ (qt _),q5,zM]
end Go.Vc
namespace Go.Qw
open Go Go.Vc Go.Proofs Wl
abbrev VB:bP C.torQ 160 49 8 [vL vR 0,vL vR 0,vL vR 0,vL vR 0,vL vR 0,vL vR 0,vL vT 0,vM none 0 0] 80:=⟨_,_,rfl,rfl,rfl,rfl,rfl,rfl⟩
theorem nO(x y:Int)(h:Heap):ab vV 206 #[vL vR x,vL vR y] h fun v h'=>v=vL vR (fH x y)/\h'=h:=by
 refine mi x y ?_;unfold kl;have a:∀z:Int,ab vV 236 #[vL vR z] h fun v h'=>v=vP false/\h'=h:=fun z=>by
  refine nU z ?_;unfold lN;exact⟨by simp,rfl⟩
 refine(a x).mono ?_;rintro _ _ ⟨rfl,rfl⟩;refine⟨_,rfl,(a y).mono ?_⟩;rintro _ _ ⟨rfl,rfl⟩;refine⟨_,rfl,bn (fun e=>by cases e) fun _=>bn (fun e=>by cases e) fun _=>?_⟩;refine aj (fun e=>⟨by rw[fH,if_pos e],rfl⟩) fun e=>aj (fun e2=>⟨by rw[fH,if_neg e,if_pos e2],rfl⟩) fun e2=>⟨by rw[fH,if_neg e,if_neg e2],rfl⟩
theorem lO(a b:bg)(h:Heap):ab vV 165 #[recv a,recv b] h fun v h'=>v=vL vR (iT a b)/\Sp h h' []:=by
 refine Fw a b ?_;unfold xG;refine(Sp.refl h).boxed fun w M F=>F.boxed fun p g f=>?_;have f:Sp h g [ai w 49 (ba a),ai p 49 (ba b)]:=f;have u:=f.box 0 rfl;have r:=f.box 1 rfl;have A:cellOf g (w.add 1)=some (vL vR a.2.1):=u.cell rfl;have y:cellOf g (p.add 1)=some (vL vR b.2.1):=r.cell rfl;have c3:cellOf g (w.add 2)=some (vL vR a.2.2.1):=u.cell rfl;have o:cellOf g (p.add 2)=some (vL vR b.2.2.1):=r.cell rfl;refine⟨a.1,u.cell0 rfl,b.1,r.cell0 rfl,a.2.1,A,b.2.1,y,a.2.2.1,c3,b.2.2.1,o,(nO _ _ g).mono ?_⟩;rintro _ _ ⟨rfl,rfl⟩;refine⟨_,rfl,⟨o,c3,y,A,trivial⟩,(nO _ _ _).mono ?_⟩;rintro _ _ ⟨rfl,rfl⟩;refine⟨_,rfl,⟨o,c3,trivial⟩,(nO _ _ _).mono ?_⟩;rintro _ J ⟨rfl,rfl⟩;refine⟨_,rfl,trivial,?_⟩;refine f.rT af aG ⟨_,_,rfl,rfl,rfl,rfl,rfl,rfl⟩ rfl [fH a.1 b.1,fH a.2.1 b.2.1,fH a.2.2.1 b.2.2.1] rfl (show 3*1<=2^20 by decide) rfl trivial ?_;refine f.lit af aG ⟨_,_,rfl,rfl,rfl,rfl,rfl,rfl⟩ rfl [fH a.1 b.1,fH a.2.1 b.2.1,fH a.2.2.1 b.2.2.1] rfl (show 3*1<=2^20 by decide) rfl fun c z t=>?_;refine(sq c (R:=fun v h'=>v=vL vR (iT a b)/\h'=z) ?_).mono ?_
 ·unfold pd;have B:=t.seq 2 rfl fun _=>rfl;have D:=(t.own 2 rfl).len;obtain⟨L,k⟩:∃L,L=[fH a.1 b.1,fH a.2.1 b.2.1,fH a.2.2.1 b.2.2.1]:=⟨_,rfl⟩
  rw[<-k]at B D;have G:L.length=3:=by rw[k];rfl
  refine aA (fun i:Nat=>(i:Int)) (fun i h'=>i<=3/\(∀j,j<i->L[j]?=some 0)/\h'=z) (fun i=>3-i) 0 rfl ⟨by omega,by omega,rfl⟩ ?_;rintro i H ⟨K,n,rfl⟩;have d:0<i->fH a.1 b.1=0:=fun h0=>by have:=n 0 h0;rw[k]at this;simpa using this
  have l:1<i->fH a.2.1 b.2.1=0:=fun h0=>by have:=n 1 h0;rw[k]at this;simpa using this
  have q:2<i->fH a.2.2.1 b.2.2.1=0:=fun h0=>by have:=n 2 h0;rw[k]at this;simpa using this
  refine aj (fun e=>?_) (fun e=>?_)
  ·have m:i<L.length:=by
    have E:(i:Int)<(c.len:Int):=e;omega
   refine B.cA i rfl m L[i] rfl ?_;refine cq (fun e2=>⟨?_,rfl⟩) (fun e2=>?_)
   ·congr 1;unfold iT;have:i=0∨i=1∨i=2:=by omega
    subst k;rcases this with rfl|rfl|rfl
    ·exact(if_pos (show fH a.1 b.1≠0 from e2)).symm
    ·rw[if_neg (by rw[d (by omega)];simp)];exact(if_pos (show fH a.2.1 b.2.1≠0 from e2)).symm
    ·rw[if_neg (by rw[d (by omega)];simp),if_neg (by rw[l (by omega)];simp)];rfl
   ·refine⟨i+1,by rw[ak _];rfl,⟨by omega,fun j I=>?_,rfl⟩,by omega⟩;by_cases x:j=i
    ·subst x;rw[qd m,e2]
    ·exact n j (by omega)
  ·have s:i=3:=by
    have E:¬(i:Int)<(c.len:Int):=e;omega
   subst s;refine⟨?_,rfl⟩;unfold iT;rw[d (by omega),l (by omega),q (by omega)];rfl
 ·rintro _ H ⟨rfl,rfl⟩;exact⟨_,rfl,trivial,rfl,.zip t.ag⟩
abbrev bT(s:Sl)(d:List bg):HP:=ao 49 s 8 ba d
section
variable {B:ap} {h0 h h':Heap} {As:List HP} {s:Sl} {d:List bg}
theorem mH(X U M V Y:List bg)(n:Nat)(a b:Int)(R:U.length=n)(S:V.length=n)(E:a=(X.length:Int))(N:b=(X.length+n+M.length:Nat))(L:X.length+n+M.length+n+Y.length<=2^40)(H:aa B h0 h (bT s (X++(U++(M++(V++Y))))::As)):
  ab vV 357 #[s,vL vR a,vL vR b,vL vR n,.func (.func 165) #[] #[]] h fun v h'=>v=.tuple #[]/\aa B h0 h' (bT s (X++(V++(M++(U++Y))))::As):=by
 refine jp s a b n (165,#[],#[]) ?_;unfold fO;subst E;subst N;refine aA (fun k:Nat=>(k:Int)) (fun k h'=>k<=n/\aa B h0 h' (bT s (X++(V.take k++U.drop k++(M++(U.take k++V.drop k++Y))))::As)) (fun k=>n-k) 0 rfl ⟨by omega,by simpa using H⟩ ?_;rintro k T ⟨Q,f⟩;refine aj (fun e=>?_) (fun e=>?_)
 ·have O:k<n:=by omega
  have m:k<U.length:=by omega
  have p:k<V.length:=by omega
  have d:X++(V.take k++U.drop k++(M++(U.take k++V.drop k++Y)))=(X++V.take k)++U[k]::((U.drop (k+1)++(M++U.take k))++V[k]::(V.drop (k+1)++Y)):=by
   rw[qL m,qL p];simp only[qm,zk,zO]
  have c:X++(V.take (k+1)++U.drop (k+1)++(M++(U.take (k+1)++V.drop (k+1)++Y)))=(X++V.take k)++V[k]::((U.drop (k+1)++(M++U.take k))++U[k]::(V.drop (k+1)++Y)):=by
   rw[aO V k p,aO U k m];simp only[qm,zk,zO]
  rw[d]at f;obtain⟨z,x,y,G⟩:=Jx (X++V.take k) (U.drop (k+1)++(M++U.take k)) (V.drop (k+1)++Y) U[k] V[k] (i:=X.length+k) (j:=X.length+n+M.length+k) (by simp;omega) (by simp;omega);obtain⟨D,A⟩:∃D,D=(X++V.take k)++U[k]::((U.drop (k+1)++(M++U.take k))++V[k]::(V.drop (k+1)++Y)):=⟨_,rfl⟩
  rw[<-A]at f z x y G;have w:=(qk.1 z)
  have r:=(qk.1 x)
  obtain⟨o,u⟩:=w;obtain⟨q,t⟩:=r;have F:qc vR ((X.length:Int)+k)=((X.length+k:Nat):Int):=by rw[ak _];omega
  have K:qc vR (((X.length+n+M.length:Nat):Int)+k)=((X.length+n+M.length+k:Nat):Int):=by rw[ak _];omega
  rw[F,K];refine(f.seq 0 rfl fun _=>rfl).fF (g:=ba) _ rfl q V[k] (by rw[t]) ?_;refine(f.seq 0 rfl fun _=>rfl).fF (g:=ba) _ rfl o U[k] (by rw[u]) ?_;refine f.set af 0 rfl (fun _=>rfl) rfl (X.length+k) rfl o V[k] rfl rfl rfl fun P I=>⟨trivial,?_⟩
  refine I.set af 0 rfl (fun _=>rfl) rfl (X.length+n+M.length+k) rfl (by simpa using q) U[k] rfl rfl rfl fun h3 J=>⟨trivial,?_⟩
  refine⟨k+1,by rw[ak _];rfl,⟨by omega,?_⟩,by omega⟩;rw[c,<-y];exact J
 ·have:k=n:=by omega
  subst this;rw[qj (l:=V) (by omega),q9 (l:=U) (by omega),qj (l:=U) (by omega),q9 (l:=V) (by omega)]at f;refine⟨rfl,?_⟩;simpa using f
theorem KY(X U V Y:List bg)(a m b:Int)(J:0<U.length)(K:0<V.length)(y:a=(X.length:Int))(x:m=(X.length+U.length:Nat))(I:b=(X.length+U.length+V.length:Nat))(F:X.length+U.length+V.length+Y.length<=2^40)(H:aa B h0 h (bT s (X++(U++(V++Y)))::As)):
  ab vV 338 #[s,vL vR a,vL vR m,vL vR b,.func (.func 165) #[] #[]] h fun v h'=>v=.tuple #[]/\aa B h0 h' (bT s (X++(V++(U++Y)))::As):=by
 refine jV s a m b (165,#[],#[]) ?_;unfold gu;subst y;subst x;subst I;have L:qc vR (((X.length+U.length:Nat):Int)-X.length)=(U.length:Int):=by rw[ak _];omega
 have e2:qc vR (((X.length+U.length+V.length:Nat):Int)-(X.length+U.length:Nat))=(V.length:Int):=by rw[ak _];omega
 rw[L,e2];refine aA (fun t:List bg×List bg×List bg×List bg=>((t.2.1.length:Int),(t.2.2.1.length:Int))) (fun t h'=>0<t.2.1.length/\0<t.2.2.1.length/\X.length+t.1.length+t.2.1.length=X.length+U.length/\V++U=t.1++((t.2.2.1++t.2.1)++t.2.2.2)/\aa B h0 h' (bT s (X++(t.1++(t.2.1++(t.2.2.1++(t.2.2.2++Y)))))::As)) (fun t=>t.2.1.length+t.2.2.1.length) ([],U,V,[]) rfl ⟨J,K,by simp,by simp,by simpa using H⟩ ?_;rintro⟨P,A,c,Q⟩ u ⟨N,O,x,o,r⟩;dsimp only at*;have n:=congrArg vn o;simp only[qp]at n;refine cq (fun e=>aj (fun E=>?_) (fun E=>?_)) (fun e=>?_)
 ·--the left one is longer
  have q:c.length<A.length:=by omega
  have z:A=A.take c.length++A.drop c.length:=(qy _ _).symm;have l:(A.take c.length).length=c.length:=by simp;omega
  have f:qc vR (((X.length+U.length:Nat):Int)-A.length)=((X++P).length:Int):=by rw[ak _];simp;omega
  rw[f];have d:aa B h0 u (bT s ((X++P)++(A.take c.length++(A.drop c.length++(c++(Q++Y)))))::As):=by
   have:(X++P)++(A.take c.length++(A.drop c.length++(c++(Q++Y))))=X++(P++(A++(c++(Q++Y)))):=by
    conv=>rhs;rw[z]
    simp only[qm,zk,zO]
   rw[this];exact r
  refine(mH (X++P) (A.take c.length) (A.drop c.length) c (Q++Y) c.length _ _ l rfl rfl (by simp;omega) (by simp;omega) d).mono ?_;rintro _ w ⟨rfl,i⟩;refine⟨(),rfl,(P++c,A.drop c.length,A.take c.length,Q),?_,⟨by dsimp only;simp;omega,by dsimp only;omega,by dsimp only;simp;omega,?_,?_⟩,by dsimp only;simp;omega⟩
  ·dsimp only;rw[l,ak _];simp;omega
  ·dsimp only;rw[o,qy];simp
  ·dsimp only;have:X++((P++c)++(A.drop c.length++(A.take c.length++(Q++Y))))=(X++P)++(c++(A.drop c.length++(A.take c.length++(Q++Y)))):=by simp
   rw[this];exact i
 ·have q:A.length<c.length:=by omega
  obtain⟨j,M⟩:∃j,j=c.length-A.length:=⟨_,rfl⟩
  have G:c=c.take j++c.drop j:=(qy _ _).symm;have k:(c.drop j).length=A.length:=by simp;omega
  have g:(c.take j).length=j:=by simp;omega
  have f:qc vR (((X.length+U.length:Nat):Int)-A.length)=((X++P).length:Int):=by rw[ak _];simp;omega
  have D:qc vR ((qc vR (((X.length+U.length:Nat):Int)+c.length))-A.length)=(((X++P).length+A.length+(c.take j).length:Nat):Int):=by
   rw[ak (((X.length+U.length:Nat):Int)+c.length),ak _,g];simp;omega
  rw[f,D];have d:aa B h0 u (bT s ((X++P)++(A++(c.take j++(c.drop j++(Q++Y)))))::As):=by
   have:(X++P)++(A++(c.take j++(c.drop j++(Q++Y))))=X++(P++(A++(c++(Q++Y)))):=by
    conv=>rhs;rw[G]
    simp only[qm,zk,zO]
   rw[this];exact r
  refine(mH (X++P) A (c.take j) (c.drop j) (Q++Y) A.length _ _ rfl k rfl rfl (by simp;omega) d).mono ?_;rintro _ w ⟨rfl,i⟩;refine⟨(),rfl,(P,c.drop j,c.take j,A++Q),?_,⟨by dsimp only;omega,by dsimp only;omega,by dsimp only;omega,?_,?_⟩,by dsimp only;omega⟩
  ·dsimp only;rw[g,k,ak _];congr 1;omega
  ·dsimp only;rw[o,qy];simp
  ·dsimp only;have:X++(P++(c.drop j++(c.take j++((A++Q)++Y))))=(X++P)++(c.drop j++(c.take j++(A++(Q++Y)))):=by simp
   rw[this];exact i
 ·have p:A.length=c.length:=by omega
  have f:qc vR (((X.length+U.length:Nat):Int)-A.length)=((X++P).length:Int):=by rw[ak _];simp;omega
  rw[f];have d:aa B h0 u (bT s ((X++P)++(A++([]++(c++(Q++Y)))))::As):=by
   have:(X++P)++(A++([]++(c++(Q++Y))))=X++(P++(A++(c++(Q++Y)))):=by simp
   rw[this];exact r
  refine(mH (X++P) A [] c (Q++Y) A.length _ _ rfl p.symm rfl (by simp;omega) (by simp;omega) d).mono ?_;rintro _ w ⟨rfl,i⟩;refine⟨(),rfl,rfl,?_⟩;have:X++(V++(U++Y))=(X++P)++(c++([]++(A++(Q++Y)))):=by
   have:V++(U++Y)=(V++U)++Y:=by simp
   rw[this,o];simp
  rw[this];exact i
end
end Go.Qw
namespace Wl
open Go
theorem El(l:aQ)(x:UInt8):bO (l++[x])=bO l*256+x.toNat:=by unfold bO;rw[List.foldl_append];rfl
theorem tZ:∀l:aQ,l.length<=4->0<=bO l/\bO l<4294967296/\(l.length<=3->bO l<16777216)
 |[],_=>by simp[bO]
 |[a],_=>by have:=a.toNat_lt;simp only[bO,zw,wj];omega
 |[a,b],_=>by have:=a.toNat_lt;have:=b.toNat_lt;simp only[bO,zw,wj];omega
 |[a,b,c],_=>by have:=a.toNat_lt;have:=b.toNat_lt;have:=c.toNat_lt;simp only[bO,zw,wj];omega
 |[a,b,c,d],_=>by have:=a.toNat_lt;have:=b.toNat_lt;have:=c.toNat_lt;have:=d.toNat_lt;simp only[bO,zw,wj,zc,wZ];omega
 |_::_::_::_::_::_,h=>by simp at h
theorem Pw(n x:Nat)(e:n<2^32:=by omega)(f:x<256:=by omega):qc vR (((qq (qf vR) (qc vR ((n:Int)*2^min (8:Int).toNat (qf vR)))|||qq (qf vR) (qc vR (x:Int))).toNat:Nat):Int)=(n:Int)*256+x:=by
 have d:min (8:Int).toNat (qf vR)=8:=rfl;rw[d];have c:qc vR ((n:Int)*2^8)=((n*256:Nat):Int):=by rw[Go.Vc.ak _];omega
 have e2:qc vR (x:Int)=((x:Nat):Int):=Go.Vc.ak _;rw[c,e2];have a:(qq (qf vR) ((n*256:Nat):Int)|||qq (qf vR) ((x:Nat):Int)).toNat=n*256+x:=by
  show((qq 64 ((n*256:Nat):Int)|||qq 64 ((x:Nat):Int):BitVec 64)).toNat=n*256+x;rw[BitVec.toNat_or,wi,wi,wo,wo,zP (by omega),zP (by omega)];have:=Nat.shiftLeft_add_eq_or_of_lt (b:=x) (i:=8) (by omega) n;rw[Nat.shiftLeft_eq,show(2:Nat)^8=256 from rfl]at this;omega
 rw[a,Go.Vc.ak _];omega
end Wl
namespace Go.Vc
open Go Wl
def cX:ja bg cJ:=⟨fun h q a b=>(a.1=b.object/\a.2.1=b.block/\a.2.2.1=b.id/\(a.2.2.2.1,a.2.2.2.2.1,a.2.2.2.2.2.1)=b.p/\a.2.2.2.2.2.2.1=b.seed/\0<=b.seed/\b.seed<4294967296)/\Seq h q a.2.2.2.2.2.2.2 1 av b.data,fun a d=>⟨a.1,a.2.ag d⟩,fun a c=>⟨a.1,a.2.mono c⟩⟩
end Go.Vc
namespace Go.Qw
open Go Go.Vc Go.Proofs Wl
theorem xZ{p q:ap}(a b:Sl)(d c:aQ)(h:Heap)(e:Seq h p a 1 av d)(f:Seq h q b 1 av c):
  ab vV 122 #[a,b] h fun v h'=>v=vP (decide (d=c))/\h'=h:=by
 refine DL a b ?_;unfold uC;refine LP af ⟨_,rfl,rfl⟩ ⟨_,rfl,rfl⟩ ⟨_,rfl,rfl⟩ e (LP af ⟨_,rfl,rfl⟩ ⟨_,rfl,rfl⟩ ⟨_,rfl,rfl⟩ f ⟨?_,rfl⟩);rw[ByteArray.toList_mk,ByteArray.toList_mk];have:(d==c)=decide (d=c):=by rw[Bool.eq_iff_iff];simp
 rw[this]
theorem Em(b:Sl)(c:aQ)(h:Heap)(i:Rd h b 1 av c)(A:c.length<=2^30)(f:b.len<=b.cap):
  ab vV 67 #[b] h fun v h'=>(bQ c=none->v=.tuple #[vL vR 0,vM none 0 0,vP false]/\Sp h h' [])/\
   ∀k x,bQ c=some (k,x)->∃r:Sl,v=.tuple #[vL vR k,r,vP true]/\Sp h h' [ao 5 r 1 av x]:=by
 refine Hj b ?_;unfold Bu;have w:=i.len;refine cq (fun e=>?_) (fun e=>?_)
 ·have:bQ c=none:=by unfold bQ;rw[if_neg (fun a=>e (by omega))]
  rw[this];exact⟨fun _=>⟨rfl,Sp.refl h⟩,fun k x h=>(by cases h)⟩
 have m:c.length=64:=by omega
 have h3:3<c.length:=by omega
 refine i.lp 3 rfl h3 ((c.getD 3 0).toNat:Int) (by rw[getD_lt h3];rfl) fun y o=>⟨⟨by decide,by decide,by omega⟩,?_⟩
 have d:=(i.drop 4 f).take 55 (by simp;omega);have q:((c.drop 4).take 55).length=55:=by simp;omega
 refine(ie ⟨_,55,b.cap-4⟩ ((c.drop 4).take 55) h d).mono ?_;rintro _ t ⟨r,rfl,n⟩;refine⟨r,rfl,go n.ag ⟨o,trivial⟩,?_⟩;have z:=(c.getD 3 0).toNat_lt;rw[ak ((c.getD 3 0).toNat:Int)];refine(xX ((c.getD 3 0).toNat:Int) r ((c.drop 4).take 55) t (n.seq 0 rfl fun _=>rfl)).mono ?_;rintro _ s ⟨p,rfl,u⟩;have g:=n.comp u;refine⟨p,rfl,(xZ b p c _ s (i.up g.ag) (g.seq 1 rfl fun _=>rfl)).mono ?_⟩;rintro _ h3 ⟨rfl,rfl⟩;refine⟨_,rfl,bf (fun e2=>?_) (fun e2=>?_)⟩
 ·have l:c≠cb ((c.getD 3 0).toNat:Int) ((c.drop 4).take 55):=of_decide_eq_false e2;have:bQ c=none:=by unfold bQ;rw[if_neg (fun a=>l a.2.symm)]
  rw[this];exact⟨fun _=>⟨rfl,.zip g.ag⟩,fun k x h=>(by cases h)⟩
 ·have j:c=cb ((c.getD 3 0).toNat:Int) ((c.drop 4).take 55):=of_decide_eq_true e2;have:bQ c=some (((c.getD 3 0).toNat:Int),(c.drop 4).take 55):=by unfold bQ;rw[if_pos ⟨m,j.symm⟩]
  rw[this];refine⟨fun h=>(by cases h),fun k x a=>?_⟩;injection a with a
  injection a with hh1 hh2
  subst hh1;subst hh2;exact⟨r,rfl,g.cL [0]⟩
theorem GI(b:Sl)(l:aQ)(h:Heap)(d:Rd h b 1 av l)(k:l.length<=4):ab vV 228 #[b] h fun v h'=>v=vL vR (bO l)/\h'=h:=by
 refine Ea b ?_;unfold uM;have g:=d.len;refine aA (fun i:Nat=>(bO (l.take i),(i:Int))) (fun i h'=>i<=l.length/\h'=h) (fun i=>l.length-i) 0 rfl ⟨by omega,rfl⟩ ?_;rintro i o ⟨m,rfl⟩;dsimp only;refine aj (fun e=>?_) (fun e=>?_)
 ·have a:i<l.length:=by omega
  refine d.cA i rfl a (l[i].toNat:Int) rfl ⟨by decide,?_⟩;have c:=(tZ (l.take i) (by simp;omega))
  have f:=c.2.2 (by simp;omega);have p:=l[i].toNat_lt;obtain⟨n,j⟩:∃n:Nat,bO (l.take i)=(n:Int):=⟨(bO (l.take i)).toNat,by omega⟩
  refine⟨i+1,?_,⟨by omega,rfl⟩,by omega⟩;rw[aO _ _ a,El,j,Pw n _,ak ((i:Int)+1)];rfl
 ·rw[qj (by omega)];exact⟨rfl,rfl⟩
theorem BH(x:bg)(r:cJ)(h:Heap)(I:js cX h x r):ab vV 207 #[recv x] h fun v h'=>v=vP (eX r)/\Sp h h' []:=by
 refine FA x ?_;unfold xL;obtain⟨⟨H,e2,E,s,J,_⟩,G⟩:=I;have m:x.2.2.2.1=r.p.1:=congrArg (·.1) s;have n:x.2.2.2.2.1=r.p.2.1:=congrArg (·.2.1) s;have c:x.2.2.2.2.2.1=r.p.2.2:=congrArg (·.2.2) s;have d:=Seq.len G;refine(Sp.refl h).boxed fun a i e=>?_;have e:Sp h i [ai a 49 (ba x)]:=e;have l:=e.box 0 rfl;have w:cellOf i a=some (vL vR r.object):=by rw[<-H];exact l.cell0 rfl
 have y:cellOf i (a.add 1)=some (vL vR r.block):=by rw[<-e2];exact l.cell rfl
 have u:cellOf i (a.add 2)=some (vL vR r.id):=by rw[<-E];exact l.cell rfl
 have t:∀{h':Heap},Sp h h' [ai a 49 (ba x)]->(eX r=true->False)->Value.bool false=vP (eX r)/\Sp h h' []:=fun{h'} H' hn=>⟨by cases hq:eX r with|false=>rfl|true=>exact absurd hq hn,.zip H'.ag⟩
 refine cg (fun b h'=>b=decide ((0<=r.object/\r.object<=16777215)/\(0<=r.block/\r.block<=7)/\(0<=r.id/\r.id<=65535))/\h'=i) ?_ ?_
 ·refine⟨_,w,aj (fun z=>⟨_,w,aj (fun f=>⟨_,y,aj (fun A=>⟨_,y,aj (fun F=>⟨_,u,aj (fun B=>⟨_,u,?_,rfl⟩) fun B=>⟨?_,rfl⟩⟩) fun F=>⟨?_,rfl⟩⟩) fun A=>⟨?_,rfl⟩⟩) fun f=>⟨?_,rfl⟩⟩) fun z=>⟨?_,rfl⟩⟩
  ·rw[decide_eq_decide];omega
  all_goals (symm;rw[decide_eq_false_iff_not];omega)
 ·rintro _ _ ⟨rfl,rfl⟩;refine aj (fun g=>?_) fun g=>t e fun q=>g (by have:=(fX r).1 q;omega);refine⟨r.p,by rw[<-m,<-n,<-c];exact l.ra 3 rfl rfl rfl,(dO r.p _).mono ?_⟩;rintro _ h3 ⟨rfl,D⟩;have o:Sp h h3 [ai a 49 (ba x)]:=e.up D.ag;have j:=o.box 0 rfl;refine⟨_,rfl,bn (fun f=>?_) fun f=>t o fun q=>by have:=((fX r).1 q).2.2.2.1;rw[f]at this;cases this⟩;refine⟨x.2.2.2.2.2.2.2,j.cell rfl,r.p.2.2,by rw[<-c];exact j.at2 3 2 rfl,?_,.zip o.ag⟩;congr 1;by_cases k:(r.data.length:Int)=r.p.2.2
  ·have:eX r=true:=(fX r).2 ⟨by omega,by omega,by omega,f,k⟩;rw[this,d];simpa using k
  ·have:eX r=false:=by
    cases hq:eX r with
    |false=>rfl
    |true=>exact absurd ((fX r).1 hq).2.2.2.2 k
   rw[this,d];simpa using k
section
variable {B:ap} {h0 h h':Heap} {As:List HP}
theorem jW(s:Sl)(l:aQ)(n:Int)(k:Nat)(p:k<=4)(m:l.length<=2^30)(H:aa B h0 h (ao 5 s 1 av l::As)):
  ab vV 208 #[s,vL vR n,vL vR k] h fun v h'=>∃r:Sl,v=r/\aa B h0 h' (ao 5 r 1 av (l++bm n k)::As):=by
 refine Bd s n k ?_;unfold pY;rw[ak ((k:Int)-1)];refine aA (fun t:Sl×Nat=>(t.1,(k:Int)-1-t.2)) (fun t h'=>t.2<=k/\aa B h0 h' (ao 5 t.1 1 av (l++(bm n k).take t.2)::As)) (fun t=>k-t.2) (s,0) (by simp) ⟨by simp,by simpa using H⟩ ?_;rintro⟨r,t⟩ q ⟨j,b⟩;dsimp only at*;refine aj (fun e=>?_) (fun e=>?_)
 ·have a:t<k:=by omega
  have g:qc vR ((8:Int)*((k:Int)-1-t))=((8*(k-1-t):Nat):Int):=by
   rw[ak _];omega
  rw[g,qo];have e2:min (8*(k-1-t)) (qf vR)=8*(k-1-t):=by
   have:qf vR=64:=rfl;omega
  rw[e2,bX];refine⟨by omega,?_⟩;refine b.push af 0 rfl fv rfl (by decide) (fun _=>rfl) dN (b8 (qD n (2^(8*(k-1-t))))) rfl (by decide) (by simp[bq];omega) fun f o c=>?_;refine⟨(f,t+1),?_,⟨by dsimp only;omega,?_⟩,by dsimp only;omega⟩
  ·dsimp only;have d:qc vR ((k:Int)-1-t-1)=(k:Int)-1-((t+1:Nat):Int):=by
    rw[ak _];omega
   rw[d]
  ·dsimp only;have i:(bm n k).take t++[b8 (qD n (2^(8*(k-1-t))))]=(bm n k).take (t+1):=by
    rw[aO _ _ (by rw[bq];exact a)];congr 2;simp[bm]
   rw[<-i,<-qm];exact c
 ·have:t=k:=by omega
  subst this;rw[qj (by rw[bq];omega)]at b;exact⟨r,rfl,b⟩
end
theorem rI(x:bg)(r:cJ)(h:Heap)(F:js cX h x r):ab vV 144 #[recv x] h fun v h'=>∃s:Sl,v=s/\Sp h h' [ao 5 s 1 av (cB r)]:=by
 refine Fv x ?_;unfold xF;obtain⟨⟨X,e2,R,u,O,e7,e8⟩,V⟩:=id F;have j:x.2.2.2.1=r.p.1:=congrArg (·.1) u;have k:x.2.2.2.2.1=r.p.2.1:=congrArg (·.2.1) u;have l:x.2.2.2.2.2.1=r.p.2.2:=congrArg (·.2.2) u;refine(Sp.refl h).boxed fun e J b=>?_;have b:Sp h J [ai e 49 (ba x)]:=b;refine⟨x,(b.box 0 rfl).aI _ rfl,(BH x r J (cX.mono (cX.loc F b.ag) fun _ S=>qG S b.ag.1)).mono ?_⟩;rintro _ Q ⟨rfl,M⟩;have i:Sp h Q [ai e 49 (ba x)]:=b.up M.ag;refine⟨_,rfl,bf (fun g=>?_) (fun g=>?_)⟩
 ·unfold cB;rw[g];exact⟨⟨none,0,0⟩,rfl,(i.nil 5 1 av).cL [1]⟩
 have T:=kS g;have w:=i.box 0 rfl;refine⟨r.object,by rw[<-X];exact w.cell0 rfl,(jW ⟨none,0,0⟩ [] r.object 3 (by decide) (by simp) (i.nil 5 1 av).cn).mono ?_⟩;rintro _ h3 ⟨z,rfl,E⟩;have y:=E.box 1 rfl;refine⟨z,rfl,r.block,by rw[<-e2];exact y.cell rfl,(jW z _ r.block 1 (by decide) (by simp[bq]) E).mono ?_⟩;rintro _ h4 ⟨G,rfl,H⟩;have n:=H.box 1 rfl;refine⟨G,rfl,r.id,by rw[<-R];exact n.cell rfl,(jW G _ r.id 2 (by decide) (by simp[bq]) H).mono ?_⟩;rintro _ h5 ⟨U,rfl,K⟩;have a:=K.box 1 rfl;refine⟨U,rfl,r.p.1,by rw[<-j];exact a.cell rfl,r.p.2.1,by rw[<-k];exact a.at2 3 1 rfl,r.p.2.2,by rw[<-l];exact a.at2 3 2 rfl,?_⟩;rw[bX,bX,bX];refine K.lit af av fv rfl [b8 r.p.1,b8 r.p.2.1,b8 r.p.2.2] rfl (show 3*1<=2^20 by decide) rfl fun N Z I=>?_;refine I.append af 0 rfl fv ⟨_,_,rfl,rfl⟩ rfl (by decide) (fun _=>rfl) (I.seq 2 rfl fun _=>rfl) dN (by simp[bq]) fun A Y d=>?_;have d:Sp h Y [ao 5 A 1 av ([]++bm r.object 3++bm r.block 1++bm r.id 2++[b8 r.p.1,b8 r.p.2.1,b8 r.p.2.2]),ai e 49 (ba x)]:=d.cL [0,1];have t:=d.box 1 rfl;refine⟨r.seed,by rw[<-O];exact t.cell rfl,?_⟩;rw[ak r.seed];refine(jW A _ r.seed 4 (by decide) (by simp[bq]) d).mono ?_;rintro _ h8 ⟨W,rfl,o⟩;have m:=o.box 1 rfl;refine⟨W,rfl,x.2.2.2.2.2.2.2,m.cell rfl,?_⟩;refine o.append af 0 rfl fv ⟨_,_,rfl,rfl⟩ rfl (by decide) (fun _=>rfl) (Seq.up V o.ag) dN (by simp[bq];omega) fun D B f=>?_;have P:[]++bm r.object 3++bm r.block 1++bm r.id 2++[b8 r.p.1,b8 r.p.2.1,b8 r.p.2.2]++bm r.seed 4++r.data=eU r:=by unfold eU;simp[qm]
 have f:Sp h B [ao 5 D 1 av (eU r),ai e 49 (ba x)]:=by rw[<-P];exact f
 refine(xX 1 D (eU r) B (f.seq 0 rfl fun _=>rfl)).mono ?_;rintro _ L ⟨c,rfl,q⟩;refine⟨c,rfl,c,rfl,?_⟩;unfold cB;rw[g,if_pos rfl];exact(f.comp q).cL [2]
theorem Jy(b:Sl)(c:aQ)(h:Heap)(hb:Rd h b 1 av c)(hc:c.length<=2^30)(W:b.len<=b.cap):
  ab vV 162 #[b] h fun v h'=>∃x:bg,v=.tuple #[recv x,vP (bR c).isSome]/\(bR c=none->Sp h h' [])/\∀r,bR c=some r->Sp h h' [EA cX x r]:=by
 refine DS b ?_;unfold uH;refine(Sp.refl h).alloc af rfl fun d h1 H1=>?_;have H1:Sp h h1 [ai d 49 (ba (0,0,0,0,0,0,0,⟨none,0,0⟩))]:=H1;have y:∀{h':Heap} {Bs:List HP},Sp h h' (ai d 49 (ba (0,0,0,0,0,0,0,⟨none,0,0⟩))::Bs)->bR c=none->
   ae vV (qe 49 (vN (some d)) (recv (0,0,0,0,0,0,0,⟨none,0,0⟩))) h' fun _ G=>∃U:bg,ah G d 0 (ba U)/\∃x:bg,Value.tuple #[recv U,vP false]=.tuple #[recv x,vP (bR c).isSome]/\(bR c=none->Sp h G [])/\∀r,bR c=some r->Sp h G [EA cX x r]:=fun{h' Bs} H' F=>by
  refine H'.storeAll af 0 rfl rfl (ba (0,0,0,0,0,0,0,⟨none,0,0⟩)) rfl rfl rfl rfl fun G H4=>?_;exact⟨(0,0,0,0,0,0,0,⟨none,0,0⟩),(H4.box 0 rfl).aI _ rfl,(0,0,0,0,0,0,0,⟨none,0,0⟩),by rw[F];rfl,fun _=>.zip H4.ag,fun r N=>by rw[F]at N;cases N⟩
 refine(Em b c h1 (hb.up H1.ag) hc W).mono ?_;rintro _ h2 ⟨Q0,Q1⟩;cases htc:bQ c with
 |none=>
  obtain⟨rfl,R2⟩:=Q0 htc;have F:bR c=none:=by unfold bR;rw[htc]
  exact⟨(0,⟨none,0,0⟩,false),rfl,aP (bf (fun _=>y (H1.up R2.ag) F) fun e=>by cases e)⟩
 |some kx=>
  obtain⟨k,x⟩:=kx;obtain⟨r,rfl,R2⟩:=Q1 k x htc;have t:Sp h h2 [ai d 49 (ba (0,0,0,0,0,0,0,⟨none,0,0⟩)),ao 5 r 1 av x]:=H1.comp R2;have a5:x.length=55:=by
   unfold bQ at htc;split at htc
   ·rename_i m;injection htc with htc
    injection htc with _ htc
    rw[<-htc];simp;omega
   ·cases htc
  have a7:=(t.own 1 rfl).len;have S:=(t.own 1 rfl).cap;refine⟨(k,r,true),rfl,aP (bf (fun e=>by cases e) fun _=>cq (fun e=>y t ?_) fun L=>?_)⟩
  ·unfold bR;rw[htc];exact if_neg fun m=>e m.1
  dsimp only;have L:k=1:=L;obtain⟨R,s⟩:∃R,R=mS x:=⟨_,rfl⟩
  have I:bR c=if bC R.p=true/\cB R=c then some R else none:=by
   unfold bR;rw[htc];dsimp only;rw[<-s];by_cases m:bC R.p=true/\cB R=c
   ·rw[if_pos m];exact if_pos ⟨L,m⟩
   ·rw[if_neg m];exact if_neg fun h=>m h.2
  have tA:∀{h':Heap},Rd h' r 1 av x->ab vV 228 #[vM r.ptr 3 r.cap] h' fun v M=>v=vL vR R.object/\M=h':=fun{h'} N=>by
   rw[s];exact GI ⟨r.ptr,3,r.cap⟩ (x.take 3) h' (N.take 3 (by omega)) (by simp;omega)
  have O:∀{h':Heap} (j n:Nat),j+n<=55->n<=4->Rd h' r 1 av x->ab vV 228 #[.slice (if r.cap=j then r.ptr else r.ptr.map (·.add (j*1))) n (r.cap-j)] h' fun v M=>v=vL vR (bO ((x.drop j).take n))/\M=h':=fun{h'} j n hjn F N=>
   GI ⟨if r.cap=j then r.ptr else r.ptr.map (·.add (j*1)),n,r.cap-j⟩ ((x.drop j).take n) h' ((N.drop j S).take n (by rw[qR];omega)) (by simp;omega)
  have rd:∀{h':Heap} {A:HP} {Bs:List HP},Sp h h' (A::ao 5 r 1 av x::Bs)->Rd h' r 1 av x:=fun{h' A Bs} H'=>H'.seq 1 rfl fun _=>rfl;have Di:∀{h':Heap} {A A2:HP} {Bs:List HP},Sp h h' (A::A2::ao 5 r 1 av x::Bs)->Rd h' r 1 av x:=fun{h' A A2 Bs} H'=>H'.seq 2 rfl fun _=>rfl;refine cg (fun(a:Addr) h'=>Sp h h' [ai a 49 (ba (R.object,R.block,R.id,0,0,0,0,⟨none,0,0⟩)),ai d 49 (ba (0,0,0,0,0,0,0,⟨none,0,0⟩)),ao 5 r 1 av x]) ?_ ?_
  ·have eb:bO ((x.drop 3).take 1)=R.block:=by rw[s];rfl
   have ei:bO ((x.drop 4).take 2)=R.id:=by rw[s];rfl
   have fin:∀{h':Heap} {a:Addr},Sp h h' [ai d 49 (ba (0,0,0,0,0,0,0,⟨none,0,0⟩)),ao 5 r 1 av x,ai a 49 (ba (0,0,0,0,0,0,0,⟨none,0,0⟩))]->
     ae vV (qe 49 (vN (some a)) (recv (R.object,R.block,R.id,0,0,0,0,⟨none,0,0⟩))) h' fun _ G=>ar.ok [] G/\Sp h G [ai a 49 (ba (R.object,R.block,R.id,0,0,0,0,⟨none,0,0⟩)),ai d 49 (ba (0,0,0,0,0,0,0,⟨none,0,0⟩)),ao 5 r 1 av x]:=fun{h' a} H'=>
    H'.storeAll af 2 rfl rfl (ba (R.object,R.block,R.id,0,0,0,0,⟨none,0,0⟩)) rfl rfl rfl rfl fun G H4=>⟨trivial,H4.cL [2,0,1]⟩
   have A_:∀{h':Heap} {Bs:List HP} {K:Int->Heap->Prop},Sp h h' (ai d 49 (ba (0,0,0,0,0,0,0,⟨none,0,0⟩))::ao 5 r 1 av x::Bs)->K R.object h'->ac vV 228 #[vM r.ptr 3 r.cap] (.one (.sc (.int .i64))) h' K:=fun{h' Bs K} H' hK=>by
    refine(tA (rd H')).mono ?_;rintro _ _ ⟨rfl,rfl⟩;exact⟨_,rfl,hK⟩
   have B_:∀{h':Heap} {Bs:List HP} {K:Int->Heap->Prop},Sp h h' (ai d 49 (ba (0,0,0,0,0,0,0,⟨none,0,0⟩))::ao 5 r 1 av x::Bs)->K R.block h'->ac vV 228 #[.slice (if r.cap=3 then r.ptr else r.ptr.map (·.add (3*1))) 1 (r.cap-3)] (.one (.sc (.int .i64))) h' K:=fun{h' Bs K} H' hK=>by
    refine(O 3 1 (by decide) (by decide) (rd H')).mono ?_;rintro _ _ ⟨rfl,rfl⟩;exact⟨_,rfl,by rw[eb];exact hK⟩
   have C_:∀{h':Heap} {Bs:List HP} {K:Int->Heap->Prop},Sp h h' (ai d 49 (ba (0,0,0,0,0,0,0,⟨none,0,0⟩))::ao 5 r 1 av x::Bs)->K R.id h'->ac vV 228 #[.slice (if r.cap=4 then r.ptr else r.ptr.map (·.add (4*1))) 2 (r.cap-4)] (.one (.sc (.int .i64))) h' K:=fun{h' Bs K} H' hK=>by
    refine(O 4 2 (by decide) (by decide) (rd H')).mono ?_;rintro _ _ ⟨rfl,rfl⟩;exact⟨_,rfl,by rw[ei];exact hK⟩
   refine⟨⟨by decide,by omega⟩,⟨by decide,by decide,by omega⟩,⟨by decide,by decide,by omega⟩,A_ t ⟨trivial,B_ t ⟨trivial,C_ t ⟨trivial,?_⟩,?_⟩,?_⟩,?_⟩
   ·refine t.alloc af rfl fun a9 h9 l=>⟨trivial,?_⟩
    exact fin l
   ·refine t.alloc af rfl fun a9 h9 l=>⟨trivial,?_⟩
    exact C_ l ⟨trivial,fin l⟩
   ·refine t.alloc af rfl fun a9 h9 l=>⟨trivial,?_⟩
    exact B_ l ⟨trivial,C_ l ⟨trivial,fin l⟩⟩
   ·refine t.alloc af rfl fun a9 h9 l=>⟨trivial,?_⟩
    exact A_ l ⟨trivial,B_ l ⟨trivial,C_ l ⟨trivial,fin l⟩⟩⟩
  ·rintro a9 h5 H5;have J:0<=R.seed/\R.seed<4294967296:=by
    have:=tZ ((x.drop 9).take 4) (by simp;omega);rw[s];exact⟨this.1,this.2.1⟩
   have e6:bO ((x.drop 6).take 1)=R.p.1:=by rw[s];rfl
   have e7:bO ((x.drop 7).take 1)=R.p.2.1:=by rw[s];rfl
   have e8:bO ((x.drop 8).take 1)=R.p.2.2:=by rw[s];rfl
   have e9:bO ((x.drop 9).take 4)=R.seed:=by rw[s];rfl
   refine aP ⟨⟨by decide,by decide,by omega⟩,⟨by decide,by decide,by omega⟩,⟨by decide,by decide,by omega⟩,(O 6 1 (by decide) (by decide) (Di H5)).mono ?_⟩;rintro _ _ ⟨rfl,rfl⟩;refine⟨_,rfl,trivial,(O 7 1 (by decide) (by decide) (Di H5)).mono ?_⟩;rintro _ _ ⟨rfl,rfl⟩;refine⟨_,rfl,trivial,(O 8 1 (by decide) (by decide) (Di H5)).mono ?_⟩;rintro _ bb ⟨rfl,rfl⟩;refine⟨_,rfl,trivial,?_⟩;dsimp only;rw[e6,e7,e8];refine H5.store af 0 rfl rfl 3 [vL vR R.p.1,vL vR R.p.2.1,vL vR R.p.2.2] rfl rfl rfl (by simp) fun am w=>⟨trivial,?_⟩
   have w:Sp h am [ai a9 49 (ba (R.object,R.block,R.id,R.p.1,R.p.2.1,R.p.2.2,0,⟨none,0,0⟩)),ai d 49 (ba (0,0,0,0,0,0,0,⟨none,0,0⟩)),ao 5 r 1 av x]:=w;refine⟨⟨by decide,by decide,by omega⟩,(O 9 4 (by decide) (by decide) (Di w)).mono ?_⟩;rintro _ bd ⟨rfl,rfl⟩;refine⟨_,rfl,?_⟩;dsimp only;have ew:qc vT (bO ((x.drop 9).take 4))=R.seed:=by
    rw[e9];unfold qc;simp[qf,wS];omega
   rw[ew];refine w.store af 0 rfl rfl 6 [vL vT R.seed] rfl rfl rfl (by simp) fun Z B=>?_;have B:Sp h Z [ai a9 49 (ba (R.object,R.block,R.id,R.p.1,R.p.2.1,R.p.2.2,R.seed,⟨none,0,0⟩)),ai d 49 (ba (0,0,0,0,0,0,0,⟨none,0,0⟩)),ao 5 r 1 av x]:=B;refine⟨R.p,(B.box 0 rfl).ra 3 rfl rfl rfl,(dO R.p Z).mono ?_⟩;rintro _ P ⟨rfl,ay⟩;have z:Sp h P [ai a9 49 (ba (R.object,R.block,R.id,R.p.1,R.p.2.1,R.p.2.2,R.seed,⟨none,0,0⟩)),ai d 49 (ba (0,0,0,0,0,0,0,⟨none,0,0⟩)),ao 5 r 1 av x]:=B.up ay.ag;refine⟨_,rfl,bf (fun g=>y (z.bh 2 [1,0]) (by rw[I,if_neg (fun m=>by rw[g]at m;cases m.1)])) fun g=>?_⟩;have a8:=(bS R.p).1 g;refine⟨R.p.2.2,(z.box 0 rfl).at2 3 2 rfl,?_⟩;rw[ak ((13:Int)+R.p.2.2)];refine⟨⟨by decide,by omega,by omega⟩,?_⟩;have a2:((13:Int)+R.p.2.2).toNat-(13:Int).toNat=R.p.2.2.toNat:=by omega
   rw[a2];have E:(x.drop 13).take R.p.2.2.toNat=R.data:=by rw[s];rfl
   have H:=((Di z).drop 13 S).take R.p.2.2.toNat (by rw[qR];omega);rw[E]at H;have bl:R.data.length=R.p.2.2.toNat:=by rw[<-E];simp;omega
   refine(ie ⟨if r.cap=13 then r.ptr else r.ptr.map (·.add (13*1)),R.p.2.2.toNat,r.cap-13⟩ R.data P H).mono ?_;rintro _ a6 ⟨u,rfl,ad⟩;have ax:=z.comp ad;refine⟨u,rfl,?_⟩;refine ax.store af 0 rfl rfl 7 [u] rfl rfl rfl (by simp) fun Q i=>?_;have i:Sp h Q [ai a9 49 (ba (R.object,R.block,R.id,R.p.1,R.p.2.1,R.p.2.2,R.seed,u)),ai d 49 (ba (0,0,0,0,0,0,0,⟨none,0,0⟩)),ao 5 r 1 av x,ao 5 u 1 av R.data]:=i;obtain⟨X,hX⟩:∃X:bg,X=(R.object,R.block,R.id,R.p.1,R.p.2.1,R.p.2.2,R.seed,u):=⟨_,rfl⟩
   rw[<-hX]at i;have V:∀{h':Heap} {q:ap},Seq h' q u 1 av R.data->cX.p h' q X R:=fun{h' q} hs=>by rw[hX];exact⟨⟨rfl,rfl,rfl,rfl,rfl,J⟩,hs⟩
   refine⟨X,(i.box 0 rfl).aI _ rfl,(rI X R Q (V (i.seq 3 rfl fun _=>rfl))).mono ?_⟩;rintro _ a0 ⟨s5,rfl,a4⟩;have o:=i.comp a4;refine⟨s5,rfl,(xZ b s5 c (cB R) a0 (hb.up o.ag) (o.seq 4 rfl fun _=>rfl)).mono ?_⟩;rintro _ bk ⟨rfl,rfl⟩;refine⟨_,rfl,bf (fun T=>y (o.bh 2 [1,0]) (by rw[I,if_neg (fun m=>(of_decide_eq_false T) m.2.symm)])) fun T=>?_⟩;have T:c=cB R:=of_decide_eq_true T;refine⟨X,(o.box 0 rfl).aI _ rfl,?_⟩;refine o.storeAll af 1 rfl rfl (ba X) rfl rfl rfl rfl fun a3 Y=>?_;have f:bR c=some R:=by rw[I,if_pos ⟨g,T.symm⟩]
   refine⟨X,(Y.box 1 rfl).aI _ rfl,X,by rw[f];rfl,fun F=>(by rw[f]at F;cases F),fun r' D=>?_⟩;rw[f]at D;injection D with D
   subst D;have al:Sp h a3 [ao 5 u 1 av R.data]:=Y.cL [3];exact al.jo 0 rfl fun q hq=>V (hq.1.seq (fun _=>rfl) hq.2)
end Go.Qw
namespace Go.Vc
open Go Wl Go.Qw
section
variable {B:ap} {h0 h h':Heap} {As L:List HP} {X Y Z:HP}
theorem aa.Wq(H:aa B h0 h (X::Y::(L++As))):aa B h0 h (L++(X::Y::As)):=
 H.pick (fun i=>if i<L.length then i+2 else if i=L.length then 0 else if i=L.length+1 then 1 else i) (fun a b c=>by(try dsimp only at c);split at c<;>split at c<;>(try split at c)<;>(try split at c)<;>(try split at c)<;>(try split at c)<;>omega) fun i A d=>by
  try dsimp only
  by_cases g:i<L.length
  ·rw[ql g]at d;rw[if_pos g,qw,qw,ql g];exact d
  ·rw[qh (by omega)]at d;rw[if_neg g];by_cases e:i=L.length
   ·subst e;rw[if_pos rfl];rw[q5]at d;exact d
   ·rw[if_neg e];by_cases f:i=L.length+1
    ·subst f;rw[if_pos rfl];rw[show L.length+1-L.length=1 by omega]at d;exact d
    ·rw[if_neg f];obtain⟨j,rfl⟩:∃j,i=L.length+(j+2):=⟨i-L.length-2,by omega⟩
     rw[zd,qw,qw]at d;rw[show L.length+(j+2)=(L.length+j)+1+1 by omega,qw,qw,qh (by omega),zd];exact d
theorem aa.Ur(n:Nat)(c:L[n]?=some X)(H:aa B h0 h (Y::Z::(L++As))):aa B h0 h (X::Z::Y::(L.set n emp++As)):=by
 have a:=(qk.1 c).1;have b:=H.cons (n+2) (A:=X) (by rw[qw,qw,ql a];exact c);have e:(Y::Z::(L++As)).set (n+2) emp=Y::Z::(L.set n emp++As):=by
  rw[wm,wm,List.set_append_left _ _ a]
 rw[e]at b;exact b.bh 3 [0,2,1]
theorem aa.Mb(n:Nat)(f:n<L.length)(H:aa B h0 h (X::Z::Y::(L.set n emp++As))):aa B h0 h (Y::Z::(L.set n X++As)):=
 H.pick (fun i=>if i=0 then 2 else if i=1 then 1 else if i=n+2 then 0 else i+1) (fun a b c=>by(try dsimp only at c);split at c<;>split at c<;>(try split at c)<;>(try split at c)<;>(try split at c)<;>(try split at c)<;>omega) fun i A d=>by
  try dsimp only
  match i,d with
  |0,d=>exact d
  |1,d=>exact d
  |i+2,d=>
   rw[if_neg (by omega),if_neg (by omega)];rw[qw,qw]at d;by_cases e:i=n
   ·subst e;rw[ql (by simpa using f),zH f]at d;rw[if_pos rfl];exact d
   ·rw[if_neg (by omega),qw,qw,qw];by_cases g:i<L.length
    ·rw[ql (by simpa using g),zG (by omega)]at d;rw[ql (by simpa using g),zG (by omega)];exact d
    ·rw[qh (by simp;omega),qZ]at d;rw[qh (by simp;omega),qZ];exact d
end
structure Kit where
 tS:Nat
 tP:Nat
 tD:Nat
 f:Addr->bj->Sl->Sl->aM
def VC(k:Kit)(pw:Addr)(a:aK)(d:Option bj):HP:=match a,d with
 |some a,some d=>iR k.tD (k.f pw) a d
 |_,_=>emp
abbrev cT(a:aM)(pw:Addr)(offs:Int)(b:List aK):aM:=a++(vN (some pw)::vL vR offs::b.map .pointer)
structure fl (mc:aM) (da:List aK) (ds:aR):Prop where
 l8:mc.length=8
 la:da.length=64
 ls:ds.length=64
 same:∀i:Nat,(da.getD i none).isSome=(ds.getD i none).isSome
abbrev gj(k:Kit)(pw:Addr)(a:List aK)(ds:aR):List HP:=List.zipWith (VC k pw) a ds
def bi(k:Kit)(a pw:Addr)(c:aM)(offs:Int)(b:List aK)(w:Pow)(ds:aR):HP:=
 (HP.all (ai a k.tS (cT c pw offs b)::dq k.tP pw w::gj k pw b ds)).and (fl c b ds)
section
variable {k:Kit} {B:ap} {h0 h h':Heap} {As:List HP} {a pw:Addr} {mc:aM} {offs:Int} {da:List aK} {w w':Pow} {ds:aR} {d d':bj} {n:Nat}
theorem Jz(ok:fl mc da ds):(gj k pw da ds).length=64:=by simp[gj,ok.la,ok.ls]
theorem aa.pi(H:aa B h0 h (bi k a pw mc offs da w ds::As)):fl mc da ds/\aa B h0 h (ai a k.tS (cT mc pw offs da)::dq k.tP pw w::(gj k pw da ds++As)):=by
 obtain⟨H,ok⟩:=H.Ce;exact⟨ok,H.rV⟩
theorem aa.re(ok:fl mc da ds)(H:aa B h0 h (ai a k.tS (cT mc pw offs da)::dq k.tP pw w::(gj k pw da ds++As))):aa B h0 h (bi k a pw mc offs da w ds::As):=
 (aa.closeAll (ai a k.tS (cT mc pw offs da)::dq k.tP pw w::gj k pw da ds) H).toCe ok
theorem fl.addr(ok:fl mc da ds)(c:ds[n]?=some (some d)):∃b,da[n]?=some (some b):=by
 have f:n<64:=by have:=(qk.1 c).1;rw[ok.ls]at this;exact this
 have a:=ok.same n;rw[qg,qg,c]at a;have e:n<da.length:=by rw[ok.la];exact f
 rw[qd e]at a⊢;simp at a;obtain⟨b,g⟩:=yP.1 a;exact⟨b,by rw[g]⟩
theorem fl.Px(ok:fl mc da ds)(c:n<64)(d:ds[n]?=some none):da[n]?=some none:=by
 have a:=ok.same n;rw[qg,qg,d]at a;have b:n<da.length:=by rw[ok.la];exact c
 rw[qd b]at a⊢;simp at a;rw[a]
theorem fl.set(ok:fl mc da ds){b:Addr}(c:da[n]?=some (some b)):fl mc da (ds.set n (some d')):=by
 refine⟨ok.l8,ok.la,by rw[qZ];exact ok.ls,fun i=>?_⟩;by_cases a:n=i
 ·subst a;have d:n<ds.length:=by have:=(qk.1 c).1;rw[ok.la]at this;rw[ok.ls];exact this
  rw[qg,c,qg,zH d];rfl
 ·rw[qg (l:=ds.set n _),zG a,<-qg];exact ok.same i
theorem RH{b:Addr}(c:da[n]?=some (some b))(d:n<ds.length):(gj k pw da ds).set n (iR k.tD (k.f pw) b d')=gj k pw da (ds.set n (some d')):=by
 apply zq;intro j;have e:n<da.length:=(qk.1 c).1;simp only[gj,qW,wC,List.length_zipWith];by_cases a:n=j
 ·subst a;rw[if_pos rfl,if_pos (by omega),if_pos rfl,if_pos d,c];rfl
 ·simp[a]
def HT(k:Kit)(a pw:Addr)(c:aM)(offs:Int)(b:List aK)(ds:aR)(n:Nat):HP:=
 (HP.all (ai a k.tS (cT c pw offs b)::(gj k pw b ds).set n emp)).and (fl c b ds)
theorem aa.jI(H:aa B h0 h (bi k a pw mc offs da w ds::As))(c:ds[n]?=some (some d)):∃b,da[n]?=some (some b)/\aa B h0 h (iR k.tD (k.f pw) b d::dq k.tP pw w::HT k a pw mc offs da ds n::As):=by
 obtain⟨ok,g⟩:=H.pi;obtain⟨b,e⟩:=ok.addr c;refine⟨b,e,?_⟩;have i:(gj k pw da ds)[n]?=some (iR k.tD (k.f pw) b d):=by
  simp only[gj,wC,e,c];rfl
 have l:=g.Ur n i;have j:aa B h0 h (iR k.tD (k.f pw) b d::dq k.tP pw w::((ai a k.tS (cT mc pw offs da)::(gj k pw da ds).set n emp)++As)):=l;exact(((aa.closeAll _ j.Wq).toCe ok).bh 3 [1,2,0]:aa B h0 h (iR k.tD (k.f pw) b d::dq k.tP pw w::HT k a pw mc offs da ds n::As))
theorem aa.ua{b:Addr}(m:da[n]?=some (some b))(H:aa B h0 h (iR k.tD (k.f pw) b d'::dq k.tP pw w'::HT k a pw mc offs da ds n::As)):aa B h0 h (bi k a pw mc offs da w' (ds.set n (some d'))::As):=by
 have l:aa B h0 h (HT k a pw mc offs da ds n::dq k.tP pw w'::iR k.tD (k.f pw) b d'::As):=H.bh 3 [2,1,0];obtain⟨l,ok⟩:=l.Ce;have o:=l.rV;have r:n<ds.length:=by have:=(qk.1 m).1;rw[ok.la]at this;rw[ok.ls];exact this
 have s:=Jz (k:=k) (pw:=pw) ok;have g:n<(gj k pw da ds).length:=by rw[s,<-ok.ls];exact r
 obtain⟨L,q⟩:∃L,L=gj k pw da ds:=⟨_,rfl⟩
 rw[<-q]at o g;have t:aa B h0 h (iR k.tD (k.f pw) b d'::dq k.tP pw w'::ai a k.tS (cT mc pw offs da)::(L.set n emp++As)):=by
  refine o.pick (fun i=>if i=0 then 1+L.length+1 else if i=1 then 1+L.length else if i=2 then 0 else if i<3+L.length then i-2 else i) (fun x y c=>by(try dsimp only at c);split at c<;>split at c<;>(try split at c)<;>(try split at c)<;>(try split at c)<;>(try split at c)<;>(try split at c)<;>(try split at c)<;>omega) fun i A e=>?_
  try dsimp only
  have d:(ai a k.tS (cT mc pw offs da)::L.set n emp).length=1+L.length:=by simp;omega
  match i,e with
  |0,e=>rw[if_pos rfl,qh (by omega),d,show 1+L.length+1-(1+L.length)=1 by omega];exact e
  |1,e=>rw[if_neg (by omega),if_pos rfl,qh (by omega),d,q5];exact e
  |2,e=>rw[if_neg (by omega),if_neg (by omega),if_pos rfl];exact e
  |i+3,e=>
   rw[if_neg (by omega),if_neg (by omega),if_neg (by omega)];rw[qw,qw,qw]at e;by_cases j:i<L.length
   ·rw[if_pos (by omega),show i+3-2=i+1 by omega,ql (by rw[d];omega),qw];rw[ql (by simpa using j)]at e;exact e
   ·rw[if_neg (by omega),qh (by rw[d];omega),d,show i+3-(1+L.length)=(i-L.length)+2 by omega,qw,qw];rw[qh (by simp;omega),qZ]at e;exact e
 have p:=aa.Mb n g t;rw[q,RH m r]at p;exact p.re (ok.set m)
end
def jq:ja (Int×Sl) (Int×aQ):=⟨fun h q a b=>a.1=b.1/\Seq h q a.2 1 av b.2,fun a d=>⟨a.1,a.2.ag d⟩,fun a c=>⟨a.1,a.2.mono c⟩⟩
def piv(x:Int×Sl):aM:=[vL vR x.1,x.2]
theorem Mc:∀x,∀c∈piv x,c.oneCell'=true:=by intro x c a;simp[piv]at a;rcases a with rfl|rfl<;>rfl
def gl(b:List aK)(a:Int):aK:=if 0<=a/\a<64 then(b[a.toNat]?).join else none
theorem mI{i:aM}{e:List aK}{ds:aR}(ok:fl i e ds)(a:Int):
  (bF ds a=none/\gl e a=none)∨∃(n:Nat) (d:bj) (b:Addr),a=n/\n<64/\ds[n]?=some (some d)/\bF ds a=some d/\e[n]?=some (some b)/\gl e a=some b:=by
 unfold bF gl;by_cases h:0<=a/\a<64
 ·rw[if_pos h,if_pos h];have f:a.toNat<ds.length:=by rw[ok.ls];omega
  cases hd:ds[a.toNat]with
  |none=>
   have c:ds[a.toNat]?=some none:=by rw[qd f,hd]
   exact .inl ⟨by rw[c];rfl,by rw[ok.Px (by omega) c];rfl⟩
  |some d=>
   have c:ds[a.toNat]?=some (some d):=by rw[qd f,hd]
   obtain⟨b,g⟩:=ok.addr c;exact .inr ⟨a.toNat,d,b,by omega,by omega,c,by rw[c];rfl,g,by rw[g];rfl⟩
 ·rw[if_neg h,if_neg h];exact .inl ⟨rfl,rfl⟩
theorem nD{a:aM}{pw:Addr}{offs:Int}{b:List aK}(h8:a.length=8)(n:Nat):(cT a pw offs b)[10+n]?=(b[n]?).map .pointer:=by
 unfold cT;rw[qh (by omega),h8,show 10+n-8=n+1+1 by omega,qw,qw,qN]
theorem RI{a:aM}{pw:Addr}{offs:Int}{b:List aK}(h8:a.length=8):(cT a pw offs b)[8]?=some (vN (some pw)):=by
 unfold cT;rw[qh (by omega),h8];rfl
theorem Nh{a:aM}{pw:Addr}{offs:Int}{b:List aK}(h8:a.length=8):(cT a pw offs b)[9]?=some (vL vR offs):=by
 unfold cT;rw[qh (by omega),h8];rfl
end Go.Vc
namespace Go.Qw
open Go Go.Vc Go.Proofs Wl
abbrev bz:Go.Vc.Kit:=⟨90,83,74,fun pw=>eC pw⟩
theorem JA{e:TypeId}(s:Sl)(l:aB)(h:Heap)(c:Own h e s 1 aG l)(a:l.length<2^40):ab vV 134 #[s] h fun v h'=>v=vM s.ptr (Lib.compact l).length s.cap/\Own h' e ⟨s.ptr,(Lib.compact l).length,s.cap⟩ 1 aG (Lib.compact l)/\aH (fun b=>¬s.on b) h h':=
 Dt Tryz.slices_Compact_int Tryz.slices_Compact_int_empty c a
section
variable {B:ap} {h0 h h':Heap} {As:List HP} {a pw:Addr} {mc:aM} {offs:Int} {da:List aK} {w:Pow} {ds:aR}
theorem kF(b:Int)(ok:fl mc da ds)(f:bV h a 90 (cT mc pw offs da)):ab vV 28 #[vN (some a),vL vR b] h fun v h'=>v=.pointer (gl da b)/\h'=h:=by
 refine rZ (some a) b ?_;unfold md;have c:¬(0<=b/\b<64)->Value.pointer none=.pointer (gl da b)/\h=h:=fun e=>by unfold gl;rw[if_neg e];exact⟨rfl,rfl⟩
 refine aP (bn (fun e=>by cases e) fun _=>aj (fun e=>c (by omega)) fun g=>aj (fun e=>c (by omega)) fun e2=>?_);have d:b.toNat<da.length:=by rw[ok.la];omega
 refine⟨a,rfl,⟨by omega,by omega⟩,da[b.toNat],?_,?_,rfl⟩
 ·rw[zN];refine f.at2 10 b.toNat ?_;rw[nD ok.l8,qd d];rfl
 ·unfold gl;rw[if_pos (by omega),qd d];rfl
theorem aa.cK(H:aa B h0 h (bi bz a pw mc offs da w ds::As)):fl mc da ds/\bV h a 90 (cT mc pw offs da):=by
 obtain⟨ok,b⟩:=Go.Vc.aa.pi H;exact⟨ok,b.box 0 rfl⟩
theorem Ni(s:Sl)(l:aB)(x:Rd h s 1 aG l)(G:l.length<=2^30)(H:aa B h0 h (bi bz a pw mc offs da w ds::As)):
  ab vV 106 #[.func (.func 28) #[vN (some a)] #[],s] h fun v h'=>∃r:Sl,v=r/\Sp h h' [ao 3 r 1 aG (bB ds l)]:=by
 refine Jh (28,#[vN (some a)],#[]) s ?_;unfold DJ;have E:=x.len;obtain⟨ok,u⟩:=aa.cK H;refine aA (fun t:Sl×Nat=>(t.1,(t.2:Int))) (fun t h'=>t.2<=l.length/\Sp h h' [ao 3 t.1 1 aG (bB ds (l.take t.2))]) (fun t=>l.length-t.2) (⟨none,0,0⟩,0) rfl ⟨by simp,by simpa[bB]using(Sp.refl h).nil 3 1 aG⟩ ?_;rintro⟨o,i⟩ M ⟨L,j⟩;dsimp only at*;refine aj (fun e=>?_) (fun e=>?_)
 ·have p:i<l.length:=by omega
  have c:bB ds (l.take (i+1))=bB ds (l.take i)++(if isLive ds l[i]then[l[i]]else[]):=by
   unfold bB;rw[aO _ _ p,zf,zu,vr]
  have F:(bB ds (l.take i)).length<=l.length:=by
   have:=zt (isLive ds) (l.take i);unfold bB;simp at this⊢;omega
  have next:∀{h':Heap} {k:Sl},Sp h h' [ao 3 k 1 aG (bB ds (l.take (i+1)))]->∃m:Sl×Nat,((⟨k.ptr,k.len,k.cap⟩:Sl),qc vR ((i:Int)+1))=(m.1,(m.2:Int))/\(m.2<=l.length/\Sp h h' [ao 3 m.1 1 aG (bB ds (l.take m.2))])/\l.length-m.2<l.length-i:=fun{h' k} H'=>
   ⟨(k,i+1),by dsimp only;rw[ak _];rfl,⟨by dsimp only;omega,H'⟩,by dsimp only;omega⟩
  refine(Seq.up x j.ag).cA i rfl p l[i] rfl (fZ (by rfl) ?_);refine(kF l[i] ok (u.ag j.ag u.lt)).mono ?_;rintro _ I ⟨rfl,rfl⟩;refine⟨_,rfl,?_⟩;rcases mI ok l[i]with⟨c1,c2⟩|⟨n,d,b,c0,c1,c2,c3,c4,c5⟩
  ·rw[c2];have g:isLive ds l[i]=false:=by unfold isLive;rw[c1]
   rw[g]at c;refine bf (fun e=>by cases e) fun _=>next (by rw[c];simpa using j)
  ·rw[c5];have g:isLive ds l[i]=!d.lost:=by unfold isLive;rw[c3]
   refine bf (fun _=>?_) fun e=>by cases e
   obtain⟨J,f,y⟩:=Go.Vc.aa.jI (aa.up H j.ag) c2;rw[c4]at f;injection f with f
   injection f with f
   subst f;obtain⟨A,z,q,_,_⟩:=iC.box y;refine(xW A z q).mono ?_;rintro _ h3 ⟨rfl,rfl⟩;refine⟨_,rfl,bf (fun e=>?_) (fun e=>?_)⟩
   ·rw[g,e]at c;refine j.push af 0 rfl mE rfl (by decide) (fun _=>rfl) jQ l[i] rfl (by decide) (by omega) fun k K D=>next ?_
    rw[c];exact D
   ·rw[g,e]at c;exact next (by rw[c];simpa using j)
 ·rw[qj (by omega)]at j;exact⟨o,rfl,j⟩
theorem Nj(s:Sl)(l:aB)(O:St B h0 As fun h=>Rd h s 1 aG l)(Z:l.length<=2^30)(z:∀x∈l,0<=x/\x<64)(H:aa B h0 h (bi bz a pw mc offs da w ds::As)):
  ab vV 80 #[.func (.func 28) #[vN (some a)] #[],s] h fun v h'=>v=vL vR (ip (ey l) w ds).1/\aa B h0 h' (bi bz a pw mc offs da (ip (ey l) w ds).2.1 (ip (ey l) w ds).2.2::As):=by
 refine Je (28,#[vN (some a)],#[]) s ?_;unfold DE;refine(gx s l h (O.at [_] H) (by omega)).mono ?_;rintro _ Y ⟨r,rfl,X⟩;have L:=H.cQ X;refine⟨r,rfl,(GF r l Y (L.own 0 rfl) (by omega)).mono ?_⟩;rintro _ T ⟨rfl,I,Q⟩;have R:=L.jg 0 rfl Q I;refine⟨(),rfl,(JA r (iq l) T I (by rw[Gc];omega)).mono ?_⟩;rintro _ h3 ⟨rfl,S,K⟩;have o:=R.step (D:=ao 3 ⟨r.ptr,(Lib.compact (iq l)).length,r.cap⟩ 1 aG (Lib.compact (iq l))) 0 rfl fun q F E=>⟨K.mono fun b _ m A=>m (F.2 b A),S,fun b m=>⟨qG (E b (F.2 b m)) K.1,.inl (F.2 b m)⟩⟩
 rw[MK l z]at o⊢;obtain⟨u,M⟩:∃u,u=ey l:=⟨_,rfl⟩
 rw[<-M]at o⊢;have o:aa B h0 h3 (ao 3 ⟨r.ptr,u.length,r.cap⟩ 1 aG u::bi bz a pw mc offs da w ds::As):=o;have N:u.length<=64:=by
  have:=zt (fun i=>decide (i∈l)) ((qz 64).map fun i:Nat=>(i:Int));rw[M];unfold ey;simpa using this
 refine⟨⟨r.ptr,u.length,r.cap⟩,rfl,?_⟩;refine aA (fun t:Nat×Pow×aR=>(t.1:Int)) (fun t h'=>t.1<=u.length/\ip u w ds=ip (u.drop t.1) t.2.1 t.2.2/\aa B h0 h' (ao 3 ⟨r.ptr,u.length,r.cap⟩ 1 aG u::bi bz a pw mc offs da t.2.1 t.2.2::As)) (fun t=>u.length-t.1) (0,w,ds) rfl ⟨by simp,rfl,o⟩ ?_;rintro⟨i,j,f⟩ h4 ⟨hi,c,p⟩;dsimp only at*;refine aj (fun e=>?_) (fun e=>?_)
 ·have y:i<u.length:=by omega
  obtain⟨ok,m⟩:=aa.cK p.rest;rw[qL y,td]at c;refine(p.seq 0 rfl fun _=>rfl).cA i rfl y u[i] rfl (fZ (by rfl) ?_);refine(kF u[i] ok m).mono ?_;rintro _ U ⟨rfl,rfl⟩;refine⟨_,rfl,?_⟩;rcases mI ok u[i]with⟨c1,c2⟩|⟨n,d,b,c0,c1,c2,c3,c4,c5⟩
  ·rw[c2];refine(Jv U).mono ?_;rintro _ P ⟨rfl,rfl⟩;have G:eK j f u[i]=(5,j,f):=by unfold eK;rw[c1]
   rw[G]at c;refine⟨5,rfl,cq (fun _=>?_) fun e=>absurd e (by decide)⟩;have:ip u w ds=(5,j,f):=c;rw[this];exact⟨rfl,p.rest⟩
  ·rw[c5];obtain⟨b',g,W⟩:=Go.Vc.aa.jI (p.bh 2 [1,0]) c2;rw[c4]at g;injection g with g
   injection g with g
   subst g;refine(Po W).mono ?_;rintro _ P ⟨rfl,V⟩;have J:=Go.Vc.aa.ua (k:=bz) (n:=n) c4 V;have G:eK j f u[i]=((d.sync j).1,(d.sync j).2.1,f.set n (some (d.sync j).2.2)):=by
    unfold eK;rw[c3];simp only[eV,c0,qo]
   rw[G]at c;refine⟨_,rfl,cq (fun e2=>?_) fun e2=>?_⟩
   ·have:ip u w ds=((d.sync j).1,(d.sync j).2.1,f.set n (some (d.sync j).2.2)):=by rw[c];exact if_neg e2
    rw[this];exact⟨rfl,J.AH⟩
   ·refine⟨(i+1,(d.sync j).2.1,f.set n (some (d.sync j).2.2)),by dsimp only;rw[ak _];rfl,⟨by dsimp only;omega,?_,J.bh 2 [1,0]⟩,by dsimp only;omega⟩;rw[c];exact if_pos e2
 ·rw[q9 (by omega)]at c;rw[c];exact⟨rfl,p.rest⟩
end
end Go.Qw
namespace Go.Vc
open Go Wl
theorem HP.sH{h:Heap}:∀{L:List HP} {q:ap} {i:Nat} {A:HP},(HP.all L).p h q->L[i]?=some A->A.p h q
 |A::L,q,0,A',⟨q1,q2,_,b,_,d,_⟩,hi=>by simp at hi;subst hi;exact A.mono d b
 |A::L,q,i+1,A',⟨q1,q2,_,_,c,_,e⟩,hi=>A'.mono (HP.sH e (by simpa using hi)) c
 |[],_,i,_,_,hi=>by simp at hi
section
variable {α β:Type} {B:ap} {h0 h:Heap} {As:List HP} {e e2 k:Nat} {s:Sl} {f:α->aM} {ll:List (List α)}
theorem aa.VD(H:aa B h0 h (io e s e2 k f ll::As))(n:∀x,(f x).length=k):∃rs,aa B h0 h (dX (xd k f) 1 cx s rs ll::As):=by
 obtain⟨rs,H⟩:=H.ta;obtain⟨H,b⟩:=H.Ce;refine⟨rs,H.jo 0 rfl fun q c=>⟨?_,b,fun i r l g a=>?_⟩⟩
 ·have:=HP.sH (i:=0) c rfl;exact this.1.seq (fun _=>rfl) this.2
 ·have d:i<ll.length:=(qk.1 a).1;have j:=fb (e:=e2) (k:=k) (f:=f) b i d;have:=HP.sH (i:=i+1) c (by simpa using j);have m:rs[i]'(by omega)=r:=by rw[qd (by omega)]at g;simpa using g
  have e2:ll[i]=l:=by rw[qd d]at a;simpa using a
  rw[m,e2]at this;exact this.1.seq n this.2
end
end Go.Vc
namespace Wl
def bA(m:aC)(a:aB):List (Int×aQ):=a.flatMap fun n=>(bc m).map fun c=>(n,c)
theorem jm{m:aC}{a:aB}{x:Int×aQ}(h:x∈bA m a):x.1∈a/\x.2.length=64:=by
 unfold bA at h;obtain⟨n,b,e⟩:=zZ.1 h;obtain⟨c,d,rfl⟩:=qH.1 e;exact⟨b,lA d⟩
end Wl
namespace Go.Qw
open Go Go.Vc Go.Proofs Wl
theorem jJ(m:aC)(a:dB m):(bc m).length<=3000:=by
 have:=CJ m a;unfold bc fx;simp;omega
abbrev JB:bP C.torQ 94 137 2 [vL vR 0,vM none 0 0] 32:=⟨_,_,rfl,rfl,rfl,rfl,rfl,rfl⟩
section
variable {B:ap} {h0 h h':Heap} {As:List HP} {a pw:Addr} {mc:aM} {offs:Int} {da:List aK} {w:Pow} {ds:aR}
theorem yo(s:Sl)(r:List (Int×Sl))(P:List (Int×aQ))(G:St B h0 As fun h=>mb jq 2 piv h s r P)(hl:P.length<=2^30)(z:∀x∈P,(0<=x.1/\x.1<64)/\x.2.length<=2^20)(H:aa B h0 h (bi bz a pw mc offs da w ds::As)):
  ab vV 40 #[.func (.func 28) #[vN (some a)] #[],s] h fun v h'=>v=vL vR (layAll P w ds).1/\aa B h0 h' (bi bz a pw mc offs da (layAll P w ds).2.1 (layAll P w ds).2.2::As):=by
 refine KN (28,#[vN (some a)],#[]) s ?_;unfold Gw;have Y:=(G.at [_] H).1.len;have ad:=(G.at [_] H).2.1;have U:=(H.nil 3 1 aG).cn;refine aA (fun t:Sl×Nat×Pow×aR=>(t.1,(t.2.1:Int))) (fun t h'=>t.2.1<=P.length/\iw P w ds=iw (P.drop t.2.1) t.2.2.1 t.2.2.2/\aa B h0 h' (ao 3 t.1 1 aG ((P.take t.2.1).map qP)::bi bz a pw mc offs da t.2.2.1 t.2.2.2::As)) (fun t=>P.length-t.2.1) (⟨none,0,0⟩,0,w,ds) rfl ⟨by simp,rfl,by simpa using U⟩ ?_;rintro⟨o,i,u,m⟩ h1 ⟨hi,f,I⟩;dsimp only at*;refine aj (fun e=>?_) (fun e=>?_)
 ·have q:i<P.length:=by omega
  rw[qL q,oK]at f;have F1:=G.at [_,_] I;have M:=z _ (qn q);refine F1.1.fF (g:=piv) i rfl (by omega) (r[i]'(by omega)) rfl ?_;refine I.alloc af rfl fun a4 T A=>?_;have A:=A.cn;refine A.storeAll af 0 rfl rfl (piv (r[i]'(by omega))) rfl rfl rfl rfl fun h3 j=>?_;obtain⟨O,N⟩:=Fix.row (G.at [_,_,_] j) q;have j:aa B h0 h3 (ai a4 137 (piv (r[i]'(by omega)))::ao 3 o 1 aG ((P.take i).map qP)::bi bz a pw mc offs da u m::As):=j;have j:=j.bh 3 [2,0,1];obtain⟨ok,Z⟩:=aa.cK j;obtain⟨c,p⟩:∃c,c=dm u m P[i].1 P[i].2:=⟨_,rfl⟩
  rw[<-p]at f;refine cg (fun _ h'=>c.1=0/\aa B h0 h' (bi bz a pw mc offs da c.2.1 c.2.2::ai a4 137 (piv (r[i]'(by omega)))::ao 3 o 1 aG ((P.take i).map qP)::As)) ?_ ?_
  ·refine cg (fun e h'=>e=c.1/\aa B h0 h' (bi bz a pw mc offs da c.2.1 c.2.2::ai a4 137 (piv (r[i]'(by omega)))::ao 3 o 1 aG ((P.take i).map qP)::As)) ?_ ?_
   ·refine⟨P[i].1,by rw[<-O];exact(j.box 1 rfl).cell0 rfl,(r[i]'(by omega)).2,(j.box 1 rfl).cell rfl,fZ (by rfl) ?_⟩;refine(kF P[i].1 ok Z).mono ?_;rintro _ K ⟨rfl,rfl⟩;refine⟨_,rfl,⟨(j.box 1 rfl).cell rfl,trivial⟩,?_⟩;rcases mI ok P[i].1 with⟨c1,c2⟩|⟨n,d,b,c0,c1,c2,c3,c4,c5⟩
    ·rw[c2];refine(FF (r[i]'(by omega)).2 P[i].2 K N).mono ?_;rintro _ W ⟨rfl,rfl⟩;have F:c=(if P[i].2.length≠64 then 1 else 5,u,m):=by rw[p];unfold dm;rw[c1]
     refine⟨_,rfl,trivial,by rw[F],?_⟩;rw[F];exact j
    ·rw[c5];obtain⟨b',l,L⟩:=Go.Vc.aa.jI j c2;rw[c4]at l;injection l with l
     injection l with l
     subst l;refine(KU (r[i]'(by omega)).2 P[i].2 L N M.2).mono ?_;rintro _ h6 ⟨rfl,X⟩;have R:=Go.Vc.aa.ua (k:=bz) (n:=n) c4 X;have F:c=((d.append u P[i].2).1,(d.append u P[i].2).2.1,m.set n (some (d.append u P[i].2).2.2)):=by
      rw[p];unfold dm;rw[c3];simp only[eV,c0,qo]
     refine⟨_,rfl,trivial,by rw[F],?_⟩;rw[F];exact R
   ·rintro e4 K ⟨rfl,E⟩;refine cq (fun e2=>?_) fun e2=>⟨e2,E⟩
    rw[if_neg e2]at f;have:layAll P w ds=c:=by unfold layAll;rw[f];exact if_neg e2
    rw[this];exact⟨rfl,E.AH.AH⟩
  ·rintro _ K ⟨e2,E⟩;rw[if_pos e2]at f;refine⟨P[i].1,by rw[<-O];exact(E.box 1 rfl).cell0 rfl,?_⟩;refine E.push af 2 rfl mE rfl (by decide) (fun _=>rfl) jQ P[i].1 rfl (by decide) (by simp;omega) fun Q W L=>?_;refine⟨(Q,i+1,c.2.1,c.2.2),by dsimp only;rw[ak _];rfl,⟨by dsimp only;omega,f,?_⟩,by dsimp only;omega⟩;dsimp only;rw[aO _ _ q,zi];exact L.bh 3 [2,0]
 ·have J:i=P.length:=by omega
  subst J;rw[List.drop_length]at f;rw[za]at I;have A:=(I.freeze 0 rfl fun _=>rfl).bh 2 [1,0];have D:layAll P w ds=ip (ey (P.map qP)) u m:=by unfold layAll;rw[f];rfl
  refine(Nj o (P.map qP) (St.il 0 rfl fun h' V=>V) (by simp;omega) (fun x S=>?_) A).mono ?_
  ·obtain⟨y,hy,rfl⟩:=qH.1 S;exact(z y hy).1
  ·rintro _ T ⟨rfl,j⟩;refine⟨_,rfl,by rw[D],?_⟩;rw[D];exact j.AH
theorem BI(x:bZ)(m:aC)(s:Sl)(a:aB)(h:Heap)(hx:fk h x m)(I:dB m)(W:Rd h s 1 aG a)(al:a.length<=2^10):
  ab vV 41 #[fP x,s] h fun v h'=>∃(r:Sl) (ys:List (Int×Sl)),v=r/\Sp h h' [dX jq 2 piv r ys (bA m a)]:=by
 refine Hi x s ?_;unfold Bt;refine(Sp.refl h).boxed fun a1 X Q=>?_;refine⟨x,(Q.box 0 rfl).aI _ rfl,(oq x m X (hx.up Q.ag) I).mono ?_⟩;rintro _ S ⟨r,rfl,Y⟩;have D:=Q.cQ Y;refine⟨r,rfl,?_⟩;obtain⟨rs,D⟩:=D.VD fun _=>rfl;have J:=jJ m I;obtain⟨d,E⟩:∃d,d=bc m:=⟨_,rfl⟩
 rw[<-E]at D J;have R:=D.jR 0 rfl;have ad:=R.1.len;have am:=R.2.1;have Z:=W.len;obtain⟨T,G⟩:∃T:Int->List ((Int×Sl)×(Int×aQ)),T=fun n=>(rs.zip d).map fun z=>((n,z.1),(n,z.2)):=⟨_,rfl⟩
 have f:∀n,(T n).length=d.length:=fun n=>by rw[G];simp;omega
 have K:∀n,(T n).map zF=d.map fun c=>(n,c):=fun n=>by
  have I:=List.map_snd_zip (l₁:=rs) (l₂:=d) (by omega)
  conv=>rhs;rw[<-I]
  rw[G];simp[wJ,Function.comp_def]
 have M:∀n j (N:j<d.length),(T n)[j]'(by rw[f];exact N)=((n,rs[j]'(by omega)),(n,d[j])):=fun n j N=>by subst G;simp
 have g:Sp h S [ao 137 ⟨none,0,0⟩ 2 piv (((a.take 0).flatMap T).map qP),dX (xd 1 av) 1 cx r rs d]:=(D.nil 137 2 piv).cL [2,0];have B:∀i,i<=a.length->((a.take i).flatMap T).length<=i*3000:=fun i=>by
  induction i with
  |zero=>simp
  |succ i ih=>
   intro U;rw[aO _ _ (show i<a.length by omega),q7,qp];have X:=ih (by omega);have S:([a[i]].flatMap T).length=d.length:=by rw[zg,wM,qU,f]
   omega
 refine aA (fun t:Sl×Nat=>(t.1,(t.2:Int))) (fun t h'=>t.2<=a.length/\Sp h h' [ao 137 t.1 2 piv (((a.take t.2).flatMap T).map qP),dX (xd 1 av) 1 cx r rs d]) (fun t=>a.length-t.2) (⟨none,0,0⟩,0) rfl ⟨by simp,g⟩ ?_;rintro⟨o,i⟩ h3 ⟨U,g⟩;dsimp only at*;refine aj (fun e=>?_) (fun e=>?_)
 ·have y:i<a.length:=by omega
  have ht:=B i U;have hb:i*3000<=2^10*3000:=ze _ (by omega);refine(Seq.up W g.ag).cA i rfl y a[i] rfl ?_;refine aA (fun t:Sl×Nat=>(t.1,(t.2:Int))) (fun t h'=>t.2<=d.length/\Sp h h' [ao 137 t.1 2 piv (((a.take i).flatMap T).map qP++((T a[i]).take t.2).map qP),dX (xd 1 av) 1 cx r rs d]) (fun t=>d.length-t.2) (o,0) rfl ⟨by simp,by simpa using g⟩ ?_;rintro⟨u,j⟩ h4 ⟨N,p⟩;dsimp only at*;refine aj (fun e2=>?_) (fun e2=>?_)
  ·have A:j<d.length:=by omega
   refine(p.jR 1 rfl).1.QZ j rfl (by omega) ?_;refine p.push af 0 rfl JB rfl (by decide) (fun _=>rfl) Mc (a[i],rs[j]'(by omega)) rfl (by decide) (by simp only[qp,qC,qO,f];omega) fun u' h5 H5=>?_;refine⟨(u',j+1),by dsimp only;rw[ak _];rfl,⟨by dsimp only;omega,?_⟩,by dsimp only;omega⟩;dsimp only;rw[aO (T a[i]) j (by rw[f];exact A),zi,M _ _ A,<-qm];exact H5
  ·have P:j=d.length:=by omega
   subst P;rw[qj (l:=T a[i]) (by rw[f];exact qt _)]at p;refine⟨(u,i+1),by dsimp only;rw[ak _];rfl,⟨by dsimp only;omega,?_⟩,by dsimp only;omega⟩;dsimp only;rw[aO _ _ y,q7,zi,zg,wM,qU];exact p
 ·have O:i=a.length:=by omega
  subst O;rw[za]at g;refine⟨o,(a.flatMap T).map qP,rfl,?_⟩;have p:=(g.freeze 0 rfl fun _=>rfl).nY;refine p.jo 0 rfl fun q ⟨q1,q2,_,b,c,z1,z2⟩=>?_;have F:(a.flatMap T).map zF=bA m a:=by
   unfold bA;rw[List.map_flatMap,<-E];congr 1;funext n;exact K n
  rw[<-F];refine⟨z2.mono c,by simp,fun j r' l' w H=>?_⟩;rw[qN]at w H;cases g3:(a.flatMap T)[j]? with
  |none=>rw[g3]at w;cases w
  |some t=>
   rw[g3]at w H;simp at w H;subst w;subst H;obtain⟨n,_,V⟩:=zZ.1 (yH g3);rw[G]at V;obtain⟨z,L,rfl⟩:=qH.1 V;obtain⟨k,hk,rfl⟩:=List.mem_iff_getElem.1 L;rw[List.getElem_zip];exact⟨rfl,(z1.2.2 k _ _ (qd _) (qd _)).mono b⟩
end
section
variable {B:ap} {h0 h h':Heap} {As:List HP} {s:Sl} {d:List bg}
theorem Nk{b c:List bg}{y:bg}(d:Sd bH (b++c))(g:∀z∈b,bH z y=true)(f:∀z∈c,¬bH z y=true):Sd bH (b++y::c):=
 Sd.app cS d.left (zL.2 ⟨fun z a=>cS.xm (f z a),d.right⟩) fun x e z a=>by
  rcases zl.1 a with rfl|a
  ·exact g x e
  ·exact d.AO x e z a
theorem sI(X M Y:List bg)(a b:Int)(ha:a=(X.length:Int))(hb:b=(X.length+M.length:Nat))(ad:X.length+M.length+Y.length<=2^40)(H:aa B h0 h (bT s (X++(M++Y))::As)):
  ab vV 290 #[s,vL vR a,vL vR b,.func (.func 165) #[] #[]] h fun v h'=>v=.tuple #[]/\∃M',Sd bH M'/\bJ bH M M'/\aa B h0 h' (bT s (X++(M'++Y))::As):=by
 refine iB s a b (165,#[],#[]) ?_;unfold fj;subst ha;subst hb;rw[ak ((X.length:Int)+1)];refine aA (fun t:Nat×List bg=>((X.length+1+t.1:Nat):Int)) (fun t h'=>(t.1+1<=M.length∨t.1=0)/\Sd bH t.2/\bJ bH (M.take (t.1+1)) t.2/\t.2.length=(M.take (t.1+1)).length/\aa B h0 h' (bT s (X++(t.2++(M.drop (t.1+1)++Y)))::As)) (fun t=>M.length-t.1) (0,M.take 1) rfl ?_ ?_
 ·refine⟨.inr rfl,?_,bJ.refl _,rfl,?_⟩
  ·cases M with
   |nil=>exact List.Pairwise.nil
   |cons x M=>exact zL.2 ⟨fun _ h=>by simp at h,by simp⟩
  ·rw[<-qm (M.take (0+1)),qy];exact H
 rintro⟨t,P⟩ h1 ⟨ht,r,p,U,T⟩;dsimp only at*;refine aj (fun e=>?_) (fun e=>?_)
 ·have I:t+1<M.length:=by omega
  obtain⟨y,hy⟩:∃y,y=M[t+1]:=⟨_,rfl⟩
  have G:P.length=t+1:=by rw[U];simp;omega
  have eD:M.drop (t+1)=y::M.drop (t+1+1):=by rw[qL I,hy]
  rw[eD]at T;refine aA (fun u:List bg×List bg=>((X.length+u.1.length:Nat):Int)) (fun u h'=>u.1++u.2=P/\(∀z∈u.2,¬bH z y=true)/\aa B h0 h' (bT s (X++(u.1++(y::(u.2++(M.drop (t+1+1)++Y)))))::As)) (fun u=>u.1.length) (P,[]) (by dsimp only;rw[G];congr 1;omega) ⟨by simp,by simp,by simpa using T⟩ ?_;rintro⟨c,d⟩ Z ⟨L,f,K⟩;dsimp only at*;have al:c.length+d.length=t+1:=by rw[<-G,<-L,qp]
  have k:∀{h':Heap},(∀z∈c,bH z y=true)->aa B h0 h' (bT s (X++(c++(y::(d++(M.drop (t+1+1)++Y)))))::As)->
    ∃l:Nat×List bg,qc vR (((X.length+1+t:Nat):Int)+1)=((X.length+1+l.1:Nat):Int)/\((l.1+1<=M.length∨l.1=0)/\Sd bH l.2/\bJ bH (M.take (l.1+1)) l.2/\l.2.length=(M.take (l.1+1)).length/\aa B h0 h' (bT s (X++(l.2++(M.drop (l.1+1)++Y)))::As))/\M.length-l.1<M.length-t:=fun{h'} hle H'=>by
   refine⟨(t+1,c++y::d),by dsimp only;rw[ak _];omega,⟨.inl (by dsimp only;omega),?_,?_,?_,?_⟩,by dsimp only;omega⟩
   ·exact Nk (by rw[L];exact r) hle f
   ·dsimp only;rw[aO M (t+1) I,<-hy];have h1:bJ bH (M.take (t+1)++[y]) (P++[y]):=p.app (bJ.refl _);refine h1.trans ?_;rw[<-L,qm];have Z:bJ bH (d++[y]) ([y]++d):=bJ.OL cS fun x hx z S=>by rw[qB.1 S];exact f x hx
    exact(bJ.refl _).app Z
   ·dsimp only;simp;omega
   ·dsimp only;have:X++((c++y::d)++(M.drop (t+1+1)++Y))=X++(c++(y::(d++(M.drop (t+1+1)++Y)))):=by simp
    rw[this];exact H'
  obtain⟨D,R⟩:∃D,D=X++(c++(y::(d++(M.drop (t+1+1)++Y)))):=⟨_,rfl⟩
  refine cg (fun _ h'=>∃(Q:List bg) (z:bg),c=Q++[z]/\¬bH z y=true/\aa B h0 h' (bT s D::As)) ?_ ?_
  ·rw[<-R]at K k;refine aj (fun e2=>?_) (fun e2=>⟨trivial,k (fun z S=>?_) K⟩)
   ·have J:c≠[]:=fun h=>by rw[h]at e2;simp at e2
    obtain⟨Q,z,o⟩:∃(Q:List bg) (z:bg),c=Q++[z]:=⟨c.dropLast,c.getLast J,(List.dropLast_concat_getLast J).symm⟩
    have V:c.length=Q.length+1:=by rw[o];simp
    have g1:D[X.length+c.length]?=some y:=by
     rw[R,qh (by omega),show X.length+c.length-X.length=c.length by omega,qh (by omega),q5];rfl
    have g2:D[X.length+c.length-1]?=some z:=by
     rw[R,qh (by omega),show X.length+c.length-1-X.length=Q.length by omega,o,qm,qh (qt _),q5];rfl
    obtain⟨N,E⟩:=qk.1 g1;obtain⟨O,A⟩:=qk.1 g2;refine(K.seq 0 rfl fun _=>rfl).fF (g:=ba) _ rfl N y (by rw[E]) ?_;have ej:qc vR (((X.length+c.length:Nat):Int)-1)=((X.length+c.length-1:Nat):Int):=by rw[ak _];omega
    rw[ej];refine(K.seq 0 rfl fun _=>rfl).fF (g:=ba) _ rfl O z (by rw[A]) (fZ (by rfl) ?_);refine(lO y z Z).mono ?_;rintro _ h3 ⟨rfl,R3⟩;have F:=K.up R3.ag;refine⟨_,rfl,trivial,aj (fun W=>⟨Q,z,o,(mG y z).1 W,F⟩) fun W=>k (fun w m=>?_) F⟩;have n:bH z y=true:=by
     by_cases hc:bH z y=true
     ·exact hc
     ·exact absurd ((mG y z).2 hc) W
    rw[o]at m;rcases qE.1 m with m|m
    ·refine cS.trans _ _ _ ?_ n;have:Sd bH (Q++[z]):=by rw[<-o];exact Sd.left (v:=d) (by rw[L];exact r)
     exact this.AO w m z (by simp)
    ·rw[qB.1 m];exact n
   ·have:c=[]:=by
     cases c with
     |nil=>rfl
     |cons x P=>exfalso;simp only[zc]at e2;omega
    rw[this]at S;cases S
  ·rintro _ h3 ⟨Q,z,o,n,F⟩;have V:c.length=Q.length+1:=by rw[o];simp
   have q:D=(X++Q)++z::([]++y::(d++(M.drop (t+1+1)++Y))):=by rw[R,o];simp
   obtain⟨q1,q2,q3,q4⟩:=Jx (X++Q) [] (d++(M.drop (t+1+1)++Y)) z y (i:=X.length+c.length-1) (j:=X.length+c.length) (by simp;omega) (by simp;omega);rw[<-q]at q1 q2 q3 q4;obtain⟨O,A⟩:=qk.1 q1;obtain⟨N,E⟩:=qk.1 q2;have ej:qc vR (((X.length+c.length:Nat):Int)-1)=((X.length+c.length-1:Nat):Int):=by rw[ak _];omega
   rw[ej];refine(F.seq 0 rfl fun _=>rfl).fF (g:=ba) _ rfl O z (by rw[A]) ?_;refine(F.seq 0 rfl fun _=>rfl).fF (g:=ba) _ rfl N y (by rw[E]) ?_;refine F.set af 0 rfl (fun _=>rfl) rfl (X.length+c.length) rfl N z rfl rfl rfl fun h4 H4=>⟨trivial,?_⟩
   refine H4.set af 0 rfl (fun _=>rfl) rfl (X.length+c.length-1) rfl (by simpa using O) y rfl rfl rfl fun h5 H5=>⟨trivial,?_⟩
   refine⟨(Q,z::d),by dsimp only;congr 1;omega,⟨by dsimp only;rw[<-L,o];simp,?_,?_⟩,by dsimp only;omega⟩
   ·dsimp only;intro w m;rcases zl.1 m with rfl|m
    ·exact n
    ·exact f w m
   ·dsimp only;have:X++(Q++(y::(z::d++(M.drop (t+1+1)++Y))))=(X++Q)++y::([]++z::(d++(M.drop (t+1+1)++Y))):=by simp
    rw[this,<-q4];exact H5
 ·refine⟨rfl,P,r,?_,?_⟩
  ·rw[qj (by omega)]at p;exact p
  ·rw[q9 (by omega)]at T;simpa using T
end
theorem AZ(x y:Nat)(h:x+y<=2^62:=by omega):qc vR (qD (qc vU (qc vR ((x:Int)+(y:Int)))) (2^min (1:Int).toNat (qf vU)))=(((x+y)/2:Nat):Int):=by
 rw[ak ((x:Int)+y)];have e:qc vU ((x:Int)+(y:Int))=(x:Int)+y:=by
  unfold qc;simp[qf,wS];omega
 rw[e,show min (1:Int).toNat (qf vU)=1 from rfl,Int.fdiv_eq_ediv_of_nonneg _ (by decide),ak _];omega
section
variable {B:ap} {h0 h h':Heap} {As:List HP} {s:Sl} {d:List bg}
theorem rJ{x y:bg}(h:¬iT x y<0):bH y x=true:=by
 by_cases a:bH y x=true
 ·exact a
 ·exact absurd ((mG x y).2 a) h
theorem gQ{K:bg->Prop}(H:aa B h0 h (bT s d::As)){i:Int}(n:Nat)(e:i=n){x:bg}(f:d[n]?=some x)(j:K x):
  ∃a:Addr,(s.ptr=some a/\0<=i/\i<((s.len:Nat):Int))/\∃x:bg,ah h (a.add (i.toNat*8)) 0 (ba x)/\K x:=by
 obtain⟨c,b⟩:=qk.1 f;exact(H.seq 0 rfl fun _=>rfl).fF (g:=ba) n e c x (by rw[b]) j
theorem FG(x:bg)(X R Y:List bg)(ad:X.length+1+R.length+Y.length<=2^40)(y:Sd bH R)(H:aa B h0 h (bT s (X++(x::(R++Y)))::As)){K:wt}
  (d:∀h',(∃M,Sd bH M/\bJ bH (x::R) M/\aa B h0 h' (bT s (X++(M++Y))::As))->K (.tuple #[]) h') (a m b:Int) (ha:a=(X.length:Int)) (hm:m=(X.length+1:Nat)) (hb:b=(X.length+1+R.length:Nat)):
  aS (σ:=Int×Int) (fun c K1 g=>
   Br (decide (c.1<c.2))
   ((0<=(1:Int))/\
   ∃a2:Addr,(s.ptr=some a2/\0<=(qc vR (qD (qc vU (qc vR (c.1+c.2))) (2^min (1:Int).toNat (qf vU))))/\(qc vR (qD (qc vU (qc vR (c.1+c.2))) (2^min (1:Int).toNat (qf vU))))<((s.len:Nat):Int))/\
   ∃x3:bg,ah g (a2.add ((qc vR (qD (qc vU (qc vR (c.1+c.2))) (2^min (1:Int).toNat (qf vU)))).toNat*8)) 0 (ba x3)/\
   ∃a4:Addr,(s.ptr=some a4/\0<=a/\a<((s.len:Nat):Int))/\
   ∃x5:bg,ah g (a4.add (a.toNat*8)) 0 (ba x5)/\
   iJ C 165 ((#[]:Array Value).toList++[recv x3,recv x5]++(#[]:Array Value).toList) (.one (.sc (.int .i64))) g fun r6 n=>
   (ar.ok [] n)/\
   Br (decide (r6<(0:Int)))
   (K1 (qc vR ((qc vR (qD (qc vU (qc vR (c.1+c.2))) (2^min (1:Int).toNat (qf vU))))+(1:Int)),c.2) n)
   (K1 (c.1,qc vR (qD (qc vU (qc vR (c.1+c.2))) (2^min (1:Int).toNat (qf vU)))) n))
   (aS (σ:=Int) (fun f K2 h3=>
   Br (decide (f<(qc vR (c.1-(1:Int)))))
   (∃a8:Addr,(s.ptr=some a8/\0<=(qc vR (f+(1:Int)))/\(qc vR (f+(1:Int)))<((s.len:Nat):Int))/\
   ∃x9:bg,ah h3 (a8.add ((qc vR (f+(1:Int))).toNat*8)) 0 (ba x9)/\
   ∃r:Addr,(s.ptr=some r/\0<=f/\f<((s.len:Nat):Int))/\
   ∃E:bg,ah h3 (r.add (f.toNat*8)) 0 (ba E)/\
   ∃G:Addr,(s.ptr=some G/\0<=f/\f<((s.len:Nat):Int))/\
   ae vV (qe 49 (vN (some (G.add (f.toNat*8)))) (recv x9)) h3 fun _ U=>
   (ar.ok [] U)/\
   ∃J:Addr,(s.ptr=some J/\0<=(qc vR (f+(1:Int)))/\(qc vR (f+(1:Int)))<((s.len:Nat):Int))/\
   ae vV (qe 49 (vN (some (J.add ((qc vR (f+(1:Int))).toNat*8)))) (recv E)) U fun _ Z=>
   (ar.ok [] Z)/\
   K2 (qc vR (f+(1:Int))) Z)
   (K (.tuple #[]) h3)) a g)) (m,b) h:=by
 subst ha;subst hm;subst hb;refine aA (fun t:Nat×Nat=>(((X.length+1+t.1:Nat):Int),((X.length+1+t.2:Nat):Int))) (fun t h'=>t.1<=t.2/\t.2<=R.length/\(∀k (d:k<R.length),k<t.1->¬bH x R[k]=true)/\(∀k (d:k<R.length),t.2<=k->bH x R[k]=true)/\aa B h0 h' (bT s (X++(x::(R++Y)))::As)) (fun t=>t.2-t.1) (0,R.length) rfl ⟨by simp,by simp,fun _ _ h=>by simp at h,fun _ g n=>absurd g (by simpa using n),H⟩ ?_;rintro⟨i,j⟩ g ⟨am,hj,p,D,O⟩;dsimp only at*;refine aj (fun e=>?_) (fun e=>?_)
 ·have o:i<j:=by omega
  rw[AZ _ _];have eh:((X.length+1+i)+(X.length+1+j))/2=X.length+1+(i+j)/2:=by omega
  rw[eh];have d:(i+j)/2<R.length:=by omega
  refine⟨by decide,gQ O _ rfl (x:=R[(i+j)/2]) ?_ (gQ O X.length rfl (x:=x) ?_ (fZ (by rfl) ?_))⟩
  ·rw[qh (by omega),show X.length+1+(i+j)/2-X.length=(i+j)/2+1 by omega,qw,ql d,qd d]
  ·rw[qh (qt _),q5];rfl
  refine(lO R[(i+j)/2] x g).mono ?_;rintro _ n ⟨rfl,R2⟩;have H2:=O.up R2.ag;refine⟨_,rfl,trivial,aj (fun e2=>?_) (fun e2=>?_)⟩
  ·have Q:=(mG _ _).1 e2;refine⟨((i+j)/2+1,j),by dsimp only;rw[ak _];rfl,⟨by dsimp only;omega,hj,fun k I S=>?_,D,H2⟩,by dsimp only;omega⟩;intro hc;exact Q (cS.trans _ _ _ hc (y.at_ cS (i:=k) (j:=(i+j)/2) (by dsimp only at S;omega) d))
  ·refine⟨(i,(i+j)/2),rfl,⟨by dsimp only;omega,by dsimp only;omega,p,fun k I P=>?_,H2⟩,by dsimp only;omega⟩;exact cS.trans _ _ _ (rJ e2) (y.at_ cS (by dsimp only at P;omega) I)
 ·have o:i=j:=by omega
  subst o;have hM:Sd bH (R.take i++x::R.drop i):=by
   refine Sd.app cS (Sd.left (v:=R.drop i) (by rw[qy];exact y)) (zL.2 ⟨fun z L=>?_,Sd.right (u:=R.take i) (by rw[qy];exact y)⟩) fun z L w F=>?_
   ·obtain⟨k,d,rfl⟩:=qQ L;rw[wz];exact D _ _ (by omega)
   ·obtain⟨k,d,rfl⟩:=qQ L;rw[yB];have W:k<i:=by simp at d;omega
    have g:=cS.xm (p k (by simp at d;omega) W);rcases zl.1 F with rfl|F
    ·exact g
    ·obtain⟨l,hl,rfl⟩:=qQ F;rw[wz];exact y.at_ cS (by omega) (by simp at hl;omega)
  have hE:bJ bH (x::R) (R.take i++x::R.drop i):=by
   have g:bJ bH ([x]++R.take i) (R.take i++[x]):=bJ.OL cS fun z L w F=>by
    rw[qB.1 L];obtain⟨k,d,rfl⟩:=qQ F;rw[yB];exact p k (by simp at d;omega) (by simp at d;omega)
   have n:=g.app (bJ.refl (le:=bH) (R.drop i));have e1:([x]++R.take i)++R.drop i=x::R:=by rw[qm,qy];rfl
   have e2:(R.take i++[x])++R.drop i=R.take i++x::R.drop i:=by simp
   rw[e1,e2]at n;exact n
  have el:qc vR (((X.length+1+i:Nat):Int)-1)=((X.length+i:Nat):Int):=by rw[ak _];omega
  rw[el];refine aA (fun t:Nat=>((X.length+t:Nat):Int)) (fun t h'=>t<=i/\aa B h0 h' (bT s (X++(R.take t++(x::(R.drop t++Y))))::As)) (fun t=>i-t) 0 rfl ⟨by omega,by simpa using O⟩ ?_;rintro t h3 ⟨ht,N⟩;refine aj (fun e2=>?_) (fun e2=>?_)
  ·have al:t<i:=by omega
   have A:t<R.length:=by omega
   have q:X++(R.take t++(x::(R.drop t++Y)))=(X++R.take t)++x::([]++R[t]::(R.drop (t+1)++Y)):=by rw[qL A];simp only[qm,zk,zO]
   obtain⟨V,T,q3,q4⟩:=Jx (X++R.take t) [] (R.drop (t+1)++Y) x R[t] (i:=X.length+t) (j:=X.length+t+1) (by simp;omega) (by simp;omega);rw[<-q]at V T q3 q4;have ek:qc vR (((X.length+t:Nat):Int)+1)=((X.length+t+1:Nat):Int):=by rw[ak _];omega
   rw[ek];refine gQ N _ rfl T (gQ N _ rfl V ?_);refine N.set af 0 rfl (fun _=>rfl) rfl (X.length+t) rfl (qk.1 V).1 R[t] rfl rfl rfl fun U H4=>⟨trivial,?_⟩
   refine H4.set af 0 rfl (fun _=>rfl) rfl (X.length+t+1) rfl (by rw[qZ];exact(qk.1 T).1) x rfl rfl rfl fun Z H5=>⟨trivial,?_⟩
   refine⟨t+1,rfl,⟨by omega,?_⟩,by omega⟩;have e3:X++(R.take (t+1)++(x::(R.drop (t+1)++Y)))=(X++R.take t)++R[t]::([]++x::(R.drop (t+1)++Y)):=by rw[aO R t A];simp only[qm,zk,zO]
   rw[e3,<-q3];exact H5
  ·have:t=i:=by omega
   subst this;refine d h3 ⟨R.take t++x::R.drop t,hM,hE,?_⟩;have:X++((R.take t++x::R.drop t)++Y)=X++(R.take t++(x::(R.drop t++Y))):=by simp
   rw[this];exact N
end
section
variable {B:ap} {h0 h h':Heap} {As:List HP} {s:Sl} {d:List bg}
theorem En(y:bg)(X L Y:List bg)(a0:X.length+L.length+1+Y.length<=2^40)(D:Sd bH L)(H:aa B h0 h (bT s (X++(L++(y::Y)))::As)){K:wt}
  (d:∀h',(∃M,Sd bH M/\bJ bH (L++[y]) M/\aa B h0 h' (bT s (X++(M++Y))::As))->K (.tuple #[]) h') (a m:Int) (ha:a=(X.length:Int)) (hm:m=(X.length+L.length:Nat)):
  aS (σ:=Int×Int) (fun b K3 V=>
   Br (decide (b.1<b.2))
   ((0<=(1:Int))/\
   ∃O:Addr,(s.ptr=some O/\0<=m/\m<((s.len:Nat):Int))/\
   ∃S:bg,ah V (O.add (m.toNat*8)) 0 (ba S)/\
   ∃T:Addr,(s.ptr=some T/\0<=(qc vR (qD (qc vU (qc vR (b.1+b.2))) (2^min (1:Int).toNat (qf vU))))/\(qc vR (qD (qc vU (qc vR (b.1+b.2))) (2^min (1:Int).toNat (qf vU))))<((s.len:Nat):Int))/\
   ∃I:bg,ah V (T.add ((qc vR (qD (qc vU (qc vR (b.1+b.2))) (2^min (1:Int).toNat (qf vU)))).toNat*8)) 0 (ba I)/\
   iJ C 165 ((#[]:Array Value).toList++[recv S,recv I]++(#[]:Array Value).toList) (.one (.sc (.int .i64))) V fun am h7=>
   (ar.ok [] h7)/\
   Br (!(decide (am<(0:Int))))
   (K3 (qc vR ((qc vR (qD (qc vU (qc vR (b.1+b.2))) (2^min (1:Int).toNat (qf vU))))+(1:Int)),b.2) h7)
   (K3 (b.1,qc vR (qD (qc vU (qc vR (b.1+b.2))) (2^min (1:Int).toNat (qf vU)))) h7))
   (aS (σ:=Int) (fun c K4 h8=>
   Br (decide (c>b.1))
   (∃Q:Addr,(s.ptr=some Q/\0<=(qc vR (c-(1:Int)))/\(qc vR (c-(1:Int)))<((s.len:Nat):Int))/\
   ∃U:bg,ah h8 (Q.add ((qc vR (c-(1:Int))).toNat*8)) 0 (ba U)/\
   ∃q:Addr,(s.ptr=some q/\0<=c/\c<((s.len:Nat):Int))/\
   ∃N:bg,ah h8 (q.add (c.toNat*8)) 0 (ba N)/\
   ∃a25:Addr,(s.ptr=some a25/\0<=c/\c<((s.len:Nat):Int))/\
   ae vV (qe 49 (vN (some (a25.add (c.toNat*8)))) (recv U)) h8 fun _ h9=>
   (ar.ok [] h9)/\
   ∃P:Addr,(s.ptr=some P/\0<=(qc vR (c-(1:Int)))/\(qc vR (c-(1:Int)))<((s.len:Nat):Int))/\
   ae vV (qe 49 (vN (some (P.add ((qc vR (c-(1:Int))).toNat*8)))) (recv N)) h9 fun _ p=>
   (ar.ok [] p)/\
   K4 (qc vR (c-(1:Int))) p)
   (K (.tuple #[]) h8)) m V)) (a,m) h:=by
 subst ha;subst hm;refine aA (fun t:Nat×Nat=>(((X.length+t.1:Nat):Int),((X.length+t.2:Nat):Int))) (fun t h'=>t.1<=t.2/\t.2<=L.length/\(∀k (d:k<L.length),k<t.1->bH L[k] y=true)/\(∀k (d:k<L.length),t.2<=k->¬bH L[k] y=true)/\aa B h0 h' (bT s (X++(L++(y::Y)))::As)) (fun t=>t.2-t.1) (0,L.length) rfl ⟨by simp,by simp,fun _ _ h=>by simp at h,fun _ o E=>absurd o (by simpa using E),H⟩ ?_;rintro⟨i,j⟩ o ⟨a1,hj,r,g,Z⟩;dsimp only at*;refine aj (fun e=>?_) (fun e=>?_)
 ·have f:i<j:=by omega
  rw[AZ _ _];have eh:((X.length+i)+(X.length+j))/2=X.length+(i+j)/2:=by omega
  rw[eh];have d:(i+j)/2<L.length:=by omega
  refine⟨by decide,gQ Z (X.length+L.length) rfl (x:=y) ?_ (gQ Z _ rfl (x:=L[(i+j)/2]) ?_ (fZ (by rfl) ?_))⟩
  ·rw[qh (by omega),show X.length+L.length-X.length=L.length by omega,qh (qt _),q5];rfl
  ·rw[qh (by omega),show X.length+(i+j)/2-X.length=(i+j)/2 by omega,ql d,qd d]
  refine(lO y L[(i+j)/2] o).mono ?_;rintro _ E ⟨rfl,R2⟩;have H2:=Z.up R2.ag;refine⟨_,rfl,trivial,?_⟩;by_cases e2:iT y L[(i+j)/2]<0
  ·have al:=(mG _ _).1 e2;refine bf (fun A=>absurd A (by simpa using e2)) fun _=>?_;refine⟨(i,(i+j)/2),rfl,⟨by dsimp only;omega,by dsimp only;omega,r,fun k G ad=>?_,H2⟩,by dsimp only;omega⟩;intro hc;exact al (cS.trans _ _ _ (D.at_ cS (i:=(i+j)/2) (j:=k) (by dsimp only at ad;omega) G) hc)
  ·refine bf (fun _=>?_) fun A=>absurd A (by simpa using e2);refine⟨((i+j)/2+1,j),by dsimp only;rw[ak _];rfl,⟨by dsimp only;omega,hj,fun k G ax=>?_,g,H2⟩,by dsimp only;omega⟩;exact cS.trans _ _ _ (D.at_ cS (by dsimp only at ax;omega) d) (rJ e2)
 ·have f:i=j:=by omega
  subst f;have hM:Sd bH (L.take i++y::L.drop i):=by
   refine Sd.app cS (Sd.left (v:=L.drop i) (by rw[qy];exact D)) (zL.2 ⟨fun z R=>?_,Sd.right (u:=L.take i) (by rw[qy];exact D)⟩) fun z R w F=>?_
   ·obtain⟨k,d,rfl⟩:=qQ R;rw[wz];exact cS.xm (g _ (by simp at d;omega) (by omega))
   ·obtain⟨k,d,rfl⟩:=qQ R;rw[yB];have ay:k<i:=by simp at d;omega
    have o:=r k (by simp at d;omega) ay;rcases zl.1 F with rfl|F
    ·exact o
    ·obtain⟨l,hl,rfl⟩:=qQ F;rw[wz];exact D.at_ cS (by omega) (by simp at hl;omega)
  have hE:bJ bH (L++[y]) (L.take i++y::L.drop i):=by
   have o:bJ bH (L.drop i++[y]) ([y]++L.drop i):=bJ.OL cS fun z R w F=>by
    rw[qB.1 F];obtain⟨k,d,rfl⟩:=qQ R;rw[wz];exact g _ (by simp at d;omega) (by omega)
   have E:=(bJ.refl (le:=bH) (L.take i)).app o;have e1:L.take i++(L.drop i++[y])=L++[y]:=by rw[<-qm,qy]
   rw[e1]at E;exact E
  refine aA (fun t:Nat=>((X.length+t:Nat):Int)) (fun t h'=>i<=t/\t<=L.length/\aa B h0 h' (bT s (X++(L.take t++(y::(L.drop t++Y))))::As)) (fun t=>t-i) L.length rfl ⟨by omega,by omega,by simpa using Z⟩ ?_;rintro t h3 ⟨ht,a2,W⟩;refine aj (fun e2=>?_) (fun e2=>?_)
  ·obtain⟨u,rfl⟩:∃u,t=u+1:=⟨t-1,by omega⟩
   have J:u<L.length:=by omega
   have n:X++(L.take (u+1)++(y::(L.drop (u+1)++Y)))=(X++L.take u)++L[u]::([]++y::(L.drop (u+1)++Y)):=by rw[aO L u J];simp only[qm,zk,zO]
   obtain⟨q1,q2,q3,q4⟩:=Jx (X++L.take u) [] (L.drop (u+1)++Y) L[u] y (i:=X.length+u) (j:=X.length+(u+1)) (by simp;omega) (by simp;omega);rw[<-n]at q1 q2 q3 q4;have ek:qc vR (((X.length+(u+1):Nat):Int)-1)=((X.length+u:Nat):Int):=by rw[ak _];omega
   rw[ek];refine gQ W _ rfl q1 (gQ W _ rfl q2 ?_);refine W.set af 0 rfl (fun _=>rfl) rfl (X.length+(u+1)) rfl (qk.1 q2).1 L[u] rfl rfl rfl fun h4 H4=>⟨trivial,?_⟩
   refine H4.set af 0 rfl (fun _=>rfl) rfl (X.length+u) rfl (by rw[qZ];exact(qk.1 q1).1) y rfl rfl rfl fun h5 H5=>⟨trivial,?_⟩
   refine⟨u,rfl,⟨by omega,by omega,?_⟩,by omega⟩;have A:X++(L.take u++(y::(L.drop u++Y)))=(X++L.take u)++y::([]++L[u]::(L.drop (u+1)++Y)):=by rw[qL J];simp only[qm,zk,zO]
   rw[A,<-q4];exact H5
  ·have:t=i:=by omega
   subst this;refine d h3 ⟨L.take t++y::L.drop t,hM,hE,?_⟩;have:X++((L.take t++y::L.drop t)++Y)=X++(L.take t++(y::(L.drop t++Y))):=by simp
   rw[this];exact W
end
end Go.Qw
namespace Wl
open Go Go.Vc
theorem Py{L R:List bg}(h:Sd bH L)(k:Sd bH R)(p q:Nat)(s:p<=L.length)(r:q<=R.length)
  (o:∀i j (d:i<L.length) (a:j<R.length),i+1=p->j=q->bH L[i] R[j]=true)
  (m:∀i j (d:i<L.length) (a:j<R.length),i=p->j+1=q->¬bH L[i] R[j]=true):
  (∀x∈L.take p,∀y∈R.drop q,bH x y=true)/\(∀x∈L.drop p,∀y∈R.take q,¬bH x y=true):=by
 constructor
 ·intro x g y f;obtain⟨i,d,rfl⟩:=qQ g;obtain⟨j,a,rfl⟩:=qQ f;rw[yB,wz];have b:i<p:=by simp at d;omega
  have c:q+j<R.length:=by simp at a;omega
  have e:=h.at_ cS (i:=i) (j:=p-1) (by omega) (by omega);have n:=o (p-1) q (by omega) (by omega) (by omega) rfl;have h3:=k.at_ cS (i:=q) (j:=q+j) (by omega) c;exact cS.trans _ _ _ e (cS.trans _ _ _ n h3)
 ·intro x g y f l;obtain⟨i,d,rfl⟩:=qQ g;obtain⟨j,a,rfl⟩:=qQ f;rw[yB,wz]at l;have c:j<q:=by simp at a;omega
  have b:p+i<L.length:=by simp at d;omega
  have e:=h.at_ cS (i:=p) (j:=p+i) (by omega) b;have h3:=k.at_ cS (i:=j) (j:=q-1) (by omega) (by omega);exact m p (q-1) (by omega) (by omega) rfl (by omega) (cS.trans _ _ _ e (cS.trans _ _ _ l h3))
end Wl
namespace Go.Qw
open Go Go.Vc Go.Proofs Wl
theorem uO:∀(N:Nat) {B:ap} {h0 h:Heap} {As:List HP} {s:Sl} (X L R Y:List bg) (a m b:Int),0<L.length->0<R.length->L.length+R.length<=N->a=(X.length:Int)->m=(X.length+L.length:Nat)->b=(X.length+L.length+R.length:Nat)->X.length+L.length+R.length+Y.length<=2^40->Sd bH L->Sd bH R->
  aa B h0 h (bT s (X++(L++(R++Y)))::As)->
  ab vV 291 #[s,vL vR a,vL vR m,vL vR b,.func (.func 165) #[] #[]] h fun v h'=>v=.tuple #[]/\∃M,Sd bH M/\bJ bH (L++R) M/\aa B h0 h' (bT s (X++(M++Y))::As):=by
 intro N
 induction N with
 |zero=>intro B h0 h As s X L R Y a m b hL hR hN;omega
 |succ N ih=>
  intro B h0 h As s X L R Y a m b hL hR hN ha hm hb S sL sR H;refine jw s a m b (165,#[],#[]) ?_;unfold fT;have e1:qc vR (m-a)=(L.length:Int):=by rw[ak _];omega
  have e2:qc vR (b-m)=(R.length:Int):=by rw[ak _];omega
  rw[e1,e2];refine bt (fun c=>?_) fun c=>bt (fun c2=>?_) fun c2=>?_
  ·obtain⟨x,hx⟩:∃x,L=[x]:=by
    match L,hL,c with
    |[x],_,_=>exact⟨x,rfl⟩
    |x::y::L,_,c=>simp at c;omega
   subst hx;exact FG (K:=fun v h'=>v=.tuple #[]/\∃M,Sd bH M/\bJ bH ([x]++R) M/\aa B h0 h' (bT s (X++(M++Y))::As)) x X R Y (by simp at S⊢;omega) sR H (fun h' ⟨M,q1,P,q3⟩=>⟨rfl,M,q1,P,q3⟩) a m b ha (by rw[hm];simp) (by rw[hb];simp)
  ·obtain⟨y,hy⟩:∃y,R=[y]:=by
    match R,hR,c2 with
    |[x],_,_=>exact⟨x,rfl⟩
    |x::y::L,_,c=>simp at c;omega
   subst hy;exact En (K:=fun v h'=>v=.tuple #[]/\∃M,Sd bH M/\bJ bH (L++[y]) M/\aa B h0 h' (bT s (X++(M++Y))::As)) y X L Y (by simp at S⊢;omega) sL H (fun h' ⟨M,q1,P,q3⟩=>⟨rfl,M,q1,P,q3⟩) a m ha hm
  ·refine⟨by decide,?_⟩;subst ha;subst hm;subst hb;have c':L.length≠1:=fun F=>c (by omega);have br:R.length≠1:=fun F=>c2 (by omega);rw[AZ X.length (X.length+L.length+R.length)];obtain⟨uq,U⟩:∃uq,uq=(X.length+(X.length+L.length+R.length))/2:=⟨_,rfl⟩
   rw[<-U];have en:qc vR ((uq:Int)+((X.length+L.length:Nat):Int))=((uq+(X.length+L.length):Nat):Int):=by rw[ak _];omega
   rw[en];obtain⟨n,hn⟩:∃n,n=uq+(X.length+L.length):=⟨_,rfl⟩
   rw[<-hn];have ep:qc vR ((n:Int)-1)=((n-1:Nat):Int):=by rw[ak _];omega
   rw[ep];obtain⟨D,hD⟩:∃D,D=X++(L++(R++Y)):=⟨_,rfl⟩
   have gL:∀i (f:i<L.length),D[X.length+i]?=some L[i]:=fun i f=>by
    rw[hD,qh (by omega),zd,ql f,qd f]
   have gR:∀i (f:i<R.length),D[X.length+L.length+i]?=some R[i]:=fun i f=>by
    rw[hD,qh (by omega),show X.length+L.length+i-X.length=L.length+i by omega,qh (by omega),zd,ql f,qd f]
   rw[<-hD]at H;refine cg (fun(g:Int×Int) h'=>h'=h/\∃o f:Nat,g=((o:Int),(f:Int))/\o<=f/\X.length<=o/\f<=X.length+L.length/\f<=uq/\n<=o+(X.length+L.length+R.length)/\(o=X.length∨n=o+(X.length+L.length+R.length))/\(f=X.length+L.length∨f=uq)) ?_ ?_
   ·refine aj (fun e=>⟨rfl,n-(X.length+L.length+R.length),uq,?_,by omega,by omega,by omega,by omega,by omega,by omega,by omega⟩) fun e=>⟨rfl,X.length,X.length+L.length,rfl,by omega,by omega,by omega,by omega,by omega,by omega,by omega⟩
    have:qc vR ((n:Int)-((X.length+L.length+R.length:Nat):Int))=((n-(X.length+L.length+R.length):Nat):Int):=by rw[ak _];omega
    rw[this]
   ·rintro⟨b0,bs⟩ _ ⟨rfl,o,f,a3,b1,b2,b3,b4,b5,b6,b7⟩;injection a3 with est1 est2
    subst est1;subst est2;dsimp only;refine aA (fun t:Nat×Nat=>((t.1:Int),(t.2:Int))) (fun t h'=>o<=t.1/\t.1<=t.2/\t.2<=f/\
     (∀i j (l:i<L.length) (hj:j<R.length),X.length+i+1=t.1->X.length+i+(X.length+L.length+j)=n-1->o<t.1->bH L[i] R[j]=true)/\
     (∀i j (l:i<L.length) (hj:j<R.length),X.length+i=t.2->X.length+i+(X.length+L.length+j)=n-1->t.2<f->¬bH L[i] R[j]=true)/\
     aa B h0 h' (bT s D::As)) (fun t=>t.2-t.1) (o,f) rfl ⟨by simp,by simpa using b1,by simp,fun _ _ _ _ _ _ E=>absurd E (by simp),fun _ _ _ _ _ _ E=>absurd E (by simp),H⟩ ?_
    rintro⟨g,r⟩ h1 ⟨t1,t2,t3,F1,F2,H1⟩;dsimp only at*;refine aj (fun e=>?_) (fun e=>?_)
    ·have E:g<r:=by omega
     rw[AZ _ _];obtain⟨G,a8⟩:∃G,G=(g+r)/2:=⟨_,rfl⟩
     rw[<-a8];have bl:qc vR (((n-1:Nat):Int)-(G:Int))=((n-1-G:Nat):Int):=by rw[ak _];omega
     rw[bl];obtain⟨i,l⟩:∃i,G=X.length+i:=⟨G-X.length,by omega⟩
     obtain⟨j,a7⟩:∃j,n-1-G=X.length+L.length+j:=⟨n-1-G-(X.length+L.length),by omega⟩
     have a9:i<L.length:=by omega
     have ax:j<R.length:=by omega
     rw[a7,l];refine⟨by decide,gQ H1 _ rfl (gR j ax) (gQ H1 _ rfl (gL i a9) (fZ (by rfl) ?_))⟩;refine(lO R[j] L[i] h1).mono ?_;rintro _ h2 ⟨rfl,R2⟩;have I:=H1.up R2.ag;refine⟨_,rfl,trivial,?_⟩;by_cases e2:iT R[j] L[i]<0
     ·have ay:=(mG _ _).1 e2;refine bf (fun e3=>absurd e3 (by simpa using e2)) fun _=>?_;refine⟨(g,X.length+i),rfl,⟨t1,by dsimp only;omega,by dsimp only;omega,F1,fun i2 j2 a0 a5 z A _=>?_,I⟩,by dsimp only;omega⟩;dsimp only at z;have:i2=i:=by omega
      subst this;have:j2=j:=by omega
      subst this;exact ay
     ·refine bf (fun _=>?_) fun e3=>absurd e3 (by simpa using e2);refine⟨(X.length+i+1,r),by dsimp only;rw[ak _];rfl,⟨by dsimp only;omega,by dsimp only;omega,t3,fun i2 j2 a0 a5 z A _=>?_,F2,I⟩,by dsimp only;omega⟩;dsimp only at z;have:i2=i:=by omega
      subst this;have:j2=j:=by omega
      subst this;exact rJ e2
    ·have am:g=r:=by omega
     subst am;have a6:qc vR ((n:Int)-(g:Int))=((n-g:Nat):Int):=by rw[ak _];omega
     rw[a6];obtain⟨p,hp⟩:∃p,g=X.length+p:=⟨g-X.length,by omega⟩
     obtain⟨q,hq⟩:∃q,n-g=X.length+L.length+q:=⟨n-g-(X.length+L.length),by omega⟩
     have a2:p<=L.length:=by omega
     have bb:q<=R.length:=by omega
     obtain⟨bk,bd⟩:=Py sL sR p q a2 bb (fun i j l hj z A=>F1 i j l hj (by omega) (by omega) (by
      by_cases al:o<g
      ·exact al
      ·exfalso;have:g=o:=by omega
       omega)) (fun i j l hj z A=>F2 i j l hj (by omega) (by omega) (by
      by_cases a4:g<f
      ·exact a4
      ·exfalso;have:g=f:=by omega
       omega))
     have V:L.take p++L.drop p=L:=qy _ _;have Q:R.take q++R.drop q=R:=qy _ _;have l1:(L.take p).length=p:=by simp;omega
     have l2:(L.drop p).length=L.length-p:=by simp
     have r1:(R.take q).length=q:=by simp;omega
     have r2:(R.drop q).length=R.length-q:=by simp
     have Z:Sd bH (L.take p):=Sd.left (v:=L.drop p) (by rw[V];exact sL);have ad:Sd bH (L.drop p):=Sd.right (u:=L.take p) (by rw[V];exact sL);have T:Sd bH (R.take q):=Sd.left (v:=R.drop q) (by rw[Q];exact sR);have W:Sd bH (R.drop q):=Sd.right (u:=R.take q) (by rw[Q];exact sR);rw[hq,hp];refine cg (fun _ h'=>aa B h0 h' (bT s (X++(L.take p++(R.take q++(L.drop p++(R.drop q++Y)))))::As)) ?_ ?_
     ·have w:aa B h0 h1 (bT s ((X++L.take p)++(L.drop p++(R.take q++(R.drop q++Y))))::As):=by
       have:(X++L.take p)++(L.drop p++(R.take q++(R.drop q++Y)))=D:=by
        rw[hD]
        conv=>rhs;rw[<-V,<-Q]
        simp only[qm,zk,zO]
       rw[this];exact H1
      refine aj (fun z=>aj (fun A=>?_) fun A=>?_) fun z=>?_
      ·refine(KY (X++L.take p) (L.drop p) (R.take q) (R.drop q++Y) _ _ _ (by omega) (by omega) (by simp;omega) (by simp;omega) (by simp;omega) (by simp;omega) w).mono ?_;rintro _ h2 ⟨rfl,I⟩;refine⟨(),rfl,?_⟩;rw[qm]at I;exact I
      ·have:R.take q=[]:=qM (by omega);rw[this]at w⊢;simpa using w
      ·have:L.drop p=[]:=qM (by omega);rw[this]at w⊢;simpa using w
     ·rintro _ h2 I;refine cg (fun _ h'=>∃k,Sd bH k/\bJ bH (L.take p++R.take q) k/\k.length=p+q/\aa B h0 h' (bT s (X++(k++(L.drop p++(R.drop q++Y))))::As)) ?_ ?_
      ·have d:(L.take p=[]∨R.take q=[])->∃k,Sd bH k/\bJ bH (L.take p++R.take q) k/\k.length=p+q/\aa B h0 h2 (bT s (X++(k++(L.drop p++(R.drop q++Y))))::As):=fun O=>by
        refine⟨L.take p++R.take q,?_,bJ.refl _,by simp;omega,by rw[qm];exact I⟩;rcases O with F|F
        ·rw[F];exact T
        ·rw[F,qU];exact Z
       refine aj (fun z=>aj (fun A=>?_) fun A=>d (.inr (qM (by omega)))) fun z=>d (.inl (qM (by omega)));refine(ih X (L.take p) (R.take q) (L.drop p++(R.drop q++Y)) _ _ _ (by omega) (by omega) (by omega) rfl (by rw[l1]) (by rw[l1,r1];omega) (by simp;omega) Z T I).mono ?_;rintro _ h3 ⟨rfl,k,q1,P,q3⟩;refine⟨(),rfl,k,q1,P,?_,q3⟩;have J:=ox cS P;rw[<-J];simp;omega
      ·rintro _ h3 ⟨k,m1,m2,m3,H3⟩;have fin:∀{h':Heap} {M2:List bg},Sd bH M2->bJ bH (L.drop p++R.drop q) M2->aa B h0 h' (bT s (X++(k++(M2++Y)))::As)->(Value.tuple #[]=.tuple #[]/\∃M,Sd bH M/\bJ bH (L++R) M/\aa B h0 h' (bT s (X++(M++Y))::As)):=fun{h' M2} k1 k2 k3=>by
        obtain⟨f1,f2⟩:=OM cS (by rw[V];exact sL) (by rw[Q];exact sR) bk bd m2 m1 k2 k1;rw[V,Q]at f2;exact⟨rfl,k++M2,f1,f2,by rw[qm];exact k3⟩
       have d:(L.drop p=[]∨R.drop q=[])->(Value.tuple #[]=.tuple #[]/\∃M,Sd bH M/\bJ bH (L++R) M/\aa B h0 h3 (bT s (X++(M++Y))::As)):=fun O=>by
        refine fin (M2:=L.drop p++R.drop q) ?_ (bJ.refl _) (by rw[qm];exact H3);rcases O with F|F
        ·rw[F];exact W
        ·rw[F,qU];exact ad
       refine aj (fun z=>aj (fun A=>?_) fun A=>d (.inr (qM (by omega)))) fun z=>d (.inl (qM (by omega)));have a1:aa B h0 h3 (bT s ((X++k)++(L.drop p++(R.drop q++Y)))::As):=by rw[qm];exact H3
       refine(ih (X++k) (L.drop p) (R.drop q) Y _ _ _ (by omega) (by omega) (by omega) (by simp;omega) (by simp;omega) (by simp;omega) (by simp;omega) ad W a1).mono ?_;rintro _ h4 ⟨rfl,M2,k1,k2,k3⟩;refine⟨(),rfl,fin k1 k2 (by rw[qm]at k3;exact k3)⟩
end Go.Qw
namespace Wl
open Go Go.Vc
def Bs(k:Nat)(l:List bg):Prop:=∀q,Sd bH ((l.drop (q*k)).take k)
theorem Bs.nil(k:Nat):Bs k []:=fun q=>by simp[Sd]
theorem Bs.first{k:Nat}{l:List bg}(h:Bs k l):Sd bH (l.take k):=by have:=h 0;simpa using this
theorem Bs.rest{k:Nat}{l:List bg}(h:Bs k l):Bs k (l.drop k):=fun q=>by
 have:=h (q+1);rw[zo,show k+q*k=(q+1)*k by rw[zy,Nat.add_comm]];exact this
theorem Bs.snoc{k t:Nat}{l M:List bg}(h:Bs k l)(c:l.length=t*k)(b:Sd bH M)(d:M.length<=k):Bs k (l++M):=fun q=>by
 rcases Nat.lt_trichotomy q t with hq|hq|hq
 ·have a:(q+1)*k<=t*k:=ze _ hq;rw[zy]at a;rw[List.drop_append_of_le_length (by omega),zE (by rw[qR];omega)];exact h q
 ·subst hq;rw[<-c,List.drop_left,qj d];exact b
 ·have a:(t+1)*k<=q*k:=ze _ hq;rw[zy]at a;rw[q9 (by rw[qp];omega)];simp[Sd]
theorem Bs.whole{k:Nat}{l:List bg}(h:Bs k l)(a:l.length<=k):Sd bH l:=by
 have:=h.first;rw[qj a]at this;exact this
end Wl
namespace Go.Qw
open Go Go.Vc Go.Proofs Wl
section
variable {B:ap} {h0 h h':Heap} {As:List HP} {s:Sl} {d:List bg}
theorem KZ(d:List bg)(n:Int)(hn:n=d.length)(hd:d.length<=2^30)(H:aa B h0 h (bT s d::As)):
  ab vV 230 #[s,vL vR n,.func (.func 165) #[] #[]] h fun v h'=>v=.tuple #[]/\aa B h0 h' (bT s (d.mergeSort bH)::As):=by
 subst hn;refine jU s d.length (165,#[],#[]) ?_;unfold gr;refine aA (fun P:List bg=>((P.length:Int),((P.length+20:Nat):Int))) (fun P h'=>P.length<=d.length/\(∃t,P.length=t*20)/\Bs 20 P/\bJ bH (d.take P.length) P/\aa B h0 h' (bT s (P++d.drop P.length)::As)) (fun P=>d.length-P.length) [] rfl ⟨by simp,⟨0,by simp⟩,Bs.nil _,by simpa using bJ.refl _,by simpa using H⟩ ?_;rintro P h1 ⟨hP,⟨t,L⟩,W,Z,S⟩;dsimp only;refine aj (fun e=>?_) (fun e=>?_)
 ·have ad:P.length+20<=d.length:=by omega
  have eY:(d.drop P.length).take 20++d.drop (P.length+20)=d.drop P.length:=by
   rw[<-zo];exact qy _ _
  have X:((d.drop P.length).take 20).length=20:=by simp;omega
  rw[<-eY]at S;refine(sI P ((d.drop P.length).take 20) (d.drop (P.length+20)) _ _ rfl (by rw[X]) (by simp;omega) S).mono ?_;rintro _ h2 ⟨rfl,i,j,b,H2⟩;have w:i.length=20:=by rw[<-ox cS b,X]
  have f:(P++i).length=P.length+20:=by rw[qp,w]
  refine⟨(),rfl,P++i,?_,⟨by omega,⟨t+1,by rw[f,L,zy]⟩,W.snoc L j (by omega),?_,?_⟩,by omega⟩
  ·rw[f,ak _];congr 1
  ·rw[f];have:d.take (P.length+20)=d.take P.length++(d.drop P.length).take 20:=by rw[List.take_add]
   rw[this];exact Z.app b
  ·rw[f,qm];exact H2
 ·have K:aa B h0 h1 (bT s (P++(d.drop P.length++[]))::As):=by rw[qU];exact S
  refine(sI P (d.drop P.length) [] _ _ rfl (by rw[qR];omega) (by simp;omega) K).mono ?_;rintro _ h3 ⟨rfl,i,j,b,U⟩;have w:i.length=d.length-P.length:=by rw[<-ox cS b,qR]
  have T:Bs 20 (P++i):=W.snoc L j (by omega);have c:bJ bH d (P++i):=by
   have:=Z.app b;rw[qy]at this;exact this
  refine⟨(),rfl,?_⟩;refine aA (fun t:Nat×List bg=>(t.1:Int)) (fun t h'=>0<t.1/\t.1<=2^32/\t.2.length=d.length/\Bs t.1 t.2/\bJ bH d t.2/\aa B h0 h' (bT s t.2::As)) (fun t=>2^32-t.1) (20,P++i) rfl ⟨by dsimp only;omega,by dsimp only;omega,by dsimp only;rw[qp];omega,T,c,by rw[qU]at U;exact U⟩ ?_;rintro⟨k,l⟩ h4 ⟨ay,hk,hl,V,z,O⟩;dsimp only at*;refine aj (fun e2=>?_) (fun e2=>?_)
  ·have al:k<d.length:=by omega
   have I:qc vR ((2:Int)*k)=((2*k:Nat):Int):=by rw[ak _];omega
   have J:qc vR ((k:Int)*2)=((2*k:Nat):Int):=by rw[ak _];omega
   rw[I];have next:∀{h':Heap} (r:List bg),r.length=d.length->Bs (2*k) r->bJ bH l r->aa B h0 h' (bT s r::As)->∃g:Nat×List bg,qc vR ((k:Int)*2)=(g.1:Int)/\(0<g.1/\g.1<=2^32/\g.2.length=d.length/\Bs g.1 g.2/\bJ bH d g.2/\aa B h0 h' (bT s g.2::As))/\2^32-g.1<2^32-k:=fun{h'} r q1 q2 q3 q4=>
    ⟨(2*k,r),J,⟨by dsimp only;omega,by dsimp only;omega,q1,q2,z.trans q3,q4⟩,by dsimp only;omega⟩
   refine aA (fun t:List bg×List bg=>((t.1.length:Int),((t.1.length+2*k:Nat):Int))) (fun t h'=>(∃u,t.1.length=u*(2*k))/\t.1.length+t.2.length=d.length/\Bs (2*k) t.1/\Bs k t.2/\bJ bH l (t.1++t.2)/\aa B h0 h' (bT s (t.1++t.2)::As)) (fun t=>t.2.length) ([],l) (by dsimp only;rw[wZ,Nat.zero_add];rfl) ⟨⟨0,by simp⟩,by simpa using hl,Bs.nil _,V,by simpa using bJ.refl _,by simpa using O⟩ ?_;rintro⟨P,Q⟩ Y ⟨⟨u,D⟩,am,o,a,c,R⟩;dsimp only at*;have N:qc vR ((P.length:Int)+k)=((P.length+k:Nat):Int):=by rw[ak _];omega
   rw[N];have eQ:Q.take k++Q.drop k=Q:=qy _ _;refine aj (fun e3=>?_) (fun e3=>aj (fun e4=>?_) fun e4=>?_)
   ·have a0:2*k<=Q.length:=by omega
    have x:Q.take k++((Q.drop k).take k++Q.drop (2*k))=Q:=by
     have:Q.drop (2*k)=(Q.drop k).drop k:=by rw[zo];congr 1;omega
     rw[this,qy,eQ]
    have q:(Q.take k).length=k:=by simp;omega
    have F:((Q.drop k).take k).length=k:=by simp;omega
    have p:aa B h0 Y (bT s (P++(Q.take k++((Q.drop k).take k++Q.drop (2*k))))::As):=by rw[x];exact R
    refine(uO _ P (Q.take k) ((Q.drop k).take k) (Q.drop (2*k)) _ _ _ (by omega) (by omega) (qt _) rfl (by rw[q]) (by rw[q,F];omega) (by simp;omega) a.first a.rest.first p).mono ?_;rintro _ h6 ⟨rfl,M,j,b,E⟩;have A:M.length=2*k:=by rw[<-ox cS b,qp,q,F];omega
    have m:(P++M).length=P.length+2*k:=by rw[qp,A]
    refine⟨(),rfl,(P++M,Q.drop (2*k)),?_,⟨⟨u+1,by dsimp only;rw[m,D];exact(zy u (2*k)).symm⟩,by dsimp only;rw[m,qR];omega,o.snoc D j (by omega),?_,?_,?_⟩,by dsimp only;rw[qR];omega⟩
    ·dsimp only;rw[m,ak _];congr 1
    ·dsimp only;have:Q.drop (2*k)=(Q.drop k).drop k:=by rw[zo];congr 1;omega
     rw[this];exact a.rest.rest
    ·dsimp only;refine c.trans ?_
     conv=>arg 2;rw[<-x]
     rw[qm];have:=(bJ.refl (le:=bH) P).app (b.app (bJ.refl (le:=bH) (Q.drop (2*k))));rw[qm]at this;exact this
    ·dsimp only;rw[qm];exact E
   ·have y:k<Q.length:=by omega
    have ax:Q.length<2*k:=by omega
    have q:(Q.take k).length=k:=by simp;omega
    have F:(Q.drop k).length=Q.length-k:=by simp
    have G:Sd bH (Q.drop k):=by
     have:=a.rest.first;rw[qj (by omega)]at this;exact this
    have p:aa B h0 Y (bT s (P++(Q.take k++(Q.drop k++[])))::As):=by rw[qU,eQ];exact R
    refine(uO _ P (Q.take k) (Q.drop k) [] _ _ _ (by omega) (by omega) (qt _) rfl (by rw[q]) (by rw[q,F];omega) (by simp;omega) a.first G p).mono ?_;rintro _ h6 ⟨rfl,M,j,b,E⟩;have A:M.length=Q.length:=by rw[<-ox cS b,eQ]
    rw[eQ]at b;rw[qU]at E;exact⟨(),rfl,next (P++M) (by rw[qp];omega) (o.snoc D j (by omega)) (c.trans ((bJ.refl _).app b)) E⟩
   ·have y:Q.length<=k:=by omega
    exact next (P++Q) (by rw[qp];omega) (o.snoc D (a.whole y) (by omega)) c R
  ·have hs:Sd bH l:=V.whole (by omega);rw[MJ cS hs z]at O;exact⟨rfl,O⟩
theorem Eo(d:List bg)(b:d.length<=2^30)(H:aa B h0 h (bT s d::As)):
  ab vV 164 #[s,.func (.func 165) #[] #[]] h fun v h'=>v=.tuple #[]/\aa B h0 h' (bT s (d.mergeSort bH)::As):=by
 refine gJ s (165,#[],#[]) ?_;unfold ee;refine(KZ d _ (by rw[(H.own 0 rfl).len]) b H).mono ?_;rintro _ c ⟨rfl,a⟩;exact⟨(),rfl,rfl,a⟩
def gI:bg:=(0,0,0,0,0,0,0,⟨none,0,0⟩)
end
end Go.Qw
namespace Wl
open Go Go.Vc Go.Qw
def gX(l:List bg)(k:Nat):Bool:=decide (k=0)||decide (iT (l.getD k gI) (l.getD (k-1) gI)≠0)
def gY(l:List bg)(k:Nat):List bg:=((qz k).filter (gX l)).map fun i=>l.getD i gI
def Pz(l:List bg):List bg:=gY l l.length
theorem jX(l:List bg)(k:Nat):gY l (k+1)=gY l k++if gX l k then[l.getD k gI]else[]:=by
 unfold gY;rw[zx,zf,zi,zu,vr];split<;>rfl
end Wl
namespace Go.Qw
open Go Go.Vc Go.Proofs Wl
section
variable {B:ap} {h0 h h':Heap} {As:List HP} {s:Sl} {d:List bg}
theorem Ep(a b:bg)(h:Heap):ab vV 167 #[recv a,recv b] h fun v h'=>v=vP (decide (iT a b=0))/\Sp h h' []:=by
 refine xH a b ?_;unfold pc;refine(Sp.refl h).boxed fun i j e=>e.boxed fun g d c=>?_;have c:Sp h d [ai i 49 (ba a),ai g 49 (ba b)]:=c;refine⟨a,(c.box 0 rfl).aI _ rfl,b,(c.box 1 rfl).aI _ rfl,(lO a b d).mono ?_⟩;rintro _ h3 ⟨rfl,f⟩;refine⟨_,rfl,?_,.zip (aa.up c f.ag).ag⟩;congr 1
theorem CK(l:List bg)(hd:l.length<=2^30)(H:aa B h0 h (bT s l::As)):
  ab vV 166 #[s,.func (.func 167) #[] #[]] h fun v h'=>∃r:Sl,v=r/\aa B h0 h' (bT r (Pz l)::As):=by
 refine ic s (167,#[],#[]) ?_;unfold eM;have ay:=(H.own 0 rfl).len;have G:=(H.own 0 rfl).cap;have n:(∀j,j<l.length->gX l j=true)->Pz l=l:=fun y=>by
  have:∀k,k<=l.length->gY l k=l.take k:=fun k=>by
   induction k with
   |zero=>simp[gY]
   |succ k ih=>
    intro K;rw[jX,ih (by omega),if_pos (y k (by omega)),aO l k,getD_lt (show k<l.length by omega)]
  unfold Pz;rw[this _ (qt _),za]
 refine aj (fun e=>⟨s,rfl,?_⟩) (fun e=>?_)
 ·rw[n fun j m=>by unfold gX;rw[decide_eq_true (show j=0 by omega)];rfl];exact H
 refine aA (fun i:Nat=>(i:Int)) (fun i h'=>1<=i/\i<=l.length/\(∀j,j<i->gX l j=true)/\aa B h0 h' (bT s l::As)) (fun i=>l.length-i) 1 rfl ⟨by omega,by omega,fun j m=>by unfold gX;rw[decide_eq_true (show j=0 by omega)];rfl,H⟩ ?_;rintro i h1 ⟨al,hi,y,J⟩;refine aj (fun U=>?_) (fun U=>?_)
 ·have w:i<l.length:=by
   have e':(i:Int)<(s.len:Int):=U;omega
  have ei:qc vR ((i:Int)-1)=((i-1:Nat):Int):=by rw[ak _];omega
  rw[ei];refine gQ J i rfl (x:=l.getD i gI) (by rw[getD_lt w,qd w]) (gQ J (i-1) rfl (x:=l.getD (i-1) gI) (by rw[getD_lt (show i-1<l.length by omega),qd]) (fZ (by rfl) ?_));refine(Ep _ _ h1).mono ?_;rintro _ h2 ⟨rfl,R2⟩;have Z:=J.up R2.ag;refine⟨_,rfl,trivial,bn (fun e2=>?_) (fun e2=>?_)⟩
  ·have p:gX l i=false:=by
    unfold gX;rw[decide_eq_false (show¬i=0 by omega)];simpa using e2
   have o:gY l i=l.take i:=by
    have:∀k,k<=i->gY l k=l.take k:=fun k=>by
     induction k with
     |zero=>simp[gY]
     |succ k ih=>
      intro K;rw[jX,ih (by omega),if_pos (y k (by omega)),aO l k,getD_lt (show k<l.length by omega)]
    exact this i (qt _)
   refine⟨⟨by omega,by omega⟩,?_⟩;rw[qo];refine aA (fun t:Nat×List bg=>(((gY l (i+t.1)).length:Int),(t.1:Int))) (fun t h'=>1<=t.1/\i+t.1<=l.length/\t.2.length=l.length/\(gY l (i+t.1)).length+1<=i+t.1/\t.2.take (gY l (i+t.1)).length=gY l (i+t.1)/\(∀j,i+t.1-1<=j->t.2[j]?=l[j]?)/\aa B h0 h' (bT s t.2::As)) (fun t=>l.length-t.1) (1,l) ?_ ⟨by simp,by dsimp only;omega,rfl,?_,?_,fun _ _=>rfl,Z⟩ ?_
   ·dsimp only;rw[jX,p,o];simp;omega
   ·dsimp only;rw[jX,p,o];simp;omega
   ·dsimp only;rw[jX,p,o];simp
   rintro⟨k,D⟩ h3 ⟨ax,am,A,P,d,u,I⟩;dsimp only at*;obtain⟨c,O⟩:∃c,c=(gY l (i+k)).length:=⟨_,rfl⟩
   rw[<-O]at P d⊢;have ad:=(I.own 0 rfl).len;have F:=(I.seq 0 rfl fun _=>rfl).drop i G;refine aj (fun e3=>?_) (fun e3=>?_)
   ·have Q:i+k<l.length:=by omega
    have ek:qc vR ((k:Int)-1)=((k-1:Nat):Int):=by rw[ak _];omega
    rw[ek];have Y:∀j,k-1<=j->(m:i+j<l.length)->(D.drop i)[j]?=some (l.getD (i+j) gI):=fun j m z=>by
     rw[List.getElem?_drop,u _ (by omega),getD_lt z,qd z]
    have gk:=Y k (by omega) Q;have N:=Y (k-1) (by omega) (by omega);obtain⟨V,X⟩:=qk.1 gk;obtain⟨q1,q2⟩:=qk.1 N;refine Seq.fF (f:=ba) (g:=ba) F k rfl V (l.getD (i+k) gI) (by rw[X]) ?_;refine Seq.fF (f:=ba) (g:=ba) F (k-1) rfl q1 (l.getD (i+(k-1)) gI) (by rw[q2]) (fZ (by rfl) ?_);refine(Ep _ _ h3).mono ?_;rintro _ h4 ⟨rfl,R4⟩;have R:=I.up R4.ag;have q:gX l (i+k)=!decide (iT (l.getD (i+k) gI) (l.getD (i+(k-1)) gI)=0):=by
     unfold gX;rw[decide_eq_false (show¬i+k=0 by omega),show i+k-1=i+(k-1)by omega];simp
    have a:=jX l (i+k);rw[q]at a;refine⟨_,rfl,trivial,bf (fun S=>?_) (fun S=>?_)⟩
    ·rw[S]at a;have b:(gY l (i+(k+1))).length=c+1:=by rw[<-w5,a];simp[O]
     have E:=(R.seq 0 rfl fun _=>rfl).drop i G;refine Seq.fF (f:=ba) (g:=ba) E k rfl V (l.getD (i+k) gI) (by rw[X]) ?_;refine R.set af 0 rfl (fun _=>rfl) rfl c rfl (by omega) (l.getD (i+k) gI) rfl rfl rfl fun h5 H5=>?_;refine⟨(k+1,D.set c (l.getD (i+k) gI)),?_,⟨by dsimp only;omega,by dsimp only;omega,by dsimp only;rw[qZ];exact A,by dsimp only;rw[b];omega,?_,fun j m=>?_,H5⟩,by dsimp only;omega⟩
     ·dsimp only;rw[b,ak _,ak _];rfl
     ·dsimp only;rw[b,aO _ c (by rw[qZ];omega),List.getElem_set_self,List.take_set_of_le (qt _),d,<-w5,a];simp
     ·dsimp only at m⊢;rw[zG (by omega)];exact u j (by omega)
    ·rw[S]at a;have b:(gY l (i+(k+1))).length=c:=by rw[<-w5,a];simp[O]
     refine⟨(k+1,D),?_,⟨by dsimp only;omega,by dsimp only;omega,A,by dsimp only;rw[b];omega,?_,fun j m=>u j (by dsimp only at m;omega),R⟩,by dsimp only;omega⟩
     ·dsimp only;rw[b,ak _];rfl
     ·dsimp only;rw[b,d,<-w5,a];simp
   ·have L:i+k=l.length:=by omega
    refine⟨⟨by omega,by omega⟩,?_⟩;rw[qo];refine I.xp af 0 rfl VB (fun _=>rfl) rfl (by decide) c (by omega) fun h6 W=>⟨⟨by omega,by omega⟩,⟨s.ptr,c,s.cap⟩,rfl,?_⟩
    rw[d,L]at W;exact W
  ·refine⟨i+1,by rw[ak _];rfl,⟨by omega,by omega,fun j m=>?_,Z⟩,by omega⟩;by_cases T:j=i
   ·subst T;unfold gX;rw[decide_eq_true (show iT (l.getD j gI) (l.getD (j-1) gI)≠0 by simpa using e2)];simp
   ·exact y j (by omega)
 ·have M:i=l.length:=by
   have e':¬(i:Int)<(s.len:Int):=U;omega
  subst M;rw[n y];exact⟨s,rfl,J⟩
end
def fieldsOf(d:Option TypeDesc):List (Bool×TypeId×Nat):=match d with|some (.struct fs)=>fs.toList.map (fun f=>(f.name== "_",f.type,f.offset))|_=>[]
theorem PA:fieldsOf (Tryz.prog.underlying 24)=[(false,3,0),(false,3,1),(false,3,2)]:=by kernel_rfl
theorem RJ:Tryz.prog.stoodInHeld 24=false:=by kernel_rfl
theorem RK:Tryz.prog.eqGuardType Tryz.prog.depth 24=false:=by kernel_rfl
theorem JC{P:Program}{t:TypeId}{a b c:TypeId×Nat}(h:fieldsOf (P.underlying t)=[(false,a.1,a.2),(false,b.1,b.2),(false,c.1,c.2)]):
  ∃f g e:Field,P.underlying t=some (.struct #[f,g,e])/\(f.name≠ "_" /\f.type=a.1/\f.offset=a.2)/\(g.name≠ "_" /\g.type=b.1/\g.offset=b.2)/\(e.name≠ "_" /\e.type=c.1/\e.offset=c.2):=by
 cases hu:P.underlying t with
 |none=>rw[hu]at h;cases h
 |some d=>
  rw[hu]at h;cases d with
  |struct fs=>
   simp only[fieldsOf]at h;obtain⟨l⟩:=fs;have i:l.length=3:=by simpa using congrArg vn h
   obtain⟨f,r,rfl⟩:=wX i;obtain⟨g,k,rfl⟩:=wX (by simpa using i:r.length=1+1);obtain⟨e,j,rfl⟩:=wX (by simpa using i:k.length=0+1);obtain rfl:j=[]:=by simpa using i
   simp at h;exact⟨f,g,e,rfl,⟨h.1.1,h.1.2.1,h.1.2.2⟩,⟨h.2.1.1,h.2.1.2.1,h.2.1.2.2⟩,⟨h.2.2.1,h.2.2.2.1,h.2.2.2.2⟩⟩
  |_=>cases h
theorem dK{P:Program}{d:Nat}{t:TypeId}{k:IntKind}(h:∃c,P.underlying t=some (.int c))(a b:Int):au P (Op.equalIn (d+1) t (.int k a) (.int k b)) (a==b):=by
 obtain⟨c,h⟩:=h;unfold Op.equalIn;refine(aE h).bind ?_;simp only[if_true];exact .pure
theorem fc{P:Program}{t:TypeId}{k:IntKind}(h:P.underlying t=some (.int k)){a:Array Value}{i:Nat}{v:Value}(b:a[i]?=some v):au P (part t a i) v:=by
 unfold part isAgg;refine au.bind (v:=false) ((aE h).bind .pure) ?_;simp only[q0,if_false,b];exact .pure
theorem Wr(p q:Pm):au vV (Op.equal 24 (vQ #[vL vR p.1,vL vR p.2.1,vL vR p.2.2]) (vQ #[vL vR q.1,vL vR q.2.1,vL vR q.2.2])) (decide (p=q)):=by
 obtain⟨f,g,u,I,⟨G,B,D⟩,⟨y,E,z⟩,⟨A,H,u3⟩⟩:=JC (a:=(3,0)) (b:=(3,1)) (c:=(3,2)) PA;have F:∃k,Tryz.prog.underlying 3=some (.int k):=⟨.i64,by kernel_rfl⟩
 obtain⟨k,d⟩:=F;unfold Op.equal;rw[show Op.maxDepth=9998+1+1 from rfl,Op.equalIn];refine(aE I).bind ?_;refine au.bind (v:=vV) (fun w=>rfl) ?_;simp only[RJ,q0,if_false,List.forIn_toArray,List.forIn_cons,List.forIn_nil,ne_eq,G,y,A,not_false_eq_true,if_true,B,D,E,z,H,u3];obtain⟨a,b,c⟩:=p;obtain⟨h,i,j⟩:=q;dsimp only;have o:au vV (part 3 #[Value.int vR a,Value.int vR b,Value.int vR c] 0) _:=fc d rfl;have n:au vV (part 3 #[Value.int vR h,Value.int vR i,Value.int vR j] 0) _:=fc d rfl;have r:au vV (part 3 #[Value.int vR a,Value.int vR b,Value.int vR c] 1) _:=fc d rfl;have s:au vV (part 3 #[Value.int vR h,Value.int vR i,Value.int vR j] 1) _:=fc d rfl;have x:au vV (part 3 #[Value.int vR a,Value.int vR b,Value.int vR c] 2) _:=fc d rfl;have t:au vV (part 3 #[Value.int vR h,Value.int vR i,Value.int vR j] 2) _:=fc d rfl;by_cases l:a=h
 ·by_cases m:b=i
  ·by_cases h3:c=j
   ·have e:decide ((a,b,c)=(h,i,j))=true:=by simp[l,m,h3]
    rw[e];refine au.bind (v:=(none,())) (au.bind (v:=ForInStep.yield (none,())) (o.bind (n.bind ((dK ⟨k,d⟩ a h).bind ?_))) (au.bind (v:=ForInStep.yield (none,())) (r.bind (s.bind ((dK ⟨k,d⟩ b i).bind ?_))) (au.bind (v:=ForInStep.yield (none,())) (x.bind (t.bind ((dK ⟨k,d⟩ c j).bind ?_))) .pure))) .pure
    ·simp only[l,beq_self_eq_true,zY,q0,if_false];exact .pure
    ·simp only[m,beq_self_eq_true,zY,q0,if_false];exact .pure
    ·simp only[h3,beq_self_eq_true,zY,q0,if_false];exact .pure
   ·have e:decide ((a,b,c)=(h,i,j))=false:=by simp[h3]
    rw[e];refine au.bind (v:=(some false,())) (au.bind (v:=ForInStep.yield (none,())) (o.bind (n.bind ((dK ⟨k,d⟩ a h).bind ?_))) (au.bind (v:=ForInStep.yield (none,())) (r.bind (s.bind ((dK ⟨k,d⟩ b i).bind ?_))) (au.bind (v:=ForInStep.done (some false,())) (x.bind (t.bind ((dK ⟨k,d⟩ c j).bind ?_))) .pure))) .pure
    ·simp only[l,beq_self_eq_true,zY,q0,if_false];exact .pure
    ·simp only[m,beq_self_eq_true,zY,q0,if_false];exact .pure
    ·rw[show(c==j)=false by simpa using h3];simp only[we,if_true];exact .pure
  ·have e:decide ((a,b,c)=(h,i,j))=false:=by simp[m]
   rw[e];refine au.bind (v:=(some false,())) (au.bind (v:=ForInStep.yield (none,())) (o.bind (n.bind ((dK ⟨k,d⟩ a h).bind ?_))) (au.bind (v:=ForInStep.done (some false,())) (r.bind (s.bind ((dK ⟨k,d⟩ b i).bind ?_))) .pure)) .pure
   ·simp only[l,beq_self_eq_true,zY,q0,if_false];exact .pure
   ·rw[show(b==i)=false by simpa using m];simp only[we,if_true];exact .pure
 ·have e:decide ((a,b,c)=(h,i,j))=false:=by simp[l]
  rw[e];refine au.bind (v:=(some false,())) (au.bind (v:=ForInStep.done (some false,())) (o.bind (n.bind ((dK ⟨k,d⟩ a h).bind ?_))) .pure) .pure;rw[show(a==h)=false by simpa using l];simp only[we,if_true];exact .pure
theorem VE(x y:Operand)(p q:Pm):fM vV .neq 24 x y (vQ #[vL vR p.1,vL vR p.2.1,vL vR p.2.2]) (vQ #[vL vR q.1,vL vR q.2.1,vL vR q.2.2]) (vP (!decide (p=q))):=by
 unfold fM eqGuard;refine au.bind (v:=()) ?_ ?_
 ·simp only[zY,q0,if_false];refine au.bind (v:=vV) (fun w=>rfl) ?_;refine au.bind (v:=vV) (fun w=>rfl) ?_;simp only[RK,we,if_true];exact .pure
 ·exact(Wr p q).bind .pure
end Go.Qw
namespace Wl
def Nl(P:ca->Bool)(l:List ca)(i:Int):Prop:=(i=-1/\l.any P=false)∨∃n:Nat,∃h:n<l.length,i=n/\P l[n]=true/\(l.take n).any P=false
theorem JD{P:ca->Bool}{l:List ca}{i:Int}(h:Nl P l i):decide (i>=0)=l.any P:=by
 rcases h with⟨rfl,h⟩|⟨n,hn,rfl,h,_⟩
 ·rw[h];rfl
 ·rw[yK.2 ⟨_,qn hn,h⟩];exact decide_eq_true (by omega)
end Wl
namespace Go.Qw
open Go Go.Vc Go.Proofs Wl
theorem BJ(f:FuncId)(pre post:Array Value)(P:Wl.ca->Bool)(l:Sl)(a:List Wl.ca)(h:Heap)(y:C.fns[f]?=some true)(n:js oz h l a)(D:a.length<=2^30)
  (z:∀(u:dt) (E:Wl.ca) (h':Heap),Sp h h' []->js kE h' u E->E∈a->ab vV f (pre.toList++[Value.agg #[vO u.1,vL vR u.2.1,vL vR u.2.2.1,u.2.2.2]]++post.toList).toArray h' fun v j=>v=vP (P E)/\Sp h' j []):
  ab vV 149 #[l,.func (.func f) pre post] h fun v h'=>(∃i:Int,v=vL vR i/\Nl P a i)/\Sp h h' []:=by
 refine fi l (f,pre,post) ?_;unfold dH;obtain⟨e,x,B,w⟩:=cP.Dk n;have t:=cP.len n;refine aA (fun i:Nat=>(i:Int)) (fun i h'=>i<=a.length/\(a.take i).any P=false/\Sp h h' []) (fun i=>a.length-i) 0 rfl ⟨by omega,by simp,Sp.refl h⟩ ?_;rintro i o ⟨F,b,d⟩;refine aj (fun k=>?_) (fun k=>?_)
 ·have c:i<a.length:=by
   have r:(i:Int)<(l.len:Int):=k;omega
  have p:js kE o (e[i]'(by omega)) a[i]:=kE.mono (kE.loc (w i (by omega) c) d.ag) fun _ s=>qG s d.ag.1;refine(Seq.up x d.ag).fF (g:=bI) i rfl (by omega) (e[i]'(by omega)) rfl (fZ y ?_);refine(z (e[i]'(by omega)) a[i] o d p (qn c)).mono ?_;rintro _ A ⟨rfl,q⟩;have m:=d.up q.ag;refine⟨_,rfl,bn (fun e2=>⟨⟨i,rfl,.inr ⟨i,c,rfl,e2,b⟩⟩,m⟩) (fun e2=>?_)⟩;refine⟨i+1,by rw[ak _];rfl,⟨by omega,?_,m⟩,by omega⟩;rw[aO _ _ c,vp,b,List.any_cons,List.any_nil,e2];rfl
 ·have r:¬(i:Int)<(l.len:Int):=k;rw[qj (by omega)]at b;exact⟨⟨-1,rfl,.inl ⟨rfl,b⟩⟩,d⟩
theorem FH(f:FuncId)(pre post:Array Value)(P:Wl.ca->Bool)(l:Sl)(a:List Wl.ca)(h:Heap)(j:C.fns[f]?=some true)(c:js oz h l a)(d:a.length<=2^30)
  (k:∀(u:dt) (E:Wl.ca) (h':Heap),Sp h h' []->js kE h' u E->E∈a->ab vV f (pre.toList++[Value.agg #[vO u.1,vL vR u.2.1,vL vR u.2.2.1,u.2.2.2]]++post.toList).toArray h' fun v b=>v=vP (P E)/\Sp h' b []):
  ab vV 182 #[l,.func (.func f) pre post] h fun v h'=>v=vP (a.any P)/\Sp h h' []:=by
 refine eF l (f,pre,post) ?_;unfold df;refine(BJ f pre post P l a h j c d k).mono ?_;rintro _ m ⟨⟨i,rfl,g⟩,e⟩;exact⟨i,rfl,by rw[JD g],e⟩
theorem ub(o b t:Int)(h:Heap):ab vV 95 #[vL vR o,vL vR b,vL vR t] h fun v h'=>v=vL vT (cY o b t)/\h'=h:=by
 refine Hl o b t ?_;unfold Bw;refine⟨?_,rfl⟩;have:qc vT ((qc vT ((qc vT ((128:Int)*(qc vT o)))+(qc vT ((16:Int)*(qc vT b)))))+(qc vT t))=cY o b t:=by
  unfold cY qc;simp[qf,wS];omega
 rw[this]
theorem La(x:bZ)(m:aC)(y:bg)(r:cJ)(h:Heap)(q:fk h x m)(Y:dB m)(T:js cX h y r):
  ab vV 163 #[fP x,recv y] h fun v h'=>v=vP (di m r)/\Sp h h' []:=by
 refine DT x y ?_;unfold uI;refine(Sp.refl h).boxed fun Q h1 H1=>H1.boxed fun c M e=>?_;have e:Sp h M [ai Q 88 (aY x),ai c 49 (ba y)]:=e;obtain⟨⟨e1,e2,e3,H,V,e7,e8⟩,e6⟩:=id T;have w:x.2.2.1=m.p.1:=congrArg (·.1) q.p;have z:x.2.2.2.1=m.p.2.1:=congrArg (·.2.1) q.p;have A:x.2.2.2.2.1=m.p.2.2:=congrArg (·.2.2) q.p;have B:y.2.2.2.1=r.p.1:=congrArg (·.1) H;have G:y.2.2.2.2.1=r.p.2.1:=congrArg (·.2.1) H;have s:y.2.2.2.2.2.1=r.p.2.2:=congrArg (·.2.2) H;have X:=Y.ob;refine aP ⟨y,(e.box 1 rfl).aI _ rfl,(BH y r M (cX.mono (cX.loc T e.ag) fun _ hb=>qG hb e.ag.1)).mono ?_⟩;rintro _ h3 ⟨rfl,Z⟩;have i:Sp h h3 [ai Q 88 (aY x),ai c 49 (ba y)]:=e.up Z.ag;have O:=i.box 0 rfl;have D:=i.box 1 rfl;refine⟨_,rfl,bf (fun g=>⟨by unfold di;rw[g];rfl,.zip i.ag⟩) fun g=>?_⟩;obtain⟨_,g2,_⟩:=(fX r).1 g;refine⟨r.p,by rw[<-B,<-G,<-s];exact D.ra 3 rfl rfl rfl,m.p,by rw[<-w,<-z,<-A];exact O.ra 2 rfl rfl rfl,_,VE _ _ r.p m.p,bf (fun t=>⟨?_,.zip i.ag⟩) fun t=>?_⟩
 ·unfold di;rw[g,t];rfl
 obtain⟨P,K⟩:∃P:Wl.ca->Bool,P=fun x=>decide (x.object=r.object)&&(decide (r.block<(x.tries.length:Int))&&decide (r.seed=cY r.object r.block (x.tries.getD r.block.toNat 0))):=⟨_,rfl⟩
 have I:di m r=m.aF.any P:=by unfold di;rw[g,t,K];rfl
 refine⟨x.2.2.2.2.2.2.2,O.cell rfl,?_⟩;refine(FH 229 #[] #[vN (some c)] P x.2.2.2.2.2.2.2 m.aF h3 (by rfl) (q.up i.ag).aF (by omega) fun u E R H4 U _=>?_).mono ?_
 ·obtain⟨⟨y1,W,y3⟩,L⟩:=U;have ad:=Seq.len L;have k:=D.ag H4.ag D.lt;refine Bf u c ?_;unfold qr;refine(Sp.refl R).boxed fun a5 a b=>?_;have b:Sp R a [ai a5 123 (bI u)]:=b;have N:=b.box 0 rfl;have d:=k.ag b.ag k.lt;have o:cellOf a (a5.add 1)=some (vL vR E.object):=by rw[<-W];exact N.cell rfl
  have n:cellOf a (a5.add 3)=some (vM u.2.2.2.ptr u.2.2.2.len u.2.2.2.cap):=N.cell rfl;have l:cellOf a c=some (vL vR r.object):=by rw[<-e1];exact d.cell0 rfl
  have j:cellOf a (c.add 1)=some (vL vR r.block):=by rw[<-e2];exact d.cell rfl
  have J:cellOf a (c.add 6)=some (vL vT r.seed):=by rw[<-V];exact d.cell rfl
  rw[K];refine⟨E.object,o,r.object,l,bt (fun F=>?_) fun F=>⟨⟨l,o,trivial⟩,?_,.zip b.ag⟩⟩
  ·refine⟨u.2.2.2,n,r.block,j,aj (fun q2=>?_) fun q2=>⟨⟨j,n,l,o,trivial⟩,?_,.zip b.ag⟩⟩
   ·have S:r.block.toNat<E.tries.length:=by omega
    refine⟨r.seed,J,r.object,l,r.block,j,u.2.2.2,n,r.block,j,?_⟩;refine Seq.cA (f:=aG) (Seq.up L b.ag) r.block.toNat (by omega) S (E.tries.getD r.block.toNat 0) (by rw[getD_lt S];rfl) ?_;refine(ub _ _ _ a).mono ?_;rintro _ _ ⟨rfl,rfl⟩;refine⟨_,rfl,⟨j,n,J,j,n,l,o,trivial⟩,?_,.zip b.ag⟩;dsimp only;rw[decide_eq_true F,decide_eq_true (show r.block<(E.tries.length:Int)by omega),zK,zK];congr 1
   ·dsimp only;rw[decide_eq_false (show¬r.block<(E.tries.length:Int)by omega)];simp
  ·dsimp only;rw[decide_eq_false F];rfl
 ·rintro _ a ⟨rfl,R5⟩;exact⟨_,rfl,by rw[I],.zip (aa.up i R5.ag).ag⟩
section
variable {α:Type}
def kH(k:Nat)(f:α->aM):ja Sl (List α):=⟨fun h q s l=>Seq h q s k f l/\s.len<=s.cap,fun a c=>⟨a.1.ag c,a.2⟩,fun a b=>⟨a.1.mono b,a.2⟩⟩
theorem aa.TD{B:ap}{g h:Heap}{As:List HP}{e a k:Nat}{s:Sl}{f:α->aM}{b:List (List α)}(H:aa B g h (io e s a k f b::As))(t:∀x,(f x).length=k):∃rs,aa B g h (dX (kH k f) 1 cx s rs b::As):=by
 obtain⟨rs,H⟩:=H.ta;obtain⟨H,d⟩:=H.Ce;refine⟨rs,H.jo 0 rfl fun q j=>⟨?_,d,fun i r l n c=>?_⟩⟩
 ·have:=HP.sH (i:=0) j rfl;exact this.1.seq (fun _=>rfl) this.2
 ·have m:i<b.length:=(qk.1 c).1;have o:=fb (e:=a) (k:=k) (f:=f) d i m;have:=HP.sH (i:=i+1) j (by simpa using o);have p:rs[i]'(by omega)=r:=by rw[qd (by omega)]at n;simpa using n
  have a:b[i]=l:=by rw[qd m]at c;simpa using c
  rw[p,a]at this;exact⟨this.1.seq t this.2,this.1.cap⟩
end
def mW(T:List (bg×cJ)):HP:=⟨fun h q=>∀t∈T,cX.p h q t.1 t.2,fun a d t b=>cX.loc (a t b) d,fun a c t b=>cX.mono (a t b) c⟩
end Go.Qw
namespace Wl
open Go Go.Vc Go.Qw
def Keyed(T:List (bg×cJ)):Prop:=∀t∈T,t.1.1=t.2.object/\t.1.2.1=t.2.block/\t.1.2.2.1=t.2.id
def GJ(a b:bg×cJ):Bool:=kw a.2 b.2
theorem RL{T:List (bg×cJ)}(k:Keyed T):∀a∈T,∀b∈T,GJ a b=bH a.1 b.1:=fun a c b g=>by
 obtain⟨i,h,a3⟩:=k a c;obtain⟨f,e,d⟩:=k b g;unfold GJ kw bH;rw[decide_eq_decide,sG,i,h,a3,f,e,d]
theorem Nm{T:List (bg×cJ)}(k:Keyed T):(T.mergeSort GJ).map qP=(T.map qP).mergeSort bH/\(T.mergeSort GJ).map zF=(T.map zF).mergeSort kw/\Keyed (T.mergeSort GJ):=
 ⟨yZ (RL k),yZ fun a _ b _=>rfl,fun t c=>k t (yw.1 c)⟩
def Er:bg×cJ:=(gI,pS)
def uc(T:List (bg×cJ)):List (bg×cJ):=((qz T.length).filter (tj (T.map zF))).map fun i=>T.getD i Er
theorem getD_map{α β:Type}(f:α->β)(l:List α)(i:Nat)(d:α):(l.map f).getD i (f d)=f (l.getD i d):=by
 rw[qg,qg,qN];cases l[i]?<;>rfl
theorem PB{T:List (bg×cJ)}(k:Keyed T):(uc T).map qP=Pz (T.map qP)/\(uc T).map zF=rx (T.map zF)/\∀t∈uc T,t∈T:=by
 have o:∀i,i<T.length->gX (T.map qP) i=tj (T.map zF) i:=fun i a=>by
  unfold gX tj;have g:∀j,j<T.length->(T.map qP).getD j gI=(T[j]?.getD Er).1/\(T.map zF).getD j pS=(T[j]?.getD Er).2:=fun j e=>by
   rw[qg,qg,qN,qN,qd e];exact⟨rfl,rfl⟩
  by_cases h0:i=0
  ·rw[decide_eq_true h0];rfl
  ·rw[decide_eq_false h0,vm,vm,(g i a).1,(g i a).2,(g (i-1) (by omega)).1,(g (i-1) (by omega)).2];rw[qd a,qd (show i-1<T.length by omega)];obtain⟨p,f,a3⟩:=k _ (qn a);obtain⟨n,l,q⟩:=k _ (qn (show i-1<T.length by omega));unfold jt;simp only[Option.getD_some];have c:=Pv T[i].1 (T[i-1]'(by omega)).1;rw[p,f,a3,n,l,q]at c;by_cases b:iT T[i].1 (T[i-1]'(by omega)).1=0
   ·rw[decide_eq_false (fun h=>h b),decide_eq_true (c.1 b)];rfl
   ·rw[decide_eq_true b,decide_eq_false (fun m=>b (c.2 m))];rfl
 have r:(qz T.length).filter (gX (T.map qP))=(qz T.length).filter (tj (T.map zF)):=List.filter_congr fun i a=>o i (qF.1 a);refine⟨?_,?_,fun t d=>?_⟩
 ·unfold uc Pz gY;rw[qC,r,wJ];congr 1;funext i;exact(getD_map qP T i Er).symm
 ·unfold uc rx;rw[qC,wJ];congr 1;funext i;exact(getD_map zF T i Er).symm
 ·unfold uc at d;obtain⟨i,a,rfl⟩:=qH.1 d;have:=qF.1 (q6.1 a).1;rw[getD_lt this];exact qn this
end Wl
namespace Go.Qw
open Go Go.Vc Go.Proofs Wl
theorem Hw(a pw:Addr)(d:bj)(s b:Sl)(x:bZ)(m:aC)(h:Heap)(H:bV h a 74 (eC pw d s b))(hl:fC h s 1 av d.l)(ok:dA d)(hx:fk h x m)(hz:dB m):
  ab vV 101 #[vN (some a),fP x] h fun v h'=>∃(r:Sl) (T:List (bg×cJ)),v=r/\T.map zF=gU m d.l/\Keyed T/\Sp h h' [bT r (T.map qP),mW T]:=by
 refine Cv (some a) x ?_;unfold si;have ad:=ok.len;have Q:=ok.room;refine(Sp.refl h).boxed fun u h1 K=>?_;have K:Sp h h1 [ai u 88 (aY x)]:=K;refine(RD s b (H.ag K.ag H.lt) (hl.up K.ag) ok).mono ?_;rintro _ h2 ⟨E,rfl,R2⟩;have M:=K.cQ R2;obtain⟨rs,M⟩:=aa.TD M fun _=>rfl;refine⟨E,rfl,?_⟩;have F2:=M.jR 0 rfl;have al:=F2.1.len;have a0:=F2.2.1;have w:Sp h h2 [bT ⟨none,0,0⟩ [],mW [],dX (kH 1 av) 1 cx E rs d.l,ai u 88 (aY x)]:=
  ((M.comp (.one (A:=mW []) (aH.refl _ _) (fun t f=>(by cases f)))).nil 49 8 ba).cL [3,2,0,1]
 refine aA (fun t:Sl×Nat×List (bg×cJ)=>(t.1,(t.2.1:Int)-1)) (fun t h'=>t.2.1<=d.l.length/\t.2.2.length<=t.2.1/\Keyed t.2.2/\t.2.2.map zF=(d.l.take t.2.1).filterMap (cM m)/\Sp h h' [bT t.1 (t.2.2.map qP),mW t.2.2,dX (kH 1 av) 1 cx E rs d.l,ai u 88 (aY x)]) (fun t=>d.l.length-t.2.1) (⟨none,0,0⟩,0,[]) rfl ⟨by simp,by simp,(fun t f=>(by cases f)),by simp,w⟩ ?_;rintro⟨o,i,T⟩ h3 ⟨hi,am,L,k,w⟩;dsimp only at*;have ei:qc vR ((i:Int)-1+1)=(i:Int):=by rw[ak _];omega
 rw[ei];refine aj (fun e=>?_) (fun e=>?_)
 ·have W:i=d.l.length:=by omega
  subst W;rw[za]at k;refine(Eo (T.map qP) (by rw[qC];omega) w).mono ?_;rintro _ h4 ⟨rfl,H4⟩;obtain⟨s1,s2,Z⟩:=Nm L;rw[<-s1]at H4;refine⟨(),rfl,(CK _ (by rw[qC,List.length_mergeSort];omega) H4).mono ?_⟩;rintro _ h5 ⟨r5,rfl,H5⟩;obtain⟨c1,c2,c3⟩:=PB Z;rw[<-c1]at H5;refine⟨r5,rfl,r5,uc (T.mergeSort GJ),rfl,?_,fun t f=>Z t (c3 t f),?_⟩
  ·have hr:gU m d.l=(uc (T.mergeSort GJ)).map zF:=by unfold gU;rw[<-k,c2,s2]
   exact hr.symm
  ·exact(H5.jo 1 rfl (D:=mW (uc (T.mergeSort GJ))) fun q z t f=>z t (yw.1 (c3 t f))).cL [0,1]
 ·have B:i<d.l.length:=by omega
  have g:=ML m d.l i B;have next:∀{h':Heap} {F:Sl} {T':List (bg×cJ)},T'.length<=i+1->Keyed T'->T'.map zF=(d.l.take (i+1)).filterMap (cM m)->Sp h h' [bT F (T'.map qP),mW T',dX (kH 1 av) 1 cx E rs d.l,ai u 88 (aY x)]->
    ∃j:Sl×Nat×List (bg×cJ),((⟨F.ptr,F.len,F.cap⟩:Sl),(i:Int))=(j.1,(j.2.1:Int)-1)/\(j.2.1<=d.l.length/\j.2.2.length<=j.2.1/\Keyed j.2.2/\j.2.2.map zF=(d.l.take j.2.1).filterMap (cM m)/\Sp h h' [bT j.1 (j.2.2.map qP),mW j.2.2,dX (kH 1 av) 1 cx E rs d.l,ai u 88 (aY x)])/\d.l.length-j.2.1<d.l.length-i:=fun{h' F T'} q1 q2 q3 q4=>
   ⟨(F,i+1,T'),by dsimp only;congr 1;omega,⟨by dsimp only;omega,q1,q2,q3,q4⟩,by dsimp only;omega⟩
  refine aP ?_;refine(w.jR 2 rfl).1.QZ i rfl (by omega) ?_;obtain⟨p,S⟩:=Fix.row (w.jR 2 rfl) B;obtain⟨c,hc⟩:∃c,c=d.l[i]:=⟨_,rfl⟩
  rw[<-hc]at p g;have ay:c.length=64:=by rw[hc];exact ok.cell _ (qn B)
  refine(Jy (rs[i]'(by omega)) c h3 p (by omega) S).mono ?_;rintro _ h6 ⟨y,rfl,Q0,Q1⟩;refine⟨(y,(bR c).isSome),rfl,?_⟩;dsimp only;cases htr:bR c with
  |none=>
   have I:cM m c=none:=by unfold cM;rw[htr]
   rw[I,Option.toList_none,qU]at g;have V:=w.up (Q0 htr).ag;refine V.alloc af rfl fun a9 h7 O=>?_;refine O.storeAll af 4 rfl rfl (ba y) rfl rfl rfl rfl fun h8 n=>bn (fun e=>by cases e) fun _=>?_;exact next (by omega) L (by rw[k,g]) (n.cL [0,1,2,3])
  |some r=>
   have V:=w.cQ (Q1 r htr);refine V.alloc af rfl fun a9 h7 O=>?_;refine O.storeAll af 5 rfl rfl (ba y) rfl rfl rfl rfl fun h8 n=>bn (fun _=>?_) fun e=>by cases e
   have n:Sp h h8 [EA cX y r,bT o (T.map qP),mW T,dX (kH 1 av) 1 cx E rs d.l,ai u 88 (aY x),ai a9 49 (ba y)]:=n;have U:=n.Wx 0 rfl;have X:ah h8 u 0 (aY x):=(n.box 4 rfl).aI _ rfl;have N:ah h8 a9 0 (ba y):=(n.box 5 rfl).aI _ rfl;have P:=La x m y r h8 (hx.up n.ag) hz U;refine⟨x,X,y,N,P.mono ?_⟩;rintro _ h9 ⟨rfl,R9⟩;have Y:Sp h h9 [EA cX y r,bT o (T.map qP),mW T,dX (kH 1 av) 1 cx E rs d.l,ai u 88 (aY x),ai a9 49 (ba y)]:=n.up R9.ag;refine⟨_,rfl,bn (fun e2=>?_) (fun e2=>?_)⟩
   ·have I:cM m c=some r:=by unfold cM;rw[htr];exact if_pos e2
    rw[I,Option.toList_some]at g;refine⟨y,(Y.box 5 rfl).aI _ rfl,?_⟩;refine Y.push af 1 rfl VB rfl (by decide) (fun _=>rfl) Uq y (by kernel_rfl) (by decide) (by rw[qC];omega) fun F ax J=>?_;have G:=(J.Wx 0 rfl).1;have R:=J.merge 2 0 (by decide) rfl rfl (D:=mW (T++[(y,r)])) (fun q1 q2 _ p1 p2 t f=>by
     rcases qE.1 f with f|f
     ·exact cX.mono (p1 t f) fun _ H=>.inl H
     ·rw[qB.1 f];exact cX.mono p2 fun _ H=>.inr H)
    refine next (T':=T++[(y,r)]) (by simp;omega) (fun t f=>?_) (by rw[zi,k,g];rfl) ?_
    ·rcases qE.1 f with f|f
     ·exact L t f
     ·rw[qB.1 f];exact⟨G.1,G.2.1,G.2.2.1⟩
    ·rw[zi];exact R.cL [1,2,3,4]
   ·have I:cM m c=none:=by unfold cM;rw[htr];exact if_neg (by rw[e2];simp)
    rw[I,Option.toList_none,qU]at g;exact next (by omega) L (by rw[k,g]) (Y.cL [1,2,3,4])
theorem yq(a pw:Addr)(d:bj)(s b:Sl)(x:bZ)(m:aC)(h:Heap)(p:bV h a 74 (eC pw d s b))(i:fC h s 1 av d.l)(ok:dA d)(z:fk h x m)(k:dB m):
  ab vV 101 #[vN (some a),fP x] h fun v h'=>∃(r:Sl) (o:List bg),v=r/\Sp h h' [dX cX 8 ba r o (gU m d.l)]:=by
 refine(Hw a pw d s b x m h p i ok z k).mono ?_;rintro _ h' ⟨r,T,rfl,u,_,H⟩;refine⟨r,T.map qP,rfl,?_⟩;have n:=(H.freeze 0 rfl fun _=>rfl).nY;have g:aa _ _ _ (dX cX 8 ba r (T.map qP) (gU m d.l)::_):=n.jo 0 rfl fun q ⟨E,B,_,b,c,y,w⟩=>by
  rw[<-u];refine⟨Seq.mono w c,by simp,fun j A D e f=>?_⟩;rw[qN]at e f;cases g3:T[j]? with
  |none=>rw[g3]at e;cases e
  |some t=>
   rw[g3]at e f;simp at e f;subst e;subst f;exact cX.mono (y t (yH g3)) b
 exact g.cL [0]
end Go.Qw
namespace Go.Vc
open Go Wl
def aX(l:aB)(k:Nat):aB:=((qz k).map fun i:Nat=>(i:Int)).filter fun i=>decide (0<l.getD i.toNat 0)
def dD(l:aB):aB×Bool:=
 if l.all (dE · 0 512)then(aX l l.length,decide (l.length<=64)&&decide (0<(aX l l.length).length))else([],false)
theorem uP(l:aB)(k:Nat)(a:k<l.length):aX l (k+1)=aX l k++if 0<l[k]then[(k:Int)]else[]:=by
 unfold aX;rw[zx,zi,zf];congr 1;simp only[List.map_cons,List.map_nil,zu,vr,qo,qg,qd a,Option.getD_some];by_cases h:0<l[k]<;>simp[h]
theorem lP(l:aB)(k:Nat):(aX l k).length<=k:=by
 unfold aX;exact zh (zt _ _) (by simp)
end Go.Vc
namespace Go.Qw
open Go Go.Vc Go.Proofs Wl
section
theorem ko(s:Sl)(l:aB)(h:Heap)(m:Rd h s 1 aG l)(B:l.length<=2^20):
  ab vV 35 #[s] h fun v h'=>∃r:Sl,v=.tuple #[r,vP (dD l).2]/\Sp h h' [ao 3 r 1 aG (dD l).1]:=by
 refine Cu s ?_;unfold sa;have y:=m.len;have q:Sp h h [ao 3 ⟨none,0,0⟩ 1 aG (aX l 0)]:=(Sp.refl h).nil 3 1 aG;refine aA (fun t:Sl×Nat=>(t.1,(t.2:Int))) (fun t h'=>t.2<=l.length/\(l.take t.2).all (dE · 0 512)=true/\Sp h h' [ao 3 t.1 1 aG (aX l t.2)]) (fun t=>l.length-t.2) (⟨none,0,0⟩,0) rfl ⟨by simp,by simp,q⟩ ?_;rintro⟨o,i⟩ F ⟨E,c,d⟩;dsimp only at*;have f:∀(a:i<l.length),dE l[i] 0 512=false->dD l=([],false):=fun a g=>by
  unfold dD;rw[if_neg];intro A;have:=qT.1 A _ (qn a);rw[g]at this;cases this
 refine aj (fun e=>?_) (fun e=>?_)
 ·have a:i<l.length:=by omega
  have z:=lP l i;refine(Seq.up m d.ag).cA i rfl a l[i] rfl ?_;refine aP (aj (fun k=>?_) (fun k=>aj (fun e2=>?_) (fun e2=>?_)))
  ·have g:=f a (by unfold dE;simp;omega);rw[g];exact⟨⟨none,0,0⟩,rfl,(d.cL []).nil 3 1 aG⟩
  ·have g:=f a (by unfold dE;simp;omega);rw[g];exact⟨⟨none,0,0⟩,rfl,(d.cL []).nil 3 1 aG⟩
  ·have b:(l.take (i+1)).all (dE · 0 512)=true:=by
    rw[aO l i a,List.all_append,c,zK,List.all_cons,List.all_nil,Bool.and_true];unfold dE;simp;omega
   refine aj (fun u=>?_) (fun u=>?_)
   ·refine d.push af 0 rfl mE rfl (by decide) (fun _=>rfl) jQ (i:Int) rfl (by decide) (by omega) fun n D x=>?_;refine⟨(n,i+1),by dsimp only;rw[ak _];rfl,⟨by dsimp only;omega,b,?_⟩,by dsimp only;omega⟩;dsimp only;rw[uP l i a,if_pos (by omega)];exact x
   ·refine⟨(o,i+1),by dsimp only;rw[ak _];rfl,⟨by dsimp only;omega,b,?_⟩,by dsimp only;omega⟩;dsimp only;rw[uP l i a,if_neg (by omega),qU];exact d
 ·have j:i=l.length:=by omega
  subst j;rw[za]at c;have p:=(d.own 0 rfl).len;have w:dD l=(aX l l.length,decide (l.length<=64)&&decide (0<(aX l l.length).length)):=by unfold dD;rw[if_pos c]
  rw[w];refine aj (fun k=>⟨o,?_,d⟩) (fun k=>⟨o,?_,d⟩)
  ·dsimp only;rw[decide_eq_true (show l.length<=64 by omega),zK];congr 4;refine congrArg Value.bool ?_;rw[decide_eq_decide];omega
  ·dsimp only;rw[decide_eq_false (show¬l.length<=64 by omega),Bool.false_and]
end
section
variable {B:ap} {h0 h:Heap} {As:List HP} {a pw:Addr} {offs:Int} {da:List aK} {w:Pow} {ds:aR}
theorem fI(x:bZ)(m:aC)(g:fk h x m)(c:dB m)(H:aa B h0 h (bi bz a pw (aY x) offs da w ds::As)):
  ab vV 58 #[vN (some a)] h fun v h'=>∃r:Sl,v=r/\Sp h h' [ao 3 r 1 aG (bB ds m.drives)]:=by
 refine tH (some a) ?_;unfold nr;obtain⟨ok,b⟩:=aa.cK H;have f:=c.dr;refine bn (fun e=>by cases e) (fun _=>⟨a,rfl,x.2.2.2.2.2.2.1,b.cell rfl,(Ni _ m.drives g.drives (by omega) H).mono ?_⟩);rintro _ i ⟨r,rfl,d⟩;exact⟨r,rfl,r,rfl,d⟩
end
end Go.Qw
namespace Go.Vc
open Go Wl
def fm(w:Pow)(offs:Int):Bool:=w.off||w.offs !=offs
end Go.Vc
namespace Go.Qw
open Go Go.Vc Go.Proofs Wl
section
variable {B:ap} {h0 h:Heap} {As:List HP} {a pw:Addr} {mc:aM} {offs:Int} {da:List aK} {w:Pow} {ds:aR}
theorem aa.Us(H:aa B h0 h (bi bz a pw mc offs da w ds::As)):∃l,Ei w l/\bV h pw 83 (powC w l):=by
 obtain⟨ok,b⟩:=Go.Vc.aa.pi H;have d:=b.rest;obtain⟨l,e,c⟩:=aa.sD d;exact⟨l,e,c.box 0 rfl⟩
theorem jY(H:aa B h0 h (bi bz a pw mc offs da w ds::As)):
  ab vV 46 #[vN (some a)] h fun v h'=>v=vP (fm w offs)/\h'=h:=by
 refine tE (some a) ?_;unfold nl;obtain⟨ok,g⟩:=aa.cK H;obtain⟨l,i,f⟩:=aa.Us H;have c:cellOf h (a.add 8)=some (vN (some pw)):=g.cell (RI ok.l8);have d:cellOf h (a.add 9)=some (vL vR offs):=g.cell (Nh ok.l8);refine bn (fun _=>?_) (fun e=>by cases e);refine⟨a,rfl,some pw,c,(AX l f).mono ?_⟩;rintro _ _ ⟨rfl,rfl⟩;refine⟨_,rfl,trivial,bf (fun e=>⟨trivial,?_⟩) fun e=>?_⟩
 ·have b:w.off=true:=by simpa using e
  exact⟨by unfold fm;rw[b];rfl,rfl⟩
 ·have b:w.off=false:=by simpa using e
  refine⟨a,rfl,some pw,c,a,rfl,offs,d,(GD l f).mono ?_⟩;rintro _ _ ⟨rfl,rfl⟩;exact⟨_,rfl,⟨d,trivial⟩,by unfold fm;rw[b];rfl,rfl⟩
end
end Go.Qw
namespace Go.Vc
open Go Wl
section
variable {k:Kit} {B:ap} {h0 h:Heap} {As:List HP} {a pw:Addr} {mc:aM} {offs:Int} {w:Pow}
theorem aa.VF(H:aa B h0 h As):∀n,aa B h0 h (qi n emp++As)
 |0=>H
 |n+1=>(((aa.VF H n).comp (.one (A:=emp) (aH.refl _ _) trivial)).cn:aa B h0 h (emp::(qi n emp++As)))
theorem aa.PC(h8:mc.length=8)(H:aa B h0 h (ai a k.tS (cT mc pw offs (qi 64 none))::dq k.tP pw w::As)):aa B h0 h (bi k a pw mc offs (qi 64 none) w (qi 64 none)::As):=by
 have ok:fl mc (qi 64 none) (qi 64 (none:Option bj)):=⟨h8,by simp,by simp,fun i=>by
  simp only[qg,wW];split<;>rfl⟩
 have e:gj k pw (qi 64 none) (qi 64 (none:Option bj))=qi 64 emp:=by
  simp[gj,VC]
 refine aa.re ok ?_;rw[e];have g:=aa.VF H 64;refine g.pick (fun i=>if i=0 then 64 else if i=1 then 65 else if i<66 then i-2 else i) (fun x y b=>by(try dsimp only at b);split at b<;>split at b<;>(try split at b)<;>(try split at b)<;>(try split at b)<;>(try split at b)<;>omega) fun i A d=>?_;rcases i with _|_|i
 ·simpa using d
 ·simpa using d
 ·by_cases f:i<64
  ·have c:(qi 64 emp++As)[i]?=some A:=d;rw[ql (by simpa using f)]at c
   try dsimp only
   rw[if_neg (by omega),if_neg (by omega),if_pos (by omega),ql (by simp;omega)];simpa using c
  ·have c:(qi 64 emp++As)[i]?=some A:=d;rw[qh (by simp;omega)]at c
   try dsimp only
   rw[if_neg (by omega),if_neg (by omega),if_neg (by omega),qh (by simp;omega)];simp only[List.length_replicate]at c⊢;obtain⟨j,rfl⟩:∃j,i=j+64:=⟨i-64,by omega⟩
   have e2:j+64+1+1-64=j+1+1:=by omega
   rw[e2];simpa using c
end
end Go.Vc
namespace Go.Qw
open Go Go.Vc Go.Proofs Wl
section
theorem PD(x:bZ)(pw:Addr)(offs:Int):au vV (Instr.build 90 #[(0,fP x),(1,vN (some pw)),(2,vL vR offs)]) (vQ (cT (aY x) pw offs (qi 64 none)).toArray):=
 oH af (i:=_) rfl rfl rfl (vs:=[(0,fP x),(1,vN (some pw)),(2,vL vR offs)]) (cells:=(cT (aY x) pw offs (qi 64 none)).toArray) (by kernel_rfl)
end
end Go.Qw
namespace Go.Vc
open Go Wl
section
variable {k:Kit} {B:ap} {h0 h:Heap} {As:List HP} {a pw b:Addr} {mc:aM} {offs:Int} {da:List aK} {w:Pow} {ds:aR} {d:bj} {n:Nat}
theorem PE(h8:mc.length=8):(cT mc pw offs da).set (10+n) (vN (some b))=cT mc pw offs (da.set n (some b)):=by
 unfold cT;rw[qY _ _ (by omega),h8,show 10+n-8=n+1+1 by omega,wm,wm,List.map_set]
theorem aa.Ut(ok:fl mc da ds)(F:n<64)(u:ds[n]?=some none)(H:aa B h0 h (ai a k.tS (cT mc pw offs (da.set n (some b)))::dq k.tP pw w::(gj k pw da ds++(iR k.tD (k.f pw) b d::As)))):aa B h0 h (bi k a pw mc offs (da.set n (some b)) w (ds.set n (some d))::As):=by
 have t:=ok.Px F u;have m:=ok.la;have r:=ok.ls;have p:fl mc (da.set n (some b)) (ds.set n (some d)):=⟨ok.l8,by simp[m],by simp[r],fun i=>by
  by_cases c:n=i
  ·subst c;rw[qg,qg,zH (by omega),zH (by omega)];rfl
  ·have:=ok.same i;rw[qg,qg]at this⊢;rw[zG c,zG c];exact this⟩
 have s:=Jz (k:=k) (pw:=pw) ok;have x:(gj k pw da ds)[n]?=some emp:=by
  simp only[gj,wC,t,u];rfl
 have g:gj k pw (da.set n (some b)) (ds.set n (some d))=(gj k pw da ds).set n (iR k.tD (k.f pw) b d):=by
  apply zq;intro j;simp only[gj,qW,wC,List.length_zipWith];by_cases l:n=j
  ·subst l;rw[if_pos rfl,if_pos (by omega),if_pos rfl,if_pos (by omega),if_pos rfl,if_pos (by omega)];rfl
  ·simp[l]
 refine aa.re p ?_;rw[g];obtain⟨L,o⟩:∃L,L=gj k pw da ds:=⟨_,rfl⟩
 rw[<-o]at H x s⊢;have v:=H.cons (L.length+2) (A:=iR k.tD (k.f pw) b d) (by
  rw[qw,qw,qh (qt _),q5];rfl)
 have e:(ai a k.tS (cT mc pw offs (da.set n (some b)))::dq k.tP pw w::(L++(iR k.tD (k.f pw) b d::As))).set (L.length+2) emp=ai a k.tS (cT mc pw offs (da.set n (some b)))::dq k.tP pw w::(L++(emp::As)):=by
  rw[wm,wm,qY _ _ (qt _),q5];rfl
 rw[e]at v;have y:=v.bh 3 [0,2,1];have q:L.set n emp=L:=by
  obtain⟨G,D⟩:=qk.1 x
  conv=>lhs;rw[<-D]
  exact List.set_getElem_self G
 have z:aa B h0 h (iR k.tD (k.f pw) b d::dq k.tP pw w::ai a k.tS (cT mc pw offs (da.set n (some b)))::(L.set n emp++(emp::As))):=by rw[q];exact y
 have E:=aa.Mb n (by omega) z;have I:=aa.closeAll (ai a k.tS (cT mc pw offs (da.set n (some b)))::dq k.tP pw w::L.set n (iR k.tD (k.f pw) b d)) E;exact aa.rV (L:=ai a k.tS (cT mc pw offs (da.set n (some b)))::dq k.tP pw w::L.set n (iR k.tD (k.f pw) b d)) I.AH
end
open Go Wl Go.Qw
def bY(p:Pm)(extra:Int)(l:aB):aC:=⟨1,0,p,extra,aX l l.length,[]⟩
def ft(l:aB)(k:Nat):aR:=(qz 64).map fun i:Nat=>if(i:Int)∈(aX l l.length).take k then some (bj.new (l.getD i 0).toNat)else none
def cm(p:Pm)(extra:Int)(w:Pow)(l:aB):Int×Pow×aR:=
 if(dD l).2&&(bC p&&dE extra 0 16)then
  if(aX l l.length).any fun i=>decide (l.getD i.toNat 0<((bc (bY p extra l)).length:Int))then(7,w,[])
  else layAll (bA (bY p extra l) (aX l l.length)) w (ft l (aX l l.length).length)
 else(1,w,[])
theorem JE(l:aB):ft l 0=qi 64 none:=by
 unfold ft;rw[List.take_zero];apply zq;intro j;simp only[qN,wW,q8,List.not_mem_nil,if_false];by_cases h:j<64
 ·simp[h,q8]
 ·simp[h]
theorem Lb(l:aB)(k:Nat):(ft l k).length=64:=by simp[ft]
theorem JF(l:aB)(k n:Nat)(e:k<(aX l l.length).length)(d:(aX l l.length)[k]=(n:Int))(b:n<64):(ft l k).set n (some (bj.new (l.getD n 0).toNat))=ft l (k+1):=by
 apply zq;intro j;unfold ft;rw[aO _ _ e,d,qW,qC,zm];by_cases c:j<64
 ·simp only[qN,q8 c,qK,qE,qB];by_cases a:n=j
  ·subst a;rw[if_pos rfl,if_pos b,if_pos (Or.inr rfl)]
  ·rw[if_neg a];have:¬(j:Int)=(n:Int):=by omega
   simp only[this,or_false]
 ·rw[if_neg (by omega)];rw[qX (by simp;omega),qX (by simp;omega)]
theorem pj(l:aB)(k:Nat)(x:Int):x∈aX l k↔∃n:Nat,n<k/\x=(n:Int)/\0<l.getD n 0:=by
 unfold aX;rw[q6,qH];constructor
 ·rintro⟨⟨n,b,rfl⟩,a⟩;exact⟨n,qF.1 b,rfl,by simpa using a⟩
 ·rintro⟨n,b,rfl,a⟩;exact⟨⟨n,qF.2 b,rfl⟩,by simpa using a⟩
theorem Lc(l:aB)(k i:Nat)(a:i<(aX l k).length):∃n:Nat,n<k/\(aX l k)[i]=(n:Int)/\0<l.getD n 0:=(pj l k _).1 (qn a)
end Go.Vc
namespace Wl
open Go
def cZ(p:Int×Int×Int):Nat:=(p.1*p.2.2).toNat
def ot(a:Nat)(b:aQ)(i:Nat):aQ:=(b.drop (i*a)).take a++(qi a 0).drop (b.drop (i*a)).length
theorem yz(a:Nat)(b:aQ)(i:Nat):(ot a b i).length=a:=by unfold ot;simp;omega
def splitB(p:Int×Int×Int)(b:aQ):cu:=(qz (countP p b.length).toNat).map (ot (cZ p) b)
def Es(p:Int×Int×Int)(o b:Int)(n:Nat):Bool:=fz p (cY o b n) (dU p)
def lQ(p:Int×Int×Int)(o b:Int):Option Nat:=(qz 16).find? (Es p o b)
def cy(p:Int×Int×Int)(o:Int):Nat->Option (aB)
 |0=>some []
 |n+1=>(cy p o n).bind fun l=>(lQ p o n).map fun t=>l++[(t:Int)]
theorem gm{p:Int×Int×Int}{o:Int}:∀{n:Nat} {l:aB},cy p o n=some l->l.length=n
 |0,l,h=>by cases h;rfl
 |n+1,l,h=>by
  unfold cy at h;cases h1:cy p o n with
  |none=>rw[h1]at h;cases h
  |some k=>
   rw[h1]at h;cases h2:lQ p o n with
   |none=>rw[h2]at h;cases h
   |some t=>
    rw[h2]at h;have h:some (k++[(t:Int)])=some l:=h;injection h with h
    rw[<-h,qp,gm h1];rfl
theorem zn{p:Int×Int×Int}{o b:Int}{t:Nat}(h:lQ p o b=some t):t<16/\Es p o b t=true/\∀k,k<t->Es p o b k=false:=by
 unfold lQ at h;obtain⟨f,c,vs,d,h3⟩:=List.find?_eq_some_iff_append.1 h;have e:=congrArg vn d;have g:t=c.length:=by
  have:(qz 16)[c.length]?=some t:=by rw[d,qh (qt _),q5];rfl
  rw[q8 (by simp at e;omega)]at this;injection this with this;exact this.symm
 refine⟨by simp at e;omega,f,fun k i=>?_⟩;have a:k∈c:=by
  have:(qz 16)[k]?=c[k]?:=by rw[d,ql (by omega)]
  rw[q8 (by simp at e;omega)]at this;exact yH this.symm
 simpa using h3 k a
theorem rf{p:Int×Int×Int}{o:Int}:∀{n:Nat} {l:aB},cy p o n=some l->∀i (b:i<l.length),∃t:Nat,l[i]=(t:Int)/\lQ p o i=some t
 |0,l,h=>by cases h;intro i b;simp at b
 |n+1,l,h=>by
  unfold cy at h;cases h1:cy p o n with
  |none=>rw[h1]at h;cases h
  |some k=>
   rw[h1]at h;cases h2:lQ p o n with
   |none=>rw[h2]at h;cases h
   |some t=>
    rw[h2]at h;have h:some (k++[(t:Int)])=some l:=h;injection h with h
    subst h;intro i b;have c:=gm h1;by_cases a:i<k.length
    ·rw[List.getElem_append_left a];exact rf h1 i a
    ·have:i=k.length:=by simp at b;omega
     subst this;refine⟨t,by simp,?_⟩;rw[c];exact h2
end Wl
namespace Go.Qw
open Go Go.Vc Go.Proofs Wl
theorem GK(p:Pm)(h:Heap)(c:bC p=true):ab vV 138 #[jH p] h fun v h'=>v=vL vR (cZ p)/\Sp h h' []:=by
 have b:=(bS p).1 c;refine sj p ?_;unfold oZ;refine(Sp.refl h).boxed fun e h3 a=>⟨p.1,(a.box 0 rfl).cell0 rfl,p.2.2,(a.box 0 rfl).cell rfl,?_,a.cL []⟩
 have f:p.1*p.2.2<=16*24:=yt (by omega) (by omega) (by omega) (by omega);have d:0<=p.1*p.2.2:=ve (by omega) (by omega);rw[ak _];unfold cZ;congr 1;omega
theorem jK{p:Pm}(b:bC p=true):1<=cZ p/\cZ p<=384/\(cZ p:Int)=p.1*p.2.2:=by
 have a:=(bS p).1 b;have d:p.1*p.2.2<=16*24:=yt (by omega) (by omega) (by omega) (by omega);have c:0<p.1*p.2.2:=Int.mul_pos (by omega) (by omega);unfold cZ;omega
theorem jf{p:Pm}(a:bC p=true)(n:Nat):0<=countP p n/\countP p n<=n/\∀i:Nat,(i:Int)<countP p n->i*cZ p<n:=by
 obtain⟨f,g,b⟩:=jK a;unfold countP;rw[a,zK];by_cases h0:0<(n:Int)
 ·rw[decide_eq_true h0,if_pos rfl,<-b];have h:((n:Int)-1)/(cZ p:Int)<=n-1:=Int.ediv_le_self _ (by omega);have d:0<=((n:Int)-1)/(cZ p:Int):=vo (by omega) (by omega);refine⟨by omega,by omega,fun i c=>?_⟩;have h3:(i:Int)<=((n:Int)-1)/(cZ p:Int):=by omega
  have e:=(Int.le_ediv_iff_mul_le (by omega)).1 h3;have j:((i*cZ p:Nat):Int)=(i:Int)*(cZ p:Int):=zW i (cZ p);omega
 ·rw[decide_eq_false h0,if_neg (by decide)];exact⟨by omega,by omega,fun i c=>by omega⟩
theorem Ld(p:Pm)(s:Sl)(b:aQ)(h:Heap)(f:bC p=true)(q:Rd h s 1 av b)(M:s.len<=s.cap)(R:b.length<=2^30):ab vV 139 #[jH p,s] h fun v h'=>∃r:Sl,v=r/\Sp h h' [dJ r (splitB p b)]:=by
 refine DO p s ?_;unfold uE;have d:=q.len;obtain⟨S,U,Q⟩:=jK f;obtain⟨V,O,c3⟩:=jf f b.length;refine(Sp.refl h).boxed fun k K l=>?_;refine⟨p,(l.box 0 rfl).aI _ rfl,?_⟩;refine(tW p s.len K).mono ?_;rintro _ z ⟨rfl,w⟩;have y:=l.up w.ag;refine⟨_,rfl,?_⟩;obtain⟨n,J⟩:∃n:Nat,n=(countP p b.length).toNat:=⟨_,rfl⟩
 have c:(countP p (s.len:Nat))=(n:Int):=by rw[d];omega
 rw[c];have H:(splitB p b).length=n:=by unfold splitB;rw[<-J];simp
 have a:Sp h z [dJ ⟨none,0,0⟩ ((splitB p b).take 0),ai k 24 [vL vR p.1,vL vR p.2.1,vL vR p.2.2]]:=y.Cf 31 5 1 av;refine aA (fun t:Sl×Nat=>(t.1,(t.2:Int))) (fun t h'=>t.2<=n/\Sp h h' [dJ t.1 ((splitB p b).take t.2),ai k 24 [vL vR p.1,vL vR p.2.1,vL vR p.2.2]]) (fun t=>n-t.2) (⟨none,0,0⟩,0) rfl ⟨by simp,a⟩ ?_;rintro⟨o,i⟩ h3 ⟨X,a⟩;dsimp only at*;refine aj (fun e=>?_) (fun e=>?_)
 ·have G:i<n:=by omega
  have D:=c3 i (by rw[<-d,c];omega);refine⟨p,(a.box 1 rfl).aI _ rfl,(GK p h3 f).mono ?_⟩;rintro _ W ⟨rfl,N⟩;have E:=a.up N.ag;refine⟨_,rfl,E.Wh af av fv (by decide) (0:UInt8) rfl rfl (cZ p) (cZ p) rfl rfl (qt _) (by omega) fun v F T Y g=>?_⟩;have g:=g.cn;refine⟨p,(g.box 2 rfl).aI _ rfl,(GK p F f).mono ?_⟩;rintro _ P ⟨rfl,A⟩;have m:=g.up A.ag;refine⟨_,rfl,?_⟩;have em:qc vR ((i:Int)*(cZ p:Int))=((i*cZ p:Nat):Int):=by
   rw[<-zW,ak _]
  dsimp only;rw[em,qo];refine⟨⟨by omega,by omega⟩,?_⟩;have x:=(Seq.up q m.ag).drop (i*cZ p) M;refine m.Dj af 0 rfl fv (fun _=>rfl) (v:=⟨_,s.len-i*cZ p,s.cap-i*cZ p⟩) x dN fun _ L j=>?_;have j:Sp h L [ao 5 v 1 av (ot (cZ p) b i),dJ o ((splitB p b).take i),ai k 24 [vL vR p.1,vL vR p.2.1,vL vR p.2.2]]:=by
   simpa[ot]using j
  refine(j.bh 2 [1,0]).Dn af iQ (by simp;omega) fun u h8 I=>?_;refine⟨(u,i+1),by dsimp only;rw[ak _];rfl,⟨by dsimp only;omega,?_⟩,by dsimp only;omega⟩;dsimp only;rw[aO _ _ (show i<(splitB p b).length by omega)];have B:(splitB p b)[i]'(by omega)=ot (cZ p) b i:=by simp[splitB]
  rw[B];exact I
 ·rw[qj (by omega)]at a;exact⟨o,rfl,a.cL [0]⟩
theorem pk(a b:UInt8):qc vS ((qq (qf vS) (a.toNat:Int)^^^qq (qf vS) (b.toNat:Int)).toNat:Nat)=((a^^^b).toNat:Int):=by
 have e:∀a:UInt8,qq (qf vS) (a.toNat:Int)=a.toBitVec:=fun a=>by
  apply BitVec.eq_of_toNat_eq;have:=wF a;simp[qf]
 rw[e,e];have c:=(a.toBitVec^^^b.toBitVec).isLt;have:((a^^^b).toNat:Int)=((a.toBitVec^^^b.toBitVec).toNat:Int):=rfl;rw[this];show(((a.toBitVec^^^b.toBitVec).toNat:Nat):Int)%256=_;have:(a.toBitVec^^^b.toBitVec).toNat<256:=c;omega
def VG(a:UInt8):Nat->Int×Int×Int
 |0=>((a.toNat:Int),(3:Int),(0:Int))
 |1=>(((Gf.x2 a).toNat:Int),(1:Int),(a.toNat:Int))
 |_=>(((Gf.x2 (Gf.x2 a)).toNat:Int),(0:Int),((Gf.x3 a).toNat:Int))
theorem Le(a:UInt8)(h:Heap):ab vV 313 #[vL vS a.toNat,vL vS 3] h fun v h'=>v=vL vS (Gf.x3 a).toNat/\h'=h:=by
 have e:∀n:Nat,n<256->
   ((qc vS ((qq (qf vS) (n:Int)&&&(qq (qf vS) (128:Int))).toNat:Nat)) !=(0:Int))=true->qc vS ((qq (qf vS) (qc vS ((n:Int)*2^min (1:Int).toNat (qf vS)))^^^(qq (qf vS) (27:Int))).toNat:Nat)=((Gf.x2 (w6 n)).toNat:Int):=by decide+kernel
 have c:∀n:Nat,n<256->
   ((qc vS ((qq (qf vS) (n:Int)&&&(qq (qf vS) (128:Int))).toNat:Nat)) !=(0:Int))=false->qc vS ((n:Int)*2^min (1:Int).toNat (qf vS))=((Gf.x2 (w6 n)).toNat:Int):=by decide+kernel
 refine Jt _ _ ?_;unfold Eg;refine aA (VG a) (fun t h'=>h'=h/\t<=2) (fun t=>2-t) 0 rfl ⟨rfl,by omega⟩ ?_;rintro t h' ⟨rfl,f⟩;rcases(show t=0∨t=1∨t=2 by omega)with rfl|rfl|rfl
 ·rw[show VG a 0=((a.toNat:Int),(3:Int),(0:Int))from rfl];dsimp only;refine Ca (by decide) (aP (QW (by decide) ?_));refine⟨by decide,aP ?_⟩;refine bn (fun d=>?_) (fun d=>?_)
  ·rw[e _ (wF a) d,yk];refine⟨by decide,1,?_,⟨rfl,by decide⟩,by decide⟩;have:=pk 0 a;simp only[wG]at this;exact yR rfl (yR rfl this)
  ·rw[c _ (wF a) d,yk];refine⟨by decide,1,?_,⟨rfl,by decide⟩,by decide⟩;have:=pk 0 a;simp only[wG]at this;exact yR rfl (yR rfl this)
 ·rw[show VG a 1=(((Gf.x2 a).toNat:Int),(1:Int),(a.toNat:Int))from rfl];dsimp only;refine Ca (by decide) (aP (QW (by decide) ?_));refine⟨by decide,aP ?_⟩;refine bn (fun d=>?_) (fun d=>?_)
  ·rw[e _ (wF (Gf.x2 a)) d,yk];refine⟨by decide,2,?_,⟨rfl,by decide⟩,by decide⟩;refine yR rfl (yR rfl ?_);have:=pk a (Gf.x2 a);rw[vz]at this;exact this
  ·rw[c _ (wF (Gf.x2 a)) d,yk];refine⟨by decide,2,?_,⟨rfl,by decide⟩,by decide⟩;refine yR rfl (yR rfl ?_);have:=pk a (Gf.x2 a);rw[vz]at this;exact this
 ·exact QW (b:=(0:Int)==0) (by decide) ⟨rfl,rfl⟩
def gn:aB:=(qz 255).map fun i=>((Gf.pw i).toNat:Int)
def mJ:aB:=(qz 256).map fun x=>if x=0 then 0 else((Gf.lg (w6 x):Nat):Int)
theorem fo:gn.length=255:=by simp[gn]
theorem pm:mJ.length=256:=by simp[mJ]
def fp:aM:=gn.map (Sc.enc (.int .u8))++mJ.map (Sc.enc (.int .i64))
abbrev gc(h:Heap)(a:Addr):Prop:=bV h a 317 fp
theorem FI(k:IntKind)(l:aB):(l.map (Sc.enc (.int k))).all (·.oneCell')=true:=by
 rw[List.all_map,qT];intro x _;rfl
theorem Lf(h:Heap):ab vV 253 #[] h fun v h'=>v=vQ (gn.map (Sc.enc (.int .u8))).toArray/\Sp h h' []:=by
 refine Hu ?_;unfold BF;refine(Sp.refl h).alloc af rfl fun a t o=>?_;refine aA (fun i:Nat=>(((Gf.pw i).toNat:Int),(i:Int))) (fun i h'=>i<=255/\Sp h h' [ai a 312 (((qz 255).map fun j=>if j<i then((Gf.pw j).toNat:Int)else 0).map (Sc.enc (.int .u8)))]) (fun i=>255-i) 0 rfl ⟨by omega,?_⟩ ?_
 ·have e:((qz 255).map fun j=>if j<0 then((Gf.pw j).toNat:Int)else 0).map (Sc.enc (.int .u8))=qi 255 (vL vS 0):=by simp;rfl
  rw[e];exact o
 ·rintro i q ⟨s,f⟩;refine aj (fun k=>?_) (fun l=>?_)
  ·dsimp only at k;refine⟨⟨by dsimp only;omega,by dsimp only;omega⟩,?_⟩;dsimp only;rw[show((i:Int).toNat*1)=i by omega];refine f.storeAt af 0 rfl rfl rfl rfl rfl (by simp;omega) fun h3 g=>?_;refine(Le (Gf.pw i) h3).mono ?_;rintro v r ⟨rfl,rfl⟩;refine⟨_,rfl,i+1,?_,⟨by omega,?_⟩,by omega⟩
   ·rw[ak _];rfl
   ·have e:((((qz 255).map fun j=>if j<i then((Gf.pw j).toNat:Int)else 0).map (Sc.enc (.int .u8))).set i (vL vS (Gf.pw i).toNat))=(((qz 255).map fun j=>if j<i+1 then((Gf.pw j).toNat:Int)else 0).map (Sc.enc (.int .u8))):=by
     apply zq;intro j;simp only[qW,qN,qC,zm];by_cases b:i=j
     ·subst b;have:i<255:=by omega
      simp[this]
     ·by_cases c:j<255
      ·simp only[b,if_false,q8 c,qK];by_cases d:j<i
       ·rw[if_pos d,if_pos (by omega)]
       ·rw[if_neg d,if_neg (by omega)]
      ·simp[b,c]
    rw[<-e];exact g
  ·have m:i=255:=by dsimp only at l;omega
   subst m;have e:((qz 255).map fun j=>if j<255 then((Gf.pw j).toNat:Int)else 0)=gn:=by
    unfold gn;apply List.map_congr_left;intro j b;rw[if_pos (qF.1 b)]
   rw[e]at f;have p:=f.box 0 rfl;refine⟨gn,⟨fo,p.aI _ (by rw[qj (qt _)])⟩,?_⟩;refine f.storeAll af 0 rfl rfl (gn.map (Sc.enc (.int .u8))) rfl (by rw[qC,fo]) (FI _ _) rfl fun h3 g=>?_;have n:=g.box 0 rfl;exact⟨gn,⟨fo,n.aI _ (by rw[qj (qt _)])⟩,rfl,.zip g.ag⟩
theorem PF(h:Heap):ab vV 254 #[vQ (gn.map (Sc.enc (.int .u8))).toArray] h fun v h'=>v=vQ (mJ.map (Sc.enc (.int .i64))).toArray/\Sp h h' []:=by
 refine KS gn ?_;unfold GB;refine(Sp.refl h).boxed fun a E w=>?_;refine w.alloc af rfl fun s A p=>?_;have o:=p.box 0 rfl;refine⟨gn,⟨fo,o.aI _ (by show List.take _ (gn.map _)=_;rw[qj (qt _)])⟩,?_⟩;let L:Nat->aB:=fun i=>(qz 256).map fun x=>if x≠0/\Gf.lg (w6 x)<i then((Gf.lg (w6 x):Nat):Int)else 0
 refine aA (fun i:Nat=>(i:Int)) (fun i h'=>i<=255/\Sp h h' [emp,ai s 314 ((L i).map (Sc.enc (.int .i64)))]) (fun i=>255-i) 0 rfl ⟨by omega,?_⟩ ?_
 ·have e:(L 0).map (Sc.enc (.int .i64))=qi 256 (vL vR 0):=by simp[L];rfl
  rw[e];exact p.jo 0 rfl fun _ _=>trivial
 ·rintro i h3 ⟨B,g⟩;refine aj (fun u=>?_) (fun y=>?_)
  ·have c:i<255:=by omega
   have q:=wF (Gf.pw i);refine⟨((Gf.pw i).toNat:Int),⟨by omega,by omega,by simp[gn,c]⟩,⟨by omega,by omega⟩,?_⟩;rw[show(((Gf.pw i).toNat:Int).toNat*1)=(Gf.pw i).toNat by omega];refine g.storeAt af 1 rfl rfl rfl rfl rfl (by simp[L];omega) fun z k=>?_;refine⟨i+1,by rw[ak _];rfl,⟨by omega,?_⟩,by omega⟩;have e:((L i).map (Sc.enc (.int .i64))).set (Gf.pw i).toNat (vL vR i)=(L (i+1)).map (Sc.enc (.int .i64)):=by
    apply zq;intro j;simp only[qW,qN,qC,zm,L];by_cases f:(Gf.pw i).toNat=j
    ·subst f;simp only[if_true,q8 q,qK,q];have l:(Gf.pw i).toNat≠0:=fun h0=>Gf.MC i c (wI.1 h0);rw[yk,Gf.MB i c,if_pos ⟨l,by omega⟩]
    ·by_cases d:j<256
     ·simp only[f,if_false,q8 d,qK];by_cases b:j=0
      ·simp[b]
      ·have D:Gf.lg (w6 j)≠i:=fun h0=>by
        apply f;rw[<-h0,Gf.MA _ (fun t=>b (by have:=congrArg UInt8.toNat t;simpa[zP d]using this))];simp[zP d]
       by_cases m:Gf.lg (w6 j)<i
       ·rw[if_pos ⟨b,m⟩,if_pos ⟨b,by omega⟩]
       ·rw[if_neg fun r=>m r.2,if_neg fun r=>m (by omega)]
     ·simp[f,d]
   rw[<-e];exact k
  ·have c:i=255:=by omega
   subst c;have e:L 255=mJ:=by
    unfold mJ;apply List.map_congr_left;intro j f;by_cases b:j=0
    ·simp[b]
    ·rw[if_pos ⟨b,Gf.Do _⟩,if_neg b]
   rw[e]at g;have o:=g.box 1 rfl;refine⟨mJ,⟨pm,o.aI _ (by rw[qj (qt _)])⟩,?_⟩;refine g.storeAll af 1 rfl rfl (mJ.map (Sc.enc (.int .i64))) rfl (by rw[qC,pm]) (FI _ _) rfl fun z k=>?_;have n:=k.box 1 rfl;exact⟨mJ,⟨pm,n.aI _ (by rw[qj (qt _)])⟩,rfl,.zip k.ag⟩
theorem ud(h:Heap):ab vV 197 #[] h fun v h'=>∃a:Addr,v=vN (some a)/\Sp h h' [ai a 317 fp]:=by
 refine Nb ?_;unfold Jk;refine(Lf h).mono ?_;rintro v u ⟨rfl,p⟩;refine⟨gn,rfl,?_⟩;refine p.alloc af rfl fun a r m=>?_;refine m.storeAll af 0 rfl rfl (gn.map (Sc.enc (.int .u8))) rfl (by rw[qC,fo]) (FI _ _) (by rw[qC,fo];rfl) fun h3 f=>?_;have j:=f.box 0 rfl;have d:ah h3 a 0 (gn.map (Sc.enc (.int .u8))):=j.aI _ (by rw[qj (qt _)]);refine⟨gn,⟨fo,d⟩,gn,⟨fo,d⟩,?_⟩;refine(PF h3).mono ?_;rintro v t ⟨rfl,g⟩;refine⟨mJ,rfl,kp.2 ⟨(g.ag).cells j.lt d,trivial⟩,_,oH af (i:=_) rfl rfl rfl (cells:=fp.toArray) ?_,?_⟩
 ·have b:∀z:aM,z.length=511->wc (fun n=>[(0,255),(255,256)][n]?) z.toArray [(0,vQ (gn.map (Sc.enc (.int .u8))).toArray),(1,vQ (mJ.map (Sc.enc (.int .i64))).toArray)]=some fp.toArray:=by
   intro z b;have e:z=[]++z.take 255++z.drop 255:=by simp
   conv=>lhs;rw[e]
   rw[Iq (vs:=gn.map (Sc.enc (.int .u8))) rfl (by simp[fo]) (by simp[fo,b])];have e2:[]++gn.map (Sc.enc (.int .u8))++z.drop 255=gn.map (Sc.enc (.int .u8))++z.drop 255++[]:=by simp
   rw[e2,Iq (vs:=mJ.map (Sc.enc (.int .i64))) rfl (by simp[fo,pm]) (by simp[pm,b])];simp[wc,fp]
  exact b _ rfl
 ·have o:(Value.agg fp.toArray).cells.toList=fp:=rfl;refine(f.comp g).boxed fun q s l=>?_;have c:=l.box 0 rfl;exact⟨kp.2 ⟨c.aI _ (by rw[qj (qt _)]),trivial⟩,q,rfl,l.take 1 (fun i A k=>by cases i with|zero=>exact k|succ i=>simp at k)⟩
theorem Aa{h:Heap}{a:Addr}(c:gc h a)(n:Nat)(b:n<255):cellOf h (a.add n)=some (vL vS (Gf.pw n).toNat):=
 c.cell (by rw[fp,ql (by simp[fo,b])];simp[gn,b])
theorem Ab{h:Heap}{a:Addr}(c:gc h a)(x:UInt8)(f:x≠0):cellOf h ((a.add 255).add x.toNat)=some (vL vR (Gf.lg x)):=by
 have d:=c.addr;have e:(a.add 255).add x.toNat=a.add (255+x.toNat):=by rw[d,add_eq,add_eq,add_eq];congr 1;omega
 rw[e];refine c.cell ?_;have b:=wF x;have h0:x.toNat≠0:=fun h0=>f (wI.1 h0);rw[fp,qh (by simp[fo])];simp[fo,mJ,b,h0]
theorem mK(a:Addr)(h:Heap):ab vV 336 #[vN (some a)] h fun v h'=>v=vN (some a)/\h'=h:=by
 refine CE (some a) ?_;unfold sB;exact Ca rfl ⟨rfl,rfl⟩
theorem uQ(a:Addr)(h:Heap):ab vV 251 #[vN (some a)] h fun v h'=>v=vN (some a)/\h'=h:=by
 refine Jp (some a) ?_;unfold Ec;exact Ca rfl ⟨rfl,rfl⟩
theorem Hx(a:Addr)(h:Heap):ab vV 348 #[vN (some a)] h fun v h'=>v=vN (some a)/\h'=h:=by
 refine Ju (some a) ?_;unfold Eh;exact Ca rfl ⟨rfl,rfl⟩
theorem Ac{x:UInt8}:((x.toNat:Int)=0)↔x=0:=⟨fun h=>wI.1 (by simpa using h),fun h=>by rw[h];rfl⟩
theorem JG(a:Addr)(x y:UInt8)(h:Heap)(f:gc h a):ab vV 286 #[vN (some a),vL vS x.toNat,vL vS y.toNat] h fun v h'=>v=vL vS (Gf.mul x y).toNat/\h'=h:=by
 refine CB (some a) _ _ ?_;unfold sv;refine aP ?_;refine bt (fun h0=>⟨by rw[Gf.mul,if_pos (.inl (Ac.1 h0))];rfl,rfl⟩) (fun i=>?_);refine bt (fun h0=>⟨by rw[Gf.mul,if_pos (.inr (Ac.1 h0))];rfl,rfl⟩) (fun g=>?_);have c:x≠0:=fun h0=>i (Ac.2 h0);have b:y≠0:=fun h0=>g (Ac.2 h0);refine(mK a h).mono ?_;rintro v l ⟨rfl,rfl⟩;have m:=wF x;have j:=wF y;have k:=Gf.Do x;have n:=Gf.Do y;refine⟨some a,rfl,a,rfl,⟨by omega,by omega⟩,(Gf.lg x:Int),?_,a,rfl,⟨by omega,by omega⟩,(Gf.lg y:Int),?_,by decide,a,rfl,?_⟩
 ·rw[show((x.toNat:Int).toNat*1)=x.toNat by omega];exact Ab f x c
 ·rw[show((y.toNat:Int).toNat*1)=y.toNat by omega];exact Ab f y b
 rw[ak _];have e:zQ ((Gf.lg x:Int)+(Gf.lg y:Int)) 255=(((Gf.lg x+Gf.lg y)%255:Nat):Int):=by
  rw[ya (by omega)];rfl
 rw[e];have d:=yE (Gf.lg x+Gf.lg y) (show 255>0 by decide);refine⟨⟨by omega,by omega⟩,_,?_,by rw[Gf.mul,if_neg (by simp[c,b])],rfl⟩;rw[show((((Gf.lg x+Gf.lg y)%255:Nat):Int).toNat*1)=(Gf.lg x+Gf.lg y)%255 by omega];exact Aa f _ d
theorem RM(a:Addr)(x:UInt8)(h:Heap)(d:gc h a):ab vV 309 #[vN (some a),vL vS x.toNat] h fun v h'=>v=vL vS (Gf.inv x).toNat/\h'=h:=by
 refine CD (some a) _ ?_;unfold sA;refine bt (fun h0=>⟨by rw[Gf.inv,if_pos (Ac.1 h0)];rfl,rfl⟩) (fun f=>?_);have b:x≠0:=fun h0=>f (Ac.2 h0);refine(mK a h).mono ?_;rintro v g ⟨rfl,rfl⟩;have i:=wF x;have j:=Gf.Do x;refine⟨some a,rfl,a,rfl,⟨by omega,by omega⟩,(Gf.lg x:Int),?_,by decide,a,rfl,?_⟩
 ·rw[show((x.toNat:Int).toNat*1)=x.toNat by omega];exact Ab d x b
 rw[ak _];have e:zQ (255-(Gf.lg x:Int)) 255=(((255-Gf.lg x)%255:Nat):Int):=by
  rw[ya (by omega)];omega
 rw[e];have c:=yE (255-Gf.lg x) (show 255>0 by decide);refine⟨⟨by omega,by omega⟩,_,?_,by rw[Gf.inv,if_neg b],rfl⟩;rw[show((((255-Gf.lg x)%255:Nat):Int).toNat*1)=(255-Gf.lg x)%255 by omega];exact Aa d _ c
theorem RN(a:Addr)(n:Int)(h:Heap)(i:gc h a):ab vV 295 #[vN (some a),vL vR n] h fun v h'=>v=vL vS (Gf.pw (n%255).toNat).toNat/\h'=h:=by
 refine CC (some a) n ?_;unfold sw;have j:=yU n (show(0:Int)<255 by decide);have g:-255<n.tmod 255:=Int.lt_tmod_of_pos n (by decide);have b:=Ip n 255 (by decide);have c:=Int.emod_nonneg n (show(255:Int)≠0 by decide);have d:=Int.emod_lt_of_pos n (show(0:Int)<255 by decide);refine⟨by decide,cg (fun s h'=>s=n%255/\h'=h) ?_ ?_⟩
 ·refine aj (fun f=>?_) (fun e=>?_)
  ·rw[if_pos f]at b;exact⟨by rw[ak _,b],rfl⟩
  ·rw[if_neg e]at b;exact⟨b.symm,rfl⟩
 ·rintro s h' ⟨rfl,rfl⟩;refine(mK a h').mono ?_;rintro v g ⟨rfl,rfl⟩;refine⟨some a,rfl,a,rfl,⟨c,d⟩,_,?_,rfl,rfl⟩;rw[zN];exact Aa i _ (by omega)
theorem kI(p:Pm)(h:Heap):ab vV 215 #[jH p] h fun v h'=>v=vL vR (ck p)/\Sp h h' []:=by
 refine Jm p ?_;unfold DX;refine(Sp.refl h).boxed fun a f c=>?_;refine⟨p,(c.box 0 rfl).aI _ rfl,?_⟩;refine(dO p f).mono ?_;rintro v i ⟨rfl,g⟩;have b:=c.comp g;have d:=b.box 0 rfl;refine⟨_,rfl,bf (fun e=>⟨by simp[ck,e],.zip b.ag⟩) (fun e=>?_)⟩;refine⟨_,d.cell0 rfl,_,d.cell rfl,?_,.zip b.ag⟩;have:=(bS p).1 e;rw[ak _,ck,if_pos e]
theorem PG(n i:Int)(h:Heap):ab vV 294 #[vL vR n,vL vR i] h fun v h'=>∃s:Sl,v=s/\
  Sp h h' [ao 5 s 1 av (if 1<=n/\n<=64/\0<=i/\i<n then(qi n.toNat (0:UInt8)).set i.toNat 1 else[])]:=by
 refine Js n i ?_;unfold Ef;have a:∀c:Prop,¬c->[Decidable c]->Sp h h [ao 5 ⟨none,0,0⟩ 1 av (if c then(qi n.toNat (0:UInt8)).set i.toNat 1 else[])]:=fun c b _=>by
  rw[if_neg b];exact(Sp.refl h).nil 5 1 av
 refine aP ?_;refine aj (fun e=>⟨⟨none,0,0⟩,rfl,a _ (by omega)⟩) (fun l=>?_);refine aj (fun e=>⟨⟨none,0,0⟩,rfl,a _ (by omega)⟩) (fun e2=>?_);refine aj (fun e=>⟨⟨none,0,0⟩,rfl,a _ (by omega)⟩) (fun k=>?_);refine aj (fun e=>⟨⟨none,0,0⟩,rfl,a _ (by omega)⟩) (fun o=>?_);refine(Sp.refl h).make af av ⟨_,_,rfl,rfl,rfl,rfl,rfl,rfl⟩ (by decide) 0 rfl rfl n.toNat n.toNat (by omega) (by omega) (qt _) (by omega) fun s m g b f=>?_;refine f.set af 0 rfl (fun _=>rfl) rfl i.toNat (by omega) (by simp;omega) 1 rfl rfl rfl fun j d=>?_;refine⟨s,rfl,?_⟩;rw[if_pos (by omega)];exact d
theorem Hy(s:Int)(h:Heap):ab vV 223 #[vL vT s] h fun v h'=>∃a:Addr,v=vN (some a)/\Sp h h' [ai a 353 [vL vU (qc vU s)]]:=by
 refine Jn s ?_;unfold DY;exact(Sp.refl h).boxed fun a c b=>⟨a,rfl,b⟩
theorem sJ(a:Addr)(s:Int)(h:Heap)(d:bV h a 353 [vL vU s]):ab vV 224 #[vN (some a)] h fun v h'=>v=vL vT (told s)/\bV h' a 353 [vL vU (Gb s)]/\aH (·≠a.block) h h':=by
 refine xM (some a) ?_;unfold pe;refine Ca rfl ⟨a,rfl,s,d.cell0 rfl,a,rfl,?_⟩;refine My af d rfl _ rfl rfl rfl (qt _) fun e b c _=>?_;exact⟨a,rfl,_,b.cell0 rfl,by decide,rfl,b,c⟩
theorem Et(a:Addr)(s n:Int)(h:Heap)(f:bV h a 353 [vL vU s])(i:0<n:=by omega)(d:n<=2^62:=by omega):ab vV 288 #[vN (some a),vL vR n] h fun v h'=>v=vL vR (jb s n)/\bV h' a 353 [vL vU (Gb s)]/\aH (·≠a.block) h h':=by
 refine uY (some a) n ?_;unfold nW;refine aP (Ca rfl (aj (fun e=>by omega) fun _=>?_));refine(sJ a s h f).mono ?_;rintro v g ⟨rfl,c,b⟩;exact⟨_,rfl,by rw[wrap_u64];omega,rfl,c,b⟩
theorem Md(a b:Nat)(c:a<=2^40)(d:b<=2^40):qc vR ((a:Int)+(b:Int))=((a+b:Nat):Int):=by
 rw[ak _];rfl
theorem PH(l:Nat)(h:Heap)(f:l<=20):ab vV 337 #[vL vR l] h fun v h'=>v=vL vR (dI l)/\h'=h:=by
 have g:∀l:Nat,l<=20->∀r:Nat,r<=5->(∀j,j<r->j*j<l)->r*r<l->r<5:=by decide
 have m:∀l:Nat,l<=20->∀r:Nat,r<=5->(∀j,j<r->j*j<l)->¬r*r<l->r=dI l:=by decide
 refine CF l ?_;unfold sC;refine aA (fun r:Nat=>(r:Int)) (fun r h'=>h'=h/\r<=5/\∀j,j<r->j*j<l) (fun r=>5-r) 0 rfl ⟨rfl,by omega,fun j c=>by omega⟩ ?_;rintro r h' ⟨rfl,d,c⟩;have n:r*r<=25:=Nat.mul_le_mul d d;have e:qc vR ((r:Int)*(r:Int))=((r*r:Nat):Int):=by rw[<-zW];exact nX _
 rw[e];refine aj (fun i=>?_) (fun k=>?_)
 ·have a:r*r<l:=by omega
  have o:=g l f r d c a;refine⟨r+1,by rw[ak _];rfl,⟨rfl,by omega,fun j b=>?_⟩,by omega⟩;rcases Nat.lt_succ_iff_lt_or_eq.1 b with b|rfl
  ·exact c j b
  ·exact a
 ·exact⟨by rw[m l f r d c (by omega)],rfl⟩
theorem PI(r:Nat)(h:Heap)(a:r<=5):ab vV 104 #[vL vU r] h fun v h'=>v=vL vR (AK r)/\h'=h:=by
 intro w b;refine(Tryz.bits_Len (r:Int) w (by omega) (by omega)).mono ?_;rintro e w' ⟨rfl,rfl⟩;have k:∀r:Nat,r<=5->Lib.bitLen r=AK r:=by decide+kernel
 exact⟨_,rfl,ct.refl _,by rw[qo,k r a],b⟩
theorem Lg(l k:Nat)(h:Heap)(b:l<=20)(a:1<=l)(g:k<=20)(d:1<=k):ab vV 289 #[vL vR l,vL vR k] h fun v h'=>v=vL vR (my l k)/\h'=h:=by
 have x:∀k:Nat,k<=20->1<k->qc vR ((k:Int)*qc vR ((k:Int)-1))=((k*(k-1):Nat):Int)/\k*(k-1)≠0:=by decide
 have j:∀l:Nat,l<=20->1<=l->1<=dI l/\dI l<=5:=by decide
 have c3:∀l:Nat,l<=20->1<=l->qc vR (wQ (l:Int) (dI l))=((l/dI l:Nat):Int):=by decide
 have o:∀l:Nat,l<=20->1<=l->∀k:Nat,k<=20->1<=k->qc vR ((l:Int)*k)≠0:=by decide+kernel
 have r:∀k:Nat,k<=20->1<k->qc vR (wQ (1048576:Int) (qc vR ((k:Int)*qc vR ((k:Int)-1))))=((1048576/(k*(k-1)):Nat):Int):=by decide+kernel
 have p:∀l:Nat,l<=20->1<=l->qc vR (wQ (1048576:Int) (l:Int))=((1048576/l:Nat):Int):=by decide+kernel
 have m:∀l:Nat,l<=20->1<=l->∀k:Nat,k<=20->1<=k->qc vR (wQ (qc vR ((1048576:Int)*dI l)) (qc vR ((l:Int)*k)))=((1048576*dI l/(l*k):Nat):Int):=by decide+kernel
 have n:∀l:Nat,l<=20->1<=l->qc vR (wQ (qc vR ((qc vR ((1048576:Int)*dI l))*AK (dI l))) (l:Int))=((1048576*dI l*AK (dI l)/l:Nat):Int):=by decide+kernel
 have u:∀l:Nat,l<=20->∀k:Nat,k<=20->1048576*dI l/(l*k)<=2^30/\1048576*dI l*AK (dI l)/l<=2^30/\1048576/(k*(k-1))<=2^30/\1048576/l<=2^30:=by decide+kernel
 refine xP l k ?_;unfold ph;have i:=u l b k g;refine(PH l h b).mono ?_;rintro v y ⟨rfl,rfl⟩;have q:=j l b a;refine⟨_,rfl,by omega,cg (fun s h'=>s=(((if k>1 then 1048576/(k*(k-1))else 1048576/l):Nat):Int)/\h'=y) ?_ ?_⟩
 ·refine aj (fun e=>?_) (fun e=>?_)
  ·have:=x k g (by omega);refine⟨by rw[this.1];omega,by rw[r k g (by omega),if_pos (by omega)],rfl⟩
  ·refine⟨by rw[p l b a,if_neg (by omega)],rfl⟩
 ·rintro s t ⟨rfl,rfl⟩;have z:(if k>1 then 1048576/(k*(k-1))else 1048576/l)<=2^30:=by split<;>first|exact i.2.2.1|exact i.2.2.2
  refine aP ?_;dsimp only;refine⟨show((dI l:Nat):Int)≠0 by omega,?_⟩;rw[c3 l b a];refine aj (fun e=>⟨o l b a k g d,?_,rfl⟩) (fun e=>?_)
  ·rw[m l b a k g d,Md _ _ (by omega) (zh i.1 (by decide)),my,if_pos (c:=k<l/dI l) (Int.ofNat_lt.1 e)]
  ·refine bt (fun e2=>?_) (fun e2=>?_)
   ·have w:qc vU (dI l:Int)=(dI l:Int):=by rw[wrap_u64];omega
    rw[w];refine(PI (dI l) t q.2).mono ?_;rintro v h3 ⟨rfl,rfl⟩;refine⟨_,rfl,by omega,?_,rfl⟩;rw[n l b a,Md _ _ (by omega) (zh i.2.1 (by decide)),my,if_neg (c:=k<l/dI l) (fun f=>e (Int.ofNat_lt.2 f)),if_pos (c:=k=l/dI l) (Int.ofNat_inj.1 e2)]
   ·exact⟨by rw[my,if_neg (c:=k<l/dI l) (fun f=>e (Int.ofNat_lt.2 f)),if_neg (c:=k=l/dI l) (fun f=>e2 (Int.ofNat_inj.2 f)),Nat.add_zero],rfl⟩
theorem Nn(l:Nat)(h:Heap)(b:l<=20)(c:1<=l):ab vV 226 #[vL vR l] h fun v h'=>∃s:Sl,v=s/\Sp h h' [ao 3 s 1 aG (gy l)]:=by
 refine Be l ?_;unfold pZ;refine aP (aj (fun e=>by omega) fun _=>aj (fun e=>by omega) fun _=>?_);refine(Sp.refl h).make af aG mE (by decide) 0 rfl rfl 0 l rfl rfl (by omega) (by omega) fun s r d u g=>?_;refine aA (fun t:Sl×Nat=>(t.1,((jy l t.2:Nat):Int),((t.2+1:Nat):Int))) (fun t h'=>t.2<=l/\Sp h h' [ao 3 t.1 1 aG ((gy l).take t.2)]) (fun t=>l-t.2) (s,0) rfl ⟨by simp,by simpa using g⟩ ?_;rintro⟨s,k⟩ f ⟨p,a⟩;dsimp only at*;refine aj (fun e=>?_) (fun e=>?_)
 ·refine(Lg l (k+1) f b c (by omega) (by omega)).mono ?_;rintro v h3 ⟨rfl,rfl⟩;refine⟨_,rfl,?_⟩;have o:=AL l b k (by omega);have n:=Dp l b (k+1) (by omega);have e2:qc vR ((jy l k:Int)+(my l (k+1):Int))=((jy l (k+1):Nat):Int):=by rw[ak _,jy];rfl
  dsimp only;rw[e2];refine a.push af 0 rfl mE rfl (by decide) (fun _=>rfl) jQ _ rfl (by decide) (by rw[qO];omega) fun j q m=>?_;refine⟨(j,k+1),by dsimp only;rw[ak _];rfl,⟨by dsimp only;omega,?_⟩,by dsimp only;omega⟩;have i:(gy l).take (k+1)=(gy l).take k++[((jy l (k+1):Nat):Int)]:=by
   rw[aO _ _ (by rw[iK];omega)];simp[gy]
  dsimp only;rw[i];exact m
 ·refine⟨s,rfl,?_⟩;rw[qj (by rw[iK];omega)]at a;exact a
theorem Lh{p:ap}(t:Sl)(lt:aB)(x b:Int)(h:Heap)(c:Seq h p t 1 aG lt)(r:0<=x)(a:lt.getLast?=some b)(g:x<b)(s:lt.length<=2^40):
  ab vV 287 #[t,vL vR x] h fun v h'=>v=vL vR (MD lt x)/\h'=h:=by
 refine xO t x ?_;unfold pf;have q:=c.len;have d:lt≠[]:=fun e=>by rw[e]at a;cases a
 have m:0<lt.length:=List.length_pos_iff.2 d;have i:lt[lt.length-1]=b:=by rw[List.getLast?_eq_getElem?,qd (by omega)]at a;simpa using a
 refine aP (bt (fun e=>by omega) fun _=>aj (fun e=>by omega) fun _=>?_);rw[ak _];refine c.cA (lt.length-1) (by omega) (by omega) _ rfl ?_;rw[i];refine aj (fun e=>by omega) fun _=>?_;have f:(lt.findIdx fun y=>decide (y>x))<lt.length:=List.findIdx_lt_length_of_exists ⟨b,List.mem_of_getLast? a,by simpa using g⟩;refine aA (fun k:Nat=>(k:Int)) (fun k h'=>h'=h/\k<=(lt.findIdx fun y=>decide (y>x))) (fun k=>lt.length-k) 0 rfl ⟨rfl,by omega⟩ ?_;rintro k h' ⟨rfl,n⟩;refine aj (fun e=>?_) (fun e=>by omega);have l:k<lt.length:=by omega
 refine c.cA k rfl l _ rfl ?_;rw[ak _];refine aj (fun e2=>?_) (fun e2=>?_)
 ·have:(lt.findIdx fun y=>decide (y>x))=k:=Nat.le_antisymm (Nat.le_of_not_lt fun j=>by have:=List.not_of_lt_findIdx j;simp at this;omega) n;exact⟨by rw[MD,this];rfl,rfl⟩
 ·refine⟨k+1,rfl,⟨rfl,?_⟩,by omega⟩;refine Nat.lt_of_le_of_ne n fun o=>?_;have:=List.findIdx_getElem (xs:=lt) (p:=fun y=>decide (y>x)) (w:=f);simp only[<-o]at this;simp at this;omega
theorem Bg(t:Sl)(n:Nat)(a:Addr)(s:Int)(h:Heap)(f:Seq h (·≠a.block) t 1 aG (gy n))(k:bV h a 353 [vL vU s])(b:1<=n)(i:n<=20):
  ab vV 225 #[t,vN (some a)] h fun v h'=>v=vL vR (HN s n)/\bV h' a 353 [vL vU (Gb s)]/\aH (·≠a.block) h h':=by
 refine Cz t (some a) ?_;unfold sr;have j:=f.len;rw[iK]at j;refine bt (fun e=>by omega) fun _=>?_;rw[ak _];refine f.cA (n-1) (by omega) (by rw[iK];omega) _ rfl ?_;have m:(gy n)[n-1]'(by rw[iK];omega)=((jy n n:Nat):Int):=by simp only[gy,List.getElem_map,List.getElem_range];rw[show n-1+1=n by omega]
 rw[m];have q:=IA n i b;have l:=AL n i n i;refine(Et a s _ h k).mono ?_;rintro v o ⟨rfl,g,c⟩;have d:=oL s (jy n n);refine⟨_,rfl,(Lh t (gy n) _ _ o (f.ag c) d.1 (Dq n b) d.2 (by rw[iK];omega)).mono ?_⟩;rintro v p ⟨rfl,rfl⟩;exact⟨_,rfl,rfl,g,c⟩
theorem PJ(a:Addr)(s:Int)(n k:Nat)(h:Heap)(E:bV h a 353 [vL vU s])(T:n<=64)(R:k<=n):
  ab vV 227 #[vN (some a),vL vR n,vL vR k] h fun v h'=>∃r:Sl,v=r/\aa (fun b=>b<h.size/\¬b=a.block) h h' [ai a 353 [vL vU (eW n s (upto n) k).1],ao 3 r 1 aG (AJ s n k)]:=by
 refine DZ (some a) n k ?_;unfold uL;refine aP (aj (fun e=>by omega) fun _=>aj (fun e=>by omega) fun _=>aj (fun e=>by omega) fun _=>aj (fun e=>by omega) fun _=>?_);have I:aa (fun b=>b<h.size/\¬b=a.block) h h [ai a 353 [vL vU s]]:=.Ou (fun b=>b=a.block) (fun b B=>by rw[B];exact E.lt) ⟨E,rfl⟩;refine I.make af aG mE (by decide) 0 rfl rfl n n rfl rfl (qt _) (by omega) fun v U P V H=>?_;refine aA (fun i:Nat=>(i:Int)) (fun i h'=>i<=n/\aa (fun b=>b<h.size/\¬b=a.block) h h' [ai a 353 [vL vU s],ao 3 v 1 aG ((upto n).take i++qi (n-i) 0)]) (fun i=>n-i) 0 rfl ⟨by omega,by simpa using H⟩ ?_;rintro i Q ⟨S,p⟩;refine aj (fun e=>?_) (fun e=>?_)
 ·have m:i<n:=by omega
  refine p.set af 1 rfl (fun _=>rfl) rfl i rfl (by simp[fd];omega) (i:Int) rfl rfl rfl fun h3 f=>?_;refine⟨i+1,by rw[ak _];rfl,⟨by omega,?_⟩,by omega⟩;have e2:((upto n).take i++qi (n-i) 0).set i (i:Int)=(upto n).take (i+1)++qi (n-(i+1)) 0:=by
   have y:((upto n).take i).length=i:=by rw[qO,fd];omega
   rw[aO _ _ (by rw[fd];omega),qY _ _ (by omega),y,q5,show n-i=n-(i+1)+1 by omega,yN,zM];simp[upto]
  rw[<-e2];exact f
 ·have m:i=n:=by omega
  subst m;have e2:(upto i).take i++qi (i-i) 0=upto i:=by rw[qj (by rw[fd];omega)];simp
  rw[e2]at p;refine aA (fun j:Nat=>(j:Int)) (fun j h'=>j<=k/\aa (fun b=>b<h.size/\¬b=a.block) h h' [ai a 353 [vL vU (eW i s (upto i) j).1],ao 3 v 1 aG (eW i s (upto i) j).2]) (fun j=>k-j) 0 rfl ⟨by omega,p⟩ ?_;rintro j h3 ⟨N,f⟩;have x:=oM i s (upto i) j;rw[fd]at x;refine aj (fun J=>?_) (fun J=>?_)
  ·rw[ak _];have d:((i:Int)-(j:Int))=((i-j:Nat):Int):=by omega
   rw[d];refine(Et a _ _ h3 (f.box 0 rfl)).mono ?_;rintro w F ⟨rfl,t,u⟩;have l:=f.rS 0 rfl u t;have M:=oL (eW i s (upto i) j).1 ((i-j:Nat):Int);refine⟨_,rfl,?_⟩;dsimp only;rw[ak _,ak _];have G:(j:Int)+jb (eW i s (upto i) j).1 ((i-j:Nat):Int)=((j+(jb (eW i s (upto i) j).1 ((i-j:Nat):Int)).toNat:Nat):Int):=by omega
   have c:j+(jb (eW i s (upto i) j).1 ((i-j:Nat):Int)).toNat<(eW i s (upto i) j).2.length:=by omega
   rw[G];have g:=l.seq 1 rfl (fun _=>rfl);refine g.cA _ rfl c _ rfl ?_;refine g.cA j rfl (by omega) _ rfl ?_;refine l.set af 1 rfl (fun _=>rfl) rfl j rfl (by omega) _ rfl rfl rfl fun K D=>⟨trivial,?_⟩
   refine D.set af 1 rfl (fun _=>rfl) rfl _ rfl (by simpa using c) _ rfl rfl rfl fun O L=>⟨trivial,?_⟩
   refine⟨j+1,rfl,⟨by omega,?_⟩,by omega⟩;rw[eW,mQ,iy,iy,Go.Vc.getD_lt c,Go.Vc.getD_lt (show j<(eW i s (upto i) j).2.length by omega)];exact L
  ·have z:j=k:=by omega
   subst z;refine⟨⟨by omega,by omega⟩,?_⟩;have o:=f.seq 1 rfl (fun _=>rfl);refine(gx ⟨v.ptr,j,v.cap⟩ ((eW i s (upto i) j).2.take j) h3 (o.take j (by omega)) (by rw[qO];omega)).mono ?_;rintro w F ⟨r,rfl,l⟩;refine⟨r,rfl,?_⟩;refine(GF r _ F (l.own 0 rfl) (by rw[qO];omega)).mono ?_;rintro w K ⟨rfl,q,A⟩;have D:=(f.comp l).jg 2 rfl A q;exact⟨(),rfl,r,rfl,D.del 1⟩
theorem GL(p:Pm)(seed id:Int)(h:Heap):ab vV 159 #[jH p,vL vT seed,vL vR id] h fun v h'=>∃r:Sl,v=r/\Sp h h' [ao 3 r 1 aG (if bC p&&bD id then dM (ck p).toNat seed id else[])]:=by
 refine KO p seed id ?_;unfold Gx;refine(Sp.refl h).boxed fun a D z=>?_;refine aP ?_;refine⟨p,(z.box 0 rfl).aI _ rfl,(dO p D).mono ?_⟩;rintro v m ⟨rfl,H⟩;have k:=z.comp H;have g:(bC p&&bD id)=false->Sp h m [ao 3 ⟨none,0,0⟩ 1 aG (if bC p&&bD id then dM (ck p).toNat seed id else[])]:=fun S=>by
  rw[S];exact(k.nil 3 1 aG).take 1 (fun i A f=>by cases i with|zero=>exact f|succ i=>simp at f)
 refine⟨_,rfl,bf (fun e=>⟨⟨none,0,0⟩,rfl,g (by rw[e];rfl)⟩) fun s=>?_⟩;refine aj (fun e=>⟨⟨none,0,0⟩,rfl,g (by simp[bD];omega)⟩) fun U=>?_;refine aj (fun e=>⟨⟨none,0,0⟩,rfl,g (by simp[bD];omega)⟩) fun e2=>?_;have hid:bD id=true:=by simp[bD];omega
 rw[s,hid];refine⟨p,(k.box 0 rfl).aI _ rfl,(kI p m).mono ?_⟩;rintro v h3 ⟨rfl,K⟩;have J:=k.comp K;have M:=(bS p).1 s;have V:ck p=p.1+p.2.1:=by rw[ck,if_pos s]
 obtain⟨n,P⟩:∃n:Nat,ck p=n:=⟨(ck p).toNat,by omega⟩
 refine⟨_,rfl,?_⟩;dsimp only;rw[P,qo];refine(Hy _ h3).mono ?_;rintro v O ⟨d,rfl,E⟩;refine⟨some d,rfl,?_⟩;refine(sJ d _ O (E.box 0 rfl)).mono ?_;rintro v N ⟨rfl,l,w⟩;have B:=E.rS 0 rfl w l;refine⟨_,rfl,?_⟩;refine(Nn n N (by omega) (by omega)).mono ?_;rintro v G ⟨t,rfl,o⟩;have c:=B.comp o;refine⟨t,rfl,?_⟩;have x:∀b,t.on b->b≠d.block:=fun b u T=>by
  have D:=(o.fresh 0 rfl).2 b u;have m:=(B.box 0 rfl).lt;omega
 refine(Bg t n d _ G ((o.own 0 rfl).seq (fun _=>rfl) x) (c.box 0 rfl) (by omega) (by omega)).mono ?_;rintro v Q ⟨rfl,y,j⟩;have F:=c.rS 0 rfl j y;refine⟨_,rfl,?_⟩;refine(PJ d _ n _ Q (F.box 0 rfl) (by omega) (oN _ n (by omega) (by omega))).mono ?_;rintro v h8 ⟨r,rfl,I⟩;have R:=F.call 0 rfl (fun b=>b=d.block) (fun q L b u=>by rw[u];exact L.2) I;exact⟨r,rfl,r,rfl,((J.comp R).take 3 (fun i A f=>by cases i with|zero=>exact f|succ i=>simp at f))⟩
end Go.Qw
