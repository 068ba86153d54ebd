/- Lemmas for the proof of the law; no condition. -/
import Derived.Test.YtcaonbjibhlkcaaGreatDoorTabS
import Derived.Test.YtcaonbjibhlkcaaGreatDoorShelfA
import Derived.Test.YtcaonbjibhlkcaaGreatDoorPlE
import Derived.Test.YtcaonbjibhlkcaaGreatDoorPlF
import Derived.Test.YtcaonbjibhlkcaaGreatDoorPlG
set_option linter.unusedVariables false
set_option linter.unusedSimpArgs false
open Go.Proofs.Tryz renaming prog -> xv
open Go.Value renaming agg -> xp, bool -> xo, int -> xk, pointer -> xm, slice -> xl, string -> xn
open Go.IntKind renaming bits -> qk, i64 -> xq, signed -> yC, u32 -> xt, u64 -> xu, u8 -> xr, wrap -> qc
open Option renaming isSome_iff_exists -> vp, map_some -> qR, some -> zO
open Int renaming fdiv -> qQ, lt_tmod_of_pos -> vt, mul_le_mul -> yW, mul_nonneg -> vB, natCast_mul -> zW, ofNat_inj -> vb, ofNat_lt -> vX, tdiv -> z8, tmod -> zZ, tmod_eq_emod_of_nonneg -> yE, tmod_lt_of_pos -> yZ, toNat_natCast -> qp
open UInt8 renaming ofNat -> zH, ofNat_toNat -> wR, toNat_inj -> wg, toNat_lt -> zN, xor_comm -> vA, zero_xor -> z7
open List renaming all_append -> yL, all_eq_false -> yt, all_eq_true -> qN, any_append -> y7, any_eq_true -> yb, append_assoc -> qo, append_nil -> qU, cons_append -> zA, drop_drop -> zB, drop_eq_getElem_cons -> qS, drop_of_length_le -> zh, eq_nil_of_length_eq_zero -> qT, exists_cons_of_length_eq_add_one -> yu, ext_getElem? -> zx, filter_append -> zg, filter_cons -> zo, filter_nil -> y6, flatMap_append -> ze, flatMap_cons -> zq, flatMap_nil -> yj, foldl_cons -> zD, foldl_nil -> wx, getD_eq_getElem?_getD -> qe, getElem?_append_left -> qm, getElem?_append_right -> qj, getElem?_cons_succ -> qz, getElem?_eq_getElem -> qd, getElem?_eq_none -> za, getElem?_eq_some_iff -> qn, getElem?_map -> qO, getElem?_range -> zl, getElem?_replicate -> zT, getElem?_set -> qV, getElem?_set_ne -> zY, getElem?_set_self -> zC, getElem?_zipWith -> wY, getElem_drop -> wm, getElem_mem -> qh, getElem_of_mem -> qE, getElem_take -> wU, getElem_zip -> yX, length -> vT, length_append -> qw, length_cons -> zi, length_drop -> qZ, length_filter_le -> zc, length_map -> qD, length_nil -> y8, length_range -> zy, length_set -> zr, length_take -> qM, map_append -> qW, map_map -> w5, map_mergeSort -> vy, mem_append -> qF, mem_cons -> q8, mem_filter -> qJ, mem_flatMap -> zQ, mem_map -> qC, mem_mergeSort -> yB, mem_of_getElem? -> yn, mem_range -> qI, mem_singleton -> qG, nil_append -> wh, pairwise_cons -> zM, range -> qy, range_succ -> zt, replicate -> qg, replicate_succ -> yi, set_append_right -> q7, set_cons_succ -> wM, set_cons_zero -> zu, take_append_drop -> qx, take_append_of_le_length -> zS, take_length -> qX, take_of_length_le -> qi
open Nat renaming add_assoc -> yy, add_sub_cancel_left -> zn, le_refl -> ql, le_trans -> zk, lt_of_lt_of_le -> qL, mod_eq_of_lt -> zV, mod_lt -> wJ, mul_le_mul_right -> zp, mul_one -> wc, sub_self -> zd, succ_mul -> zK, zero_le -> wS
open BitVec renaming ofInt -> qu, ofInt_natCast -> ya, ofNat -> wG, toNat_ofNat -> wN
open Bool renaming and_eq_true -> qA, false_eq_true -> zf, false_or -> vR, not_false -> w4, not_true -> yd, true_and -> zU
open Prod renaming ext -> yD, fst -> qK, snd -> zE
open Go.Instr renaming fill -> wC, storeAt -> qf
set_option maxRecDepth 100000
namespace Go.Vc
open Go Wl
abbrev Cells:=cv
abbrev powC(w:Pow)(l:Int):aV:=[xo w.off,xo w.fuse.isSome,xk xq l,xk xq w.offs]
def KD(w:Pow)(l:Int):Prop:=∀k,w.fuse=some k->l=k/\k<2^62
def ez(t:Nat)(a:Addr)(w:Pow):HP:=HP.ex fun l:Int=>(ar a t (powC w l)).and (KD w l)
section
variable {B:aA} {h0 h h':Heap} {As:List HP} {t:Nat} {a:Addr} {w:Pow}
theorem aa.BZ(H:aa B h0 h (ez t a w::As)):∃l,KD w l/\aa B h0 h (ar a t (powC w l)::As):=by
 obtain⟨l,H⟩:=H.CC;obtain⟨H,b⟩:=H.Ix;exact⟨l,b,H⟩
theorem aa.Je{l:Int}(b:KD w l)(H:aa B h0 h (ar a t (powC w l)::As)):aa B h0 h (ez t a w::As):=
 (H.toIx b).JE (F:=fun l:Int=>(ar a t (powC w l)).and (KD w l)) l
end
end Go.Vc
namespace Go.Qw
open Go Go.Vc Go.Proofs Wl
section
variable {B:aA} {h0 h h':Heap} {As:List HP} {t:Nat} {a:Addr} {w:Pow}
theorem Hm(l:Int)(b:bZ h a 131 (powC w l)):ab xv 114 #[xm (some a)] h fun v h'=>v=xo (!w.off)/\h'=h:=by
 refine FI (some a) ?_;unfold uU;exact bF (fun _=>⟨a,rfl,w.off,b.cell0 rfl,rfl,rfl⟩) fun e=>by cases e
theorem NB(l:Int)(b:bZ h a 131 (powC w l)):ab xv 80 #[xm (some a)] h fun v h'=>v=xk xq w.offs/\h'=h:=by
 refine Da (some a) ?_;unfold rZ;exact bF (fun e=>by cases e) fun _=>⟨a,rfl,w.offs,b.cell rfl,rfl,rfl⟩
theorem Yo(h:Heap):ab xv 45 #[] h fun v h'=>∃a,v=xm (some a)/\Sp h h' [ez 131 a Pow.new]:=by
 refine Oo ?_;unfold HN;refine(Sp.refl h).boxed fun a c b=>⟨a,rfl,aa.Je (l:=0) (w:=Pow.new) (fun k e=>by cases e) b⟩
theorem Ga(H:aa B h0 h (ez 131 a w::As)):ab xv 217 #[xm (some a)] h fun v h'=>v=xo w.step.1/\aa B h0 h' (ez 131 a w.step.2::As):=by
 obtain⟨l,o,b⟩:=H.BZ;refine Di (some a) ?_;unfold sk;refine(Hm l (b.box 0 rfl)).mono ?_;rintro _ t ⟨rfl,rfl⟩;refine⟨_,rfl,be (fun e=>?_) (fun e=>?_)⟩
 ·have:w.step=(false,w):=by unfold Pow.step;rw[if_pos (by simpa using e)]
  rw[this];exact⟨rfl,H⟩
 have g:w.off=false:=by simpa using e
 refine⟨a,rfl,_,(b.box 0 rfl).cell rfl,be (fun e2=>?_) (fun e2=>?_)⟩
 ·have:w.step=(true,w):=by
   unfold Pow.step;rw[if_neg (by simp[g])];cases d:w.fuse with
   |none=>rfl
   |some k=>rw[d]at e2;cases e2
  rw[this];exact⟨rfl,H⟩
 obtain⟨k,d⟩:∃k,w.fuse=some k:=vp.1 e2;obtain⟨rfl,x⟩:=o k d;have s:powC w (k:Int)=[xo false,xo true,xk xq k,xk xq w.offs]:=by simp[powC,g,d]
 rw[s]at b;refine⟨a,rfl,_,(b.box 0 rfl).cell rfl,cz (fun r=>?_) (fun r=>?_)⟩
 ·have i:k=0:=by omega
  subst i;have m:w.step=(false,⟨true,some 0,qc xq (w.offs+1)⟩):=by unfold Pow.step;rw[if_neg (by simp[g]),d]
  rw[m];refine⟨a,rfl,b.ja ac 0 rfl rfl [xo true] rfl rfl rfl (by simp) fun u n=>?_⟩;refine⟨a,rfl,w.offs,(n.box 0 rfl).cell rfl,a,rfl,n.store ac 0 rfl rfl 3 [xk xq (qc xq (w.offs+1))] rfl rfl rfl (by simp[powC]) fun h3 f=>⟨rfl,?_⟩⟩;refine aa.Je (l:=((0:Nat):Int)) (fun q c=>by cases c;exact⟨rfl,by decide⟩) ?_;exact f
 ·obtain⟨j,rfl⟩:∃j,k=j+1:=⟨k-1,by omega⟩
  have m:w.step=(true,⟨false,some j,w.offs⟩):=by unfold Pow.step;rw[if_neg (by simp[g]),d]
  rw[m];refine⟨a,rfl,_,(b.box 0 rfl).cell rfl,a,rfl,b.store ac 0 rfl rfl 2 [xk xq (qc xq (((j+1:Nat):Int)-1))] rfl rfl rfl (by simp[powC]) fun h3 f=>⟨rfl,?_⟩⟩;refine aa.Je (l:=(j:Int)) (fun q c=>by cases c;exact⟨rfl,by omega⟩) ?_;rw[aj _]at f;have p:((j+1:Nat):Int)-1=(j:Int):=by omega
  rw[p]at f;exact f
end
abbrev Pm:=Int×Int×Int
abbrev ir(p:Pm):Value:=xp #[xk xq p.1,xk xq p.2.1,xk xq p.2.2]
theorem dz(p:Pm)(h:Heap):ab xv 18 #[ir p] h fun v h'=>v=xo (bA p)/\Sp h h' []:=by
 refine SV p ?_;unfold Nt;refine(Sp.refl h).boxed fun a d j=>?_;have e:=j.box 0 rfl;have c:Sp h d []:=.zip j.ag;have i:cellOf d a=some (xk xq p.1):=e.cell0 rfl;have f:cellOf d (a.add 1)=some (xk xq p.2.1):=e.cell rfl;have g:cellOf d (a.add 2)=some (xk xq p.2.2):=e.cell rfl;unfold bA;refine⟨_,i,ai (fun b=>?_) (fun b=>⟨by rw[decide_eq_false b];rfl,c⟩)⟩;rw[decide_eq_true b];refine⟨_,i,ai (fun b=>?_) (fun b=>⟨by rw[decide_eq_false b];rfl,c⟩)⟩;rw[decide_eq_true b];refine⟨_,f,ai (fun b=>?_) (fun b=>⟨by rw[decide_eq_false b];rfl,c⟩)⟩;rw[decide_eq_true b];refine⟨_,f,ai (fun b=>?_) (fun b=>⟨by rw[decide_eq_false b];rfl,c⟩)⟩;rw[decide_eq_true b];refine⟨_,g,ai (fun b=>?_) (fun b=>⟨by rw[decide_eq_false b];rfl,c⟩)⟩;rw[decide_eq_true b];exact⟨_,g,rfl,c⟩
abbrev lE:bN C.toBq 38 3 1 [xk xq 0] 8:=⟨_,_,rfl,rfl,rfl,rfl,rfl,rfl⟩
abbrev fi:bN C.toBq 23 5 1 [xk xr 0] 1:=⟨_,_,rfl,rfl,rfl,rfl,rfl,rfl⟩
abbrev fa:bN C.toBq 49 23 1 [xl none 0 0] 24:=⟨_,_,rfl,rfl,rfl,rfl,rfl,rfl⟩
theorem mE(s:Sl)(l:aB)(h:Heap)(a:Rd h s 1 aC l)(c:l.length<=2^30):ab xv 132 #[s] h fun v h'=>∃r:Sl,v=r/\Sp h h' [an 3 r 1 aC l]:=by
 refine uX s ?_;unfold nk;refine bF (fun e=>?_) (fun e=>?_)
 ·have:=a.isNil e;subst this;exact⟨⟨none,0,0⟩,rfl,(Sp.refl h).nil 3 1 aC⟩
 ·refine(Sp.refl h).lit ac aC lE rfl [] rfl (by decide) rfl fun g j b=>?_;refine b.append ac 0 rfl lE ⟨_,_,rfl,rfl⟩ rfl (by decide) (fun _=>rfl) (a.up b.ag) gJ (by simp;omega) fun d i f=>⟨d,rfl,f⟩
theorem fm(s:Sl)(l:aU)(h:Heap)(a:Rd h s 1 az l)(c:l.length<=2^30:=by omega):ab xv 29 #[s] h fun v h'=>∃r:Sl,v=r/\Sp h h' [an 5 r 1 az l]:=by
 refine JV s ?_;unfold DT;refine bF (fun e=>?_) (fun e=>?_)
 ·have:=a.isNil e;subst this;exact⟨⟨none,0,0⟩,rfl,(Sp.refl h).nil 5 1 az⟩
 ·refine(Sp.refl h).lit ac az fi rfl [] rfl (by decide) rfl fun g j b=>?_;refine b.append ac 0 rfl fi ⟨_,_,rfl,rfl⟩ rfl (by decide) (fun _=>rfl) (a.up b.ag) fT (by simp;omega) fun d i f=>⟨d,rfl,f⟩
theorem NC{e:TypeId}(s:Sl)(l:aB)(h:Heap)(c:Own h e s 1 aC l)(a:l.length<2^40):ab xv 98 #[s] h fun v h'=>v=.tuple #[]/\Own h' e s 1 aC (jl l)/\aR (fun b=>¬s.on b) h h':=
 PN Tryz.slices_Sort_int Tryz.slices_Sort_int_none c a
theorem iM(x n:Int)(h:Heap)(a:0<n)(e:n<=2^62):ab xv 10 #[xk xq x,xk xq n] h fun v h'=>v=xk xq (x%n)/\h'=h:=by
 refine tR x n ?_;unfold mN;have g:=yZ x a;have f:-n<x.tmod n:=vt x a;have d:=Iw x n a;refine⟨by omega,aT ?_⟩;refine ai (fun b=>?_) (fun c=>?_)
 ·rw[aj _];exact⟨by rw[d,if_pos b],rfl⟩
 ·exact⟨by rw[d,if_neg c],rfl⟩
theorem VS{p q:aA}(a b:Sl)(c g:Row)(h:Heap)(r:Seq h p a 1 az c)(o:Seq h q b 1 az g)(w:c.length<=2^40):
  ab xv 16 #[a,b] h fun v h'=>v=xo (decide (c=g))/\h'=h:=by
 refine rg a b ?_;unfold lc;have m:=r.len;have j:=o.len;refine bV (fun d=>⟨?_,rfl⟩) (fun l=>?_)
 ·rw[decide_eq_false (fun e=>d (by rw[m,j,e]))]
 ·refine au (fun k:Nat=>(k:Int)) (fun k h'=>h'=h/\k<=c.length/\c.take k=g.take k) (fun k=>c.length-k) 0 rfl ⟨rfl,by omega,by simp⟩ ?_;rintro k h' ⟨rfl,x,n⟩;refine ai (fun t=>?_) (fun u=>?_)
  ·have f:k<c.length:=by omega
   have i:k<g.length:=by omega
   refine r.bt k rfl f _ rfl ?_;refine o.bt k rfl i _ rfl ?_;refine bV (fun d=>⟨?_,rfl⟩) (fun l=>?_)
   ·rw[decide_eq_false];intro e;subst e;exact d rfl
   ·rw[aj _];have s:c[k]=g[k]:=wg.1 (by omega);exact⟨k+1,by simp,⟨rfl,by omega,by rw[aH _ _ f,aH _ _ i,n,s]⟩,by omega⟩
  ·have:k=c.length:=by omega
   subst this;rw[qi (by omega),qi (by omega)]at n;exact⟨by rw[decide_eq_true n],rfl⟩
theorem fo.take{α:Type}{h:Heap}{s:Sl}{k:Nat}{f:α->aV}{d:List (List α)}(a:fo h s k f d)(n:Nat)(g:n<=d.length):fo h ⟨s.ptr,n,s.cap⟩ k f (d.take n):=by
 obtain⟨rs,a⟩:=a;have j:=a.len;refine⟨rs.take n,a.top.take n (by omega),by simp;omega,fun i r l b e=>?_⟩;rw[List.getElem?_take]at b e;split at b
 ·rename_i c;rw[if_pos c]at e;exact a.row i r l b e
 ·cases b
end Go.Qw
namespace Wl
structure eM (d:bv):Prop where
 wait:d.wait<=d.l.length
 len:d.l.length<=d.room
 room:d.room<=512
 cell:∀c∈d.l,c.length=64
 laid:d.laid.length<=d.room
 cellL:∀c∈d.laid,c.length=64
section
variable {d:bv} {w:Pow} {b:aU}
theorem eM.new{n:Nat}(h:n<=512):eM (bv.new n):=⟨ql _,wS _,h,by simp[bv.new],wS _,by simp[bv.new]⟩
theorem eM.append(h:eM d):eM (d.append w b).2.2:=by
 obtain⟨j,i,h3,f,g,e⟩:=h;unfold bv.append;split
 ·exact⟨j,i,h3,f,g,e⟩
 ·rename_i k;split
  ·exact⟨j,i,h3,f,g,e⟩
  ·split
   ·exact⟨j,i,h3,f,g,e⟩
   ·rename_i m;split
    ·exact⟨j,i,h3,f,g,e⟩
    ·have a:∀c∈d.l++[b],c.length=64:=fun c a=>by
      rcases qF.1 a with a|a
      ·exact f c a
      ·rw[qG.1 a];omega
     split
     ·exact⟨by simp;omega,by simp;omega,h3,a,wS _,by simp⟩
     ·exact⟨by simp;omega,by simp;omega,h3,a,g,e⟩
theorem eM.sync(h:eM d):eM (d.sync w).2.2:=by
 obtain⟨f,b,h3,a,e,c⟩:=h;unfold bv.sync;split
 ·exact⟨f,b,h3,a,e,c⟩
 ·split
  ·exact⟨wS _,b,h3,a,wS _,by simp⟩
  ·exact⟨f,b,h3,a,e,c⟩
theorem eM.rewrite{l:cv}(h:eM d):eM (d.rewrite w l).2.2:=by
 obtain⟨b,a,h3,e,i,f⟩:=h;unfold bv.rewrite;split
 ·exact⟨b,a,h3,e,i,f⟩
 ·rename_i g;have g:∀c∈l,c.length=64:=by simpa using g
  split
  ·exact⟨b,a,h3,e,i,f⟩
  ·split
   ·exact⟨b,a,h3,e,i,f⟩
   ·split
    ·exact⟨b,a,h3,e,i,f⟩
    ·split
     ·exact⟨wS _,by dsimp only;omega,h3,g,wS _,by simp⟩
     ·exact⟨b,a,h3,e,by dsimp only;omega,g⟩
end
end Wl
namespace Go.Vc
open Go Wl Go.Qw
abbrev dR(s:Sl)(l:Cells):HP:=lG 23 s 5 1 az l
def kT(t:Nat)(f:bv->Sl->Sl->aV)(a:Addr)(d:bv):HP:=
 (HP.ex fun b:Sl×Sl=>(ar a t (f d b.1 b.2)).sep ((dR b.1 d.l).sep (dR b.2 d.laid))).and (eM d)
section
variable {B:aA} {h0 h h':Heap} {As:List HP} {t:Nat} {f:bv->Sl->Sl->aV} {a:Addr} {d:bv}
theorem aa.uc(H:aa B h0 h (kT t f a d::As)):eM d/\∃s b:Sl,aa B h0 h (ar a t (f d s b)::dR s d.l::dR b d.laid::As):=by
 obtain⟨H,ok⟩:=H.Ix;obtain⟨c,H⟩:=H.CC;exact⟨ok,c.1,c.2,H.ET.ET.bo 3 [2,1,0]⟩
theorem aa.Gb{s b:Sl}(ok:eM d)(H:aa B h0 h (ar a t (f d s b)::dR s d.l::dR b d.laid::As)):aa B h0 h (kT t f a d::As):=
 ((((H.bo 3 [2,1,0]).oO).oO).JE (F:=fun c:Sl×Sl=>(ar a t (f d c.1 c.2)).sep ((dR c.1 d.l).sep (dR c.2 d.laid))) (s,b)).toIx ok
end
end Go.Vc
namespace Go.Qw
open Go Go.Vc Go.Proofs Wl
abbrev gB(pw:Addr)(d:bv)(s b:Sl):aV:=[xm (some pw),xk xq d.room,s,xk xq d.wait,b,xo d.has,xo d.lost]
abbrev mg(pw a:Addr)(d:bv):HP:=kT 208 (gB pw) a d
section
variable {B:aA} {h0 h h':Heap} {As:List HP} {a pw:Addr} {d:bv} {w:Pow}
theorem VT(n:Int)(pw:Addr)(h:Heap):ab xv 82 #[xk xq n,xm (some pw)] h fun v h'=>
  (1<=n/\n<=512->∃a,v=xm (some a)/\Sp h h' [mg pw a (bv.new n.toNat)])/\(¬(1<=n/\n<=512)->v=xm none/\Sp h h' []):=by
 refine Ot n (some pw) ?_;unfold HQ;refine aT (ai (fun e=>⟨fun c=>absurd c (by omega),fun _=>⟨rfl,Sp.refl h⟩⟩) fun g=>ai (fun e=>⟨fun c=>absurd c (by omega),fun _=>⟨rfl,Sp.refl h⟩⟩) fun e2=>bF (fun e=>by cases e) fun _=>?_);refine(Sp.refl h).boxed fun a i f=>⟨fun _=>⟨a,rfl,?_⟩,fun c=>absurd (by omega) c⟩
 refine aa.Gb (s:=⟨none,0,0⟩) (b:=⟨none,0,0⟩) (eM.new (by omega)) ?_;have e:((n.toNat:Nat):Int)=n:=by omega
 have d:=((f.EX 23 5 1 az).EX 23 5 1 az).bo 3 [2,1,0];have e2:gB pw (bv.new n.toNat) ⟨none,0,0⟩ ⟨none,0,0⟩=[xm (some pw),xk xq n,xl none 0 0,xk xq 0,xl none 0 0,xo false,xo false]:=by
  simp only[gB,bv.new,e];rfl
 rw[e2];exact d
theorem Gc(s b:Sl)(c:bv)(H:aa B h0 h (ar a 208 (gB pw d s b)::dR s d.l::dR b d.laid::ez 131 pw w::As))(ok:eM d)(e:c={d with laid:=[],has:=false}):
  ab xv 218 #[xm (some a)] h fun v h'=>v=xk xq 0/\aa B h0 h' (mg pw a c::ez 131 pw w::As):=by
 refine Dj (some a) ?_;unfold sl;refine⟨a,rfl,H.store ac 0 rfl rfl 4 [xl none 0 0] rfl rfl rfl (by simp[gB]) fun i f=>?_⟩;refine⟨a,rfl,f.store ac 0 rfl rfl 5 [xo false] rfl rfl rfl (by simp[gB]) fun h3 g=>⟨rfl,?_⟩⟩;subst e;refine aa.Gb (s:=s) (b:=⟨none,0,0⟩) ⟨ok.wait,ok.len,ok.room,ok.cell,wS _,by simp⟩ ?_;exact((g.EX 23 5 1 az).bo 5 [1,2,0,4])
theorem Te(x:Sl)(row:aU)(H:aa B h0 h (mg pw a d::ez 131 pw w::As))(P:Rd h x 1 az row)(hr:row.length<=2^20):
  ab xv 145 #[xm (some a),x] h fun v h'=>v=xk xq (d.append w row).1/\aa B h0 h' (mg pw a (d.append w row).2.2::ez 131 pw (d.append w row).2.1::As):=by
 refine nr (some a) x ?_;unfold kS;have S:=P.len;obtain⟨ok,s,b,A⟩:=H.uc;have m:=A.box 0 rfl;obtain⟨Y,_⟩:=aa.EY (A.bo 4 [1]);have L:=ok.room;have O:=ok.len;have G:=ok.wait;have g:∀(e:Int),d.append w row=(e,w,d)->(Value.int .i64 e=xk xq (d.append w row).1/\aa B h0 h (mg pw a (d.append w row).2.2::ez 131 pw (d.append w row).2.1::As)):=fun e V=>by
  rw[V];exact⟨rfl,H⟩
 refine aT (bV (fun e=>g 1 (by unfold bv.append;rw[if_pos (by omega)])) fun X=>?_);have o:row.length=64:=by omega
 refine aT (bF (fun e=>by cases e) fun _=>⟨a,rfl,d.lost,m.cell rfl,bF (fun e=>g 5 ?_) fun f=>?_⟩)
 ·unfold bv.append;rw[if_neg (by omega),if_pos e]
 refine⟨a,rfl,s,m.cell rfl,a,rfl,(d.room:Int),m.cell rfl,ai (fun e=>g 7 ?_) fun M=>?_⟩
 ·unfold bv.append;rw[if_neg (by omega),if_neg (by simp[f]),if_pos (by omega)]
 obtain⟨l,Z,J⟩:=(A.bo 4 [3,0,1,2]).BZ;refine⟨a,rfl,some pw,m.cell0 rfl,(Hm l (J.box 0 rfl)).mono ?_⟩;rintro _ W ⟨rfl,rfl⟩;refine⟨_,rfl,be (fun e=>g 14 ?_) fun y=>?_⟩
 ·unfold bv.append;rw[if_neg (by omega),if_neg (by simp[f]),if_neg (by omega),if_pos (by simpa using e)]
 have j:w.off=false:=by simpa using y
 refine aT ⟨a,rfl,s,m.cell rfl,(fm x row W P).mono ?_⟩;rintro _ h4 ⟨r,rfl,U⟩;have z:=(A.cX U).bo 5 [2,0,1,3,4];have u:=z.box 2 rfl;refine⟨r,rfl,⟨u.cell rfl,trivial⟩,?_⟩;have R:=z;refine z.pW ac bD fa rfl [r] rfl (show 1*1<=2^20 by decide) rfl ⟨u.cell rfl,trivial⟩ ?_;refine z.GY ac fa (by omega) fun E h6 F=>⟨trivial,?_⟩
 have F:=F.bo 4 [1,0,2,3];refine⟨a,rfl,F.store ac 0 rfl rfl 2 [E] rfl rfl rfl (by simp[gB]) fun h7 N=>⟨trivial,?_⟩⟩;have K:=N.box 0 rfl;refine⟨a,rfl,(d.wait:Int),K.cell rfl,a,rfl,?_⟩;rw[aj ((d.wait:Int)+1)];refine N.store ac 0 rfl rfl 3 [xk xq ((d.wait:Int)+1)] rfl rfl rfl (by simp[gB]) fun h8 T=>?_;obtain⟨i,k⟩:∃i:bv,i={d with l:=d.l++[row],wait:=d.wait+1}:=⟨_,rfl⟩
 have q:eM i:=by
  subst k;refine⟨by simp;omega,by simp;omega,ok.room,fun c p=>?_,ok.laid,ok.cellL⟩;rcases qF.1 p with p|p
  ·exact ok.cell c p
  ·rw[qG.1 p];exact o
 have n:aa B h0 h8 (ar a 208 (gB pw i E b)::dR E i.l::dR b i.laid::ez 131 pw w::As):=by rw[k];exact T
 refine⟨a,rfl,some pw,(n.box 0 rfl).cell0 rfl,(Ga (n.bo 4 [3,0,1,2])).mono ?_⟩;rintro _ h9 ⟨rfl,D⟩;have D:=D.bo 4 [1,2,3,0];have t:d.append w row=if w.step.1 then(0,w.step.2,{i with laid:=[],has:=false})else(14,w.step.2,i):=by
  rw[k];unfold bv.append;rw[if_neg (by omega),if_neg (by simp[f]),if_neg (by omega),if_neg (by simp[j])]
 rw[t];refine⟨_,rfl,be (fun e=>?_) (fun e=>?_)⟩
 ·rw[e];exact⟨rfl,D.Gb q⟩
 ·rw[e];refine(Gc E b _ D q rfl).mono ?_;rintro _ Q ⟨rfl,I⟩;exact⟨0,rfl,rfl,I⟩
theorem Mj(x:Sl)(row:aU)(h:Heap)(a:Rd h x 1 az row):ab xv 145 #[xm none,x] h fun v h'=>v=xk xq (if row.length≠64 then 1 else 5)/\h'=h:=by
 refine nr none x ?_;unfold kS;have b:=a.len;refine aT (bV (fun e=>⟨by rw[if_pos (by omega)],rfl⟩) fun e=>?_);exact aT (bF (fun _=>⟨by rw[if_neg (by omega)],rfl⟩) fun e=>by cases e)
theorem Yp(H:aa B h0 h (mg pw a d::ez 131 pw w::As)):
  ab xv 220 #[xm (some a)] h fun v h'=>v=xk xq (d.sync w).1/\aa B h0 h' (mg pw a (d.sync w).2.2::ez 131 pw (d.sync w).2.1::As):=by
 refine pq (some a) ?_;unfold ma;obtain⟨ok,s,b,j⟩:=H.uc;have i:=j.box 0 rfl;refine aT (bF (fun e=>by cases e) fun _=>⟨a,rfl,d.lost,i.cell rfl,bF (fun e=>?_) fun c=>?_⟩)
 ·have:d.sync w=(5,w,d):=by unfold bv.sync;rw[if_pos e]
  rw[this];exact⟨rfl,H⟩
 refine⟨a,rfl,some pw,i.cell0 rfl,(Ga (j.bo 4 [3,0,1,2])).mono ?_⟩;rintro _ m ⟨rfl,g⟩;have g:=g.bo 4 [1,2,3,0];have f:d.sync w=if w.step.1 then(0,w.step.2,{{d with wait:=0}with laid:=[],has:=false})else(14,w.step.2,d):=by
  unfold bv.sync;rw[if_neg (by simp[c])]
 rw[f];refine⟨_,rfl,be (fun e=>?_) (fun e=>?_)⟩
 ·rw[e];exact⟨rfl,g.Gb ok⟩
 ·rw[e];refine⟨a,rfl,g.store ac 0 rfl rfl 3 [xk xq 0] rfl rfl rfl (by simp[gB]) fun h3 l=>?_⟩;refine(Gc (d:={d with wait:=0}) s b _ l ⟨wS _,ok.len,ok.room,ok.cell,ok.laid,ok.cellL⟩ rfl).mono ?_;rintro _ n ⟨rfl,k⟩;exact⟨0,rfl,rfl,k⟩
theorem QP(h:Heap):ab xv 220 #[xm none] h fun v h'=>v=xk xq 5/\h'=h:=by
 refine pq none ?_;unfold ma;exact aT (bF (fun _=>⟨rfl,rfl⟩) fun e=>by cases e)
theorem mg.box(H:aa B h0 h (mg pw a d::As)):∃s b:Sl,bZ h a 208 (gB pw d s b)/\fo h s 1 az d.l/\s.len=d.l.length:=by
 obtain⟨ok,s,b,c⟩:=H.uc;exact⟨s,b,c.box 0 rfl,(c.bo 3 [1]).MU fun _=>rfl,(aa.EY (c.bo 3 [1])).1⟩
theorem Yq(s b:Sl)(c:bZ h a 208 (gB pw d s b)):ab xv 263 #[xm (some a)] h fun v h'=>v=xk xq d.room/\h'=h:=by
 refine Dk (some a) ?_;unfold sn;exact bF (fun e=>by cases e) fun _=>⟨a,rfl,_,c.cell rfl,rfl,rfl⟩
theorem ND(s b:Sl)(f:bZ h a 208 (gB pw d s b))(c:s.len=d.l.length):ab xv 181 #[xm (some a)] h fun v h'=>v=xk xq (d.l.length:Int)/\h'=h:=by
 refine Ey (some a) ?_;unfold tm;exact bF (fun e=>by cases e) fun _=>⟨a,rfl,_,f.cell rfl,by rw[c],rfl⟩
theorem Gd(s b:Sl)(c:bZ h a 208 (gB pw d s b)):ab xv 176 #[xm (some a)] h fun v h'=>v=xo d.lost/\h'=h:=by
 refine Dg (some a) ?_;unfold si;exact bF (fun _=>⟨a,rfl,_,c.cell rfl,rfl,rfl⟩) fun e=>by cases e
theorem Jf(l:Sl)(a:Cells)(h:Heap)(f:fo h l 1 az a)(x:a.length<=2^20)(o:∀c∈a,c.length<=2^20):ab xv 264 #[l] h fun v h'=>∃r:Sl,v=r/\Sp h h' [dR r a]:=by
 refine OD l ?_;unfold Ia;have n:=f.len;refine au (fun t:Sl×Nat=>(t.1,(t.2:Int))) (fun t h'=>t.2<=a.length/\Sp h h' [dR t.1 (a.take t.2)]) (fun t=>a.length-t.2) (⟨none,0,0⟩,0) rfl ⟨by simp,by simpa using(Sp.refl h).EX 23 5 1 az⟩ ?_;rintro⟨s,i⟩ m ⟨u,d⟩;dsimp only at*;refine ai (fun e=>?_) (fun e=>?_)
 ·have b:i<a.length:=by omega
  refine(f.up d.ag).get i rfl b fun r q=>?_;have:=o _ (qh b);refine(fm r _ m q).mono ?_;rintro _ w ⟨g,rfl,j⟩;refine⟨g,rfl,?_⟩;refine aa.GY ac (d.comp j) fa (by simp;omega) fun p h3 k=>?_;refine⟨(p,i+1),by dsimp only;rw[aj _];rfl,⟨by dsimp only;omega,?_⟩,by dsimp only;omega⟩;dsimp only;rw[aH _ _ b];exact k
 ·rw[qi (by omega)]at d;exact⟨s,rfl,d⟩
theorem QQ(s b:Sl)(i:bZ h a 208 (gB pw d s b))(f:fo h s 1 az d.l)(ok:eM d):ab xv 186 #[xm (some a)] h fun v h'=>∃r:Sl,v=r/\Sp h h' [dR r d.l]:=by
 refine Ez (some a) ?_;unfold tq;have:=ok.len;have:=ok.room;refine bF (fun e=>by cases e) fun _=>⟨a,rfl,s,i.cell rfl,(Jf s d.l h f (by omega) fun c g=>by rw[ok.cell c g];decide).mono ?_⟩
 rintro _ k ⟨r,rfl,j⟩;exact⟨r,rfl,r,rfl,j⟩
end
theorem aaR(b:Sl)(l:aU)(h:Heap)(p:Rd h b 1 az l)(D:l.length<=2^40):ab xv 269 #[b] h fun v h'=>v=xk xt (kZ l).toNat/\h'=h:=by
 refine Td b ?_;unfold NA;have A:=p.len;refine au (fun t:Nat=>(((ka (l.take t)).toNat:Int),(t:Int))) (fun t h'=>t<=l.length/\h'=h) (fun t=>l.length-t) 0 rfl ⟨by omega,rfl⟩ ?_;rintro i u ⟨B,rfl⟩;refine ai (fun e=>?_) (fun e=>?_)
 ·have d:i<l.length:=by
   have w:(i:Int)<(b.len:Int):=e;omega
  refine p.bt i rfl d (l[i].toNat:Int) rfl ?_;have y:qc xt (l[i].toNat:Int)=((wG 32 l[i].toNat).toNat:Int):=by rw[XA,ya]
  rw[y,Vl];refine au (fun k:Nat=>(((dG k (ka (l.take i)^^^wG 32 l[i].toNat)).toNat:Int),(k:Int))) (fun k h'=>k<=8/\h'=u) (fun k=>8-k) 0 rfl ⟨by omega,rfl⟩ ?_;rintro k q ⟨E,rfl⟩;obtain⟨c,m⟩:∃c,c=dG k (ka (l.take i)^^^wG 32 l[i].toNat):=⟨_,rfl⟩
  dsimp only;rw[<-m];refine ai (fun e2=>⟨by decide,?_⟩) (fun e2=>?_)
  ·have a:∀n:iP,n=jc c->∃f:Nat,(((n.toNat:Nat):Int),qc xq ((k:Int)+1))=(((dG f (ka (l.take i)^^^wG 32 l[i].toNat)).toNat:Int),(f:Int))/\(f<=8/\q=q)/\8-f<8-k:=fun n z=>
    ⟨k+1,by rw[aj _,z,m];rfl,⟨by omega,rfl⟩,by omega⟩
   have s:qc xt ((qu (qk xt) (c.toNat:Int)&&&qu (qk xt) (1:Int)).toNat:Nat)=((c&&&1#32).toNat:Int):=afC c 1#32;have r:qc xt ((qu (qk xt) ((c>>>1).toNat:Int)^^^qu (qk xt) (3988292384:Int)).toNat:Nat)=(((c>>>1)^^^3988292384#32).toNat:Int):=Vl (c>>>1) 3988292384#32;rw[s,adb,r];refine cz (fun j=>a _ ?_) (fun j=>a _ ?_)
   ·unfold jc;rw[if_pos ((Uj c).1 j)]
   ·unfold jc;rw[if_neg (fun x=>j ((Uj c).2 x))]
  ·have o:k=8:=by omega
   subst o;refine⟨i+1,?_,⟨by omega,rfl⟩,by omega⟩;rw[aj _,aH _ _ d,Vk,m];rfl
 ·have g:i=l.length:=by
   have w:¬(i:Int)<(b.len:Int):=e;omega
  subst g;refine⟨?_,rfl⟩;rw[qX];exact congrArg (Value.int .u32) (Vl 4294967295#32 (ka l))
theorem Ge(kind:Int)(a:Sl)(l:aU)(h:Heap)(w:Rd h a 1 az l)(P:l.length<=2^40:=by omega):ab xv 190 #[xk xq kind,a] h fun v h'=>∃r:Sl,v=r/\Sp h h' [an 5 r 1 az (dO kind l)]:=by
 refine QM kind a ?_;unfold Kq;have L:=w.len;have f:¬(1<=kind/\kind<=255/\l.length<=55)->∃r:Sl,Value.slice none 0 0=xl r.ptr r.len r.cap/\Sp h h [an 5 r 1 az (dO kind l)]:=fun e=>by
  unfold dO;rw[if_neg e];exact⟨⟨none,0,0⟩,rfl,(Sp.refl h).nil 5 1 az⟩
 refine aT (ai (fun e=>f (by omega)) fun Q=>ai (fun e=>f (by omega)) fun e2=>ai (fun e=>f (by omega)) fun N=>?_);refine(Sp.refl h).make ac az fi (by decide) 0 rfl rfl 64 64 rfl rfl (ql _) (by decide) fun o z n p J=>?_;rw[dY];refine J.lit ac az fi rfl [87,115,1,b8 kind] rfl (show 4*1<=2^20 by decide) rfl fun v3 h3 x=>?_;refine x.ER ac 0 rfl fi (fun _=>rfl) (x.seq 1 rfl fun _=>rfl) fT fun _ t j=>⟨⟨by decide,by rw[n];decide⟩,?_⟩
 have j:Sp h t [an 5 o 1 az ([87,115,1,b8 kind]++qg 60 0)]:=by
  have:=j.cj [0];simpa using this
 refine j.PP ac 0 rfl fi (fun _=>rfl) (Seq.up w j.ag) fT 4 (by simp) rfl rfl fun _ A s=>⟨⟨by decide,by rw[p];decide⟩,?_⟩
 have G:([87,115,1,b8 kind]++qg 60 0).take 4++(l.take (([87,115,1,b8 kind]++qg 60 (0:UInt8)).length-4)++([87,115,1,b8 kind]++qg 60 0).drop (4+l.length))=dt kind l++qg 5 0:=by
  have E:([87,115,1,b8 kind]++qg 60 (0:UInt8)).length=64:=by simp
  rw[E,qi (l:=l) (by omega),<-zB];have z:([87,115,1,b8 kind]++qg 60 (0:UInt8)).drop 4=qg 60 0:=rfl;have h3:([87,115,1,b8 kind]++qg 60 (0:UInt8)).take 4=[87,115,1,b8 kind]:=rfl;rw[z,h3,List.drop_replicate];unfold dt;have t:qg (60-l.length) (0:UInt8)=qg (55-l.length) 0++qg 5 0:=by rw[List.replicate_append_replicate];congr 1;omega
  rw[t];simp[qo]
 rw[G]at s;have b:(dt kind l).length=59:=uG (by omega);have I:Rd A ⟨o.ptr,59,o.cap⟩ 1 az (dt kind l):=by
  have:=(s.seq 0 rfl fun _=>rfl).take 59 (by simp[b]);rw[zS (by omega),qi (by omega)]at this;exact this
 refine(aaR ⟨o.ptr,59,o.cap⟩ (dt kind l) A I (by omega)).mono ?_;rintro _ M ⟨rfl,rfl⟩;obtain⟨c,y⟩:∃c,c=kZ (dt kind l):=⟨_,rfl⟩
 rw[<-y];refine⟨_,rfl,?_⟩;refine au (fun i:Nat=>(i:Int)) (fun i h'=>i<=4/\Sp h h' [an 5 o 1 az (dt kind l++((ki c).take i++qg (5-i) 0))]) (fun i=>4-i) 0 rfl ⟨by omega,by simpa using s⟩ ?_;rintro i R ⟨O,u⟩;have d:=CG c;refine ai (fun e=>?_) (fun e=>?_)
 ·have K:i<4:=by
   have F:(i:Int)<4:=e;omega
  rw[aj ((8:Int)*i),aj ((59:Int)+i)];refine⟨by omega,?_⟩;have B:((8:Int)*(i:Int)).toNat=8*i:=by omega
  have H:min (8*i) (qk xt)=8*i:=by
   have:qk xt=32:=rfl;omega
  rw[B,H,dY];have D:b8 (qQ (c.toNat:Int) (2^(8*i)))=(ki c)[i]'(by omega):=by simp[ki]
  rw[D];refine u.set ac 0 rfl (fun _=>rfl) rfl (59+i) (by omega) (by simp[b];omega) ((ki c)[i]'(by omega)) rfl rfl rfl fun h8 g=>?_;refine⟨i+1,by rw[aj _];rfl,⟨by omega,?_⟩,by omega⟩;have m:(dt kind l++((ki c).take i++qg (5-i) 0)).set (59+i) ((ki c)[i]'(by omega))=dt kind l++((ki c).take (i+1)++qg (5-(i+1)) 0):=by
   rw[q7 _ _ (by omega),b,zn,q7 _ _ (by simp;omega),aH _ _];have:5-i=(5-(i+1))+1:=by omega
   rw[this,yi];simp[d,Nat.min_eq_left (show i<=4 by omega)];rw[aH _ _ (show i<(ki c).length by omega),qo];rfl
  rw[m]at g;exact g
 ·have k:i=4:=by
   have F:¬(i:Int)<4:=e;omega
  subst k;refine u.set ac 0 rfl (fun _=>rfl) rfl 63 rfl (by simp[b,d]) 165 rfl rfl rfl fun h8 g=>⟨o,rfl,?_⟩
  have q:(dt kind l++((ki c).take 4++qg (5-4) 0)).set 63 165=dO kind l:=by
   unfold dO;rw[if_pos ⟨by omega,by omega,by omega⟩,<-y,qi (by omega),q7 _ _ (by omega),b,q7 _ _ (by simp[d])];simp[d]
  rw[q]at g;exact g
end Go.Qw
namespace Go.Vc
open Go Wl
abbrev eC:=ByteArray×Int×Int×Sl
abbrev cy:=Int×Int×Int×Int×Int×Int×Sl×Sl
abbrev cl(x:eC):aV:=[xn x.1,xk xq x.2.1,xk xq x.2.2.1,x.2.2.2]
abbrev bh(x:cy):aV:=[xk xq x.1,xk xq x.2.1,xk xq x.2.2.1,xk xq x.2.2.2.1,xk xq x.2.2.2.2.1,xk xq x.2.2.2.2.2.1,x.2.2.2.2.2.2.1,x.2.2.2.2.2.2.2]
abbrev gm(x:cy):Value:=xp #[xk xq x.1,xk xq x.2.1,xk xq x.2.2.1,xk xq x.2.2.2.1,xk xq x.2.2.2.2.1,xk xq x.2.2.2.2.2.1,x.2.2.2.2.2.2.1,x.2.2.2.2.2.2.2]
def nw:iO eC Wl.cm:=⟨fun h q a b=>(a.1=b.name/\a.2.1=b.object/\a.2.2.1=b.length)/\Seq h q a.2.2.2 1 aC b.tries,fun a c=>⟨a.1,a.2.ag c⟩,fun a d=>⟨a.1,a.2.mono d⟩⟩
abbrev uu:iO Sl (List Wl.cm):=cg nw 4 cl
structure ud (h:Heap) (q:aA) (x:cy) (m:aD):Prop where
 seq:x.1=m.seq
 next:x.2.1=m.next
 p:(x.2.2.1,x.2.2.2.1,x.2.2.2.2.1)=m.p
 extra:x.2.2.2.2.2.1=m.extra
 drives:Seq h q x.2.2.2.2.2.2.1 1 aC m.drives
 aL:uu.p h q x.2.2.2.2.2.2.2 m.aL
 dcap:x.2.2.2.2.2.2.1.len<=x.2.2.2.2.2.2.1.cap
 ocap:x.2.2.2.2.2.2.2.len<=x.2.2.2.2.2.2.2.cap
abbrev gn(h:Heap)(x:cy)(m:aD):Prop:=ud h (fun b=>b<h.size) x m
theorem ud.ag{h h':Heap}{q:aA}{x:cy}{m:aD}(a:ud h q x m)(b:aR q h h'):ud h' q x m:=⟨a.seq,a.next,a.p,a.extra,a.drives.ag b,uu.loc a.aL b,a.dcap,a.ocap⟩
theorem ud.mono{h:Heap}{q q':aA}{x:cy}{m:aD}(a:ud h q x m)(c:∀b,q b->q' b):ud h q' x m:=⟨a.seq,a.next,a.p,a.extra,a.drives.mono c,uu.mono a.aL c,a.dcap,a.ocap⟩
theorem gn.up{h h':Heap}{x:cy}{m:aD}(a:gn h x m)(c:aR (fun b=>b<h.size) h h'):gn h' x m:=(ud.ag a c).mono fun _ d=>qL d c.1
def fS(x:cy)(m:aD):HP:=⟨fun h q=>ud h q x m,fun a b=>a.ag b,fun a c=>a.mono c⟩
theorem Uw:∀x,∀c∈cl x,c.oneCell'=true:=by intro x c a;simp[cl]at a;rcases a with rfl|rfl|rfl|rfl<;>rfl
end Go.Vc
namespace Go.Qw
open Go Go.Vc Go.Proofs Wl
theorem rh(n a b:Int)(h:Heap):ab xv 255 #[xk xq n,xk xq a,xk xq b] h fun v h'=>v=xo (fh n a b)/\h'=h:=by
 refine Ky n a b ?_;unfold Ej fh;refine ai (fun e=>⟨?_,rfl⟩) (fun e=>⟨?_,rfl⟩)
 ·rw[decide_eq_true (show a<=n from e)];rfl
 ·rw[decide_eq_false (show¬a<=n from e)];rfl
theorem NE(s:ByteArray)(h:Heap)(F:s.size<=2^40):ab xv 221 #[xn s] h fun v h'=>v=xo (lH s)/\Sp h h' []:=by
 refine OA s ?_;unfold HX;refine adc ac ⟨_,rfl,rfl⟩ ⟨_,rfl,rfl⟩ ⟨_,rfl,rfl⟩ s fun r z m=>?_;have u:=m.rd 0 rfl;have D:=u.len;have B:=CH s;refine au (fun i:Nat=>(i:Int)) (fun i h'=>i<=s.size/\h'=z/\∀c∈(iu s).take i,lS c=true) (fun i=>s.size-i) 0 rfl ⟨by omega,rfl,by simp⟩ ?_;rintro i q ⟨E,rfl,b⟩;refine ai (fun e=>?_) (fun e=>?_)
 ·have g:i<(iu s).length:=by
   have A:(i:Int)<(r.len:Int):=e;omega
  refine u.bt i rfl g ((iu s)[i].toNat:Int) rfl ?_;obtain⟨c,p⟩:∃c,c=(iu s)[i]:=⟨_,rfl⟩
  rw[<-p];have mw:lS c=true->∃n:Nat,qc xq ((i:Int)+1)=(n:Int)/\(n<=s.size/\q=q/\∀c∈(iu s).take n,lS c=true)/\s.size-n<s.size-i:=fun o=>
   ⟨i+1,by rw[aj _];rfl,⟨by omega,rfl,fun x j=>by
    rw[aH _ _ g]at j;rcases qF.1 j with j|j
    ·exact b x j
    ·rw[qG.1 j,<-p];exact o⟩,by omega⟩
  have f:lS c=false->Value.bool false=xo (lH s)/\Sp h q []:=fun o=>by
   refine⟨?_,m.cj []⟩;unfold lH;have:s.data.toList.all lS=false:=yt.2 ⟨c,by rw[p];exact qh g,by rw[o];simp⟩;rw[this];rfl
  have a:lS c=true↔((97<=(c.toNat:Int)/\(c.toNat:Int)<=122)∨(48<=(c.toNat:Int)/\(c.toNat:Int)<=57)∨(c.toNat:Int)=45):=by
   unfold lS;simp[or_assoc];omega
  have d:lS c=false↔¬((97<=(c.toNat:Int)/\(c.toNat:Int)<=122)∨(48<=(c.toNat:Int)/\(c.toNat:Int)<=57)∨(c.toNat:Int)=45):=by
   rw[<-a];cases lS c<;>simp
  refine ai (fun t=>ai (fun e2=>bV (fun l=>f (d.2 (by omega))) fun l=>mw (a.2 (by omega))) fun e2=>ai (fun l=>bV (fun k=>f (d.2 (by omega))) fun k=>mw (a.2 (by omega))) fun l=>mw (a.2 (by omega))) fun t=>ai (fun e2=>ai (fun l=>bV (fun k=>f (d.2 (by omega))) fun k=>mw (a.2 (by omega))) fun l=>ai (fun k=>bV (fun y=>f (d.2 (by omega))) fun y=>mw (a.2 (by omega))) fun k=>mw (a.2 (by omega))) fun e2=>mw (a.2 (by omega))
 ·have A:¬(i:Int)<(r.len:Int):=e;rw[qi (by omega)]at b;have w:s.data.toList.all lS=true:=qN.2 b;refine ai (fun t=>⟨?_,m.cj []⟩) (fun t=>⟨?_,m.cj []⟩)
  ·unfold lH;rw[w,decide_eq_true (show 1<=s.size by omega)];congr 1;simp;omega
  ·unfold lH;rw[w,decide_eq_false (show¬1<=s.size by omega)];rfl
theorem Yr(s:Sl)(l:aB)(a:Int)(h:Heap)(p:Rd h s 1 aC l)(x:l.length<=2^40):ab xv 256 #[s,xk xq a] h fun v h'=>v=xo (oT l a)/\h'=h:=by
 refine OC s a ?_;unfold HZ;have w:=p.len;refine au (fun i:Nat=>(i:Int)) (fun i h'=>i<=l.length/\h'=h/\∀j,j<i->jd l a j=true) (fun i=>l.length-i) 0 rfl ⟨by omega,rfl,by omega⟩ ?_;rintro i d ⟨y,rfl,b⟩;refine ai (fun e=>?_) (fun e=>?_)
 ·have c:i<l.length:=by
   have u:(i:Int)<(s.len:Int):=e;omega
  refine p.bt i rfl c l[i] rfl ?_;have m:l.getD i 0=l[i]:=getD_lt c;have k:jd l a i=false->Value.bool false=xo (oT l a)/\d=d:=fun o=>⟨by unfold oT;rw[Fa c o],rfl⟩
  have mw:jd l a i=true->∃n:Nat,qc xq ((i:Int)+1)=(n:Int)/\(n<=l.length/\d=d/\∀j,j<n->jd l a j=true)/\l.length-n<l.length-i:=fun o=>
   ⟨i+1,by rw[aj _];rfl,⟨by omega,rfl,fun j r=>by
    by_cases q:j=i
    ·rw[q];exact o
    ·exact b j (by omega)⟩,by omega⟩
  refine(rh l[i] 0 a d).mono ?_;rintro _ _ ⟨rfl,rfl⟩;refine⟨_,rfl,be (fun g=>k (by unfold jd;rw[m,g];rfl)) fun g=>ai (fun e2=>?_) fun e2=>mw (by unfold jd;rw[m,g,decide_eq_true (show i=0 by omega)];rfl)⟩;rw[aj ((i:Int)-1)];refine p.bt (i-1) (by omega) (by omega) (l[i-1]'(by omega)) rfl ?_;have f:l.getD (i-1) 0=l[i-1]'(by omega):=getD_lt;refine ai (fun t=>k ?_) (fun t=>mw ?_)
  ·unfold jd;rw[m,f,g,decide_eq_false (show¬i=0 by omega),decide_eq_false (by omega)];rfl
  ·unfold jd;rw[m,f,g,decide_eq_true (show l[i-1]'(by omega)<l[i]by omega)];simp
 ·have u:¬(i:Int)<(s.len:Int):=e;exact⟨by unfold oT;rw[sM fun j r=>b j (by omega)],rfl⟩
theorem ue(p:Pm)(n:Int)(h:Heap)(q:n<=2^40:=by omega):ab xv 149 #[ir p,xk xq n] h fun v h'=>v=xk xq (countP p n)/\Sp h h' []:=by
 refine Kj p n ?_;unfold DY;refine(Sp.refl h).boxed fun m f d=>?_;refine aT ⟨p,(d.box 0 rfl).aF _ rfl,(dz p f).mono ?_⟩;rintro _ k ⟨rfl,i⟩;have b:=d.up i.ag;refine⟨_,rfl,be (fun e=>⟨?_,b.cj []⟩) fun g=>ai (fun e=>⟨?_,b.cj []⟩) fun e=>?_⟩
 ·unfold countP;rw[e];rfl
 ·unfold countP;rw[decide_eq_false (show¬0<n by omega),Bool.and_false];rfl
 ·have j:=(bC p).1 g;refine⟨p,(b.box 0 rfl).aF _ rfl,?_⟩;refine(BS p (R:=fun v h'=>v=xk xq (p.1*p.2.2)/\Sp h h' []) ?_).mono ?_
  ·unfold vD;refine b.boxed fun o h3 c=>⟨p.1,(c.box 1 rfl).cell0 rfl,p.2.2,(c.box 1 rfl).cell rfl,?_,c.cj []⟩
   have r:p.1*p.2.2<=16*24:=yW (by omega) (by omega) (by omega) (by omega);have a:0<=p.1*p.2.2:=vB (by omega) (by omega);rw[aj _]
  ·rintro _ h3 ⟨rfl,l⟩;have a:0<p.1*p.2.2:=Int.mul_pos (by omega) (by omega);refine⟨_,rfl,Int.ne_of_gt a,?_,l⟩;have f:(n-1)/(p.1*p.2.2)<=n-1:=Int.ediv_le_self _ (by omega);have k:0<=(n-1)/(p.1*p.2.2):=Int.ediv_nonneg (by omega) (by omega);rw[aj (n-1),Int.tdiv_eq_ediv_of_nonneg (by omega),aj ((n-1)/(p.1*p.2.2)),aj _];unfold countP;rw[g,decide_eq_true (show 0<n by omega)];rfl
theorem Tf(s:Sl)(l:aB)(h:Heap)(f:Rd h s 1 aC l)(k:l.length<=2^40):ab xv 173 #[s,.func (.func 305) #[] #[]] h fun v h'=>v=xo (!l.all (fh · 0 15))/\h'=h:=by
 refine jr s (305,#[],#[]) ?_;unfold gA;have j:=f.len;refine(gM s (305,#[],#[]) (R:=fun v h'=>(∃i:Int,v=xk xq i/\(decide (i>=0)=!l.all (fh · 0 15)))/\h'=h) ?_).mono ?_
 ·unfold fN;refine au (fun i:Nat=>(i:Int)) (fun i h'=>i<=l.length/\(l.take i).all (fh · 0 15)=true/\h'=h) (fun i=>l.length-i) 0 rfl ⟨by omega,by simp,rfl⟩ ?_;rintro i c ⟨d,a,rfl⟩;refine ai (fun e=>?_) (fun e=>?_)
  ·have b:i<l.length:=by
    have g:(i:Int)<(s.len:Int):=e;omega
   refine f.bt i rfl b l[i] rfl (eS (by rfl) ?_);refine(Jd l[i] (R:=fun v h'=>v=xo (!fh l[i] 0 15)/\h'=c) ?_).mono ?_
   ·unfold BX;refine(rh l[i] 0 15 c).mono ?_;rintro _ _ ⟨rfl,rfl⟩;exact⟨_,rfl,rfl,rfl⟩
   ·rintro _ _ ⟨rfl,rfl⟩;refine⟨_,rfl,be (fun e2=>?_) (fun e2=>?_)⟩
    ·refine⟨⟨i,rfl,?_⟩,rfl⟩;rw[decide_eq_true (show(i:Int)>=0 by omega)];have:l.all (fh · 0 15)=false:=yt.2 ⟨_,qh b,by rw[e2];simp⟩;rw[this];rfl
    ·refine⟨i+1,by rw[aj _];rfl,⟨by omega,?_,rfl⟩,by omega⟩;rw[aH _ _ b,yL,a];simp[e2]
  ·have g:¬(i:Int)<(s.len:Int):=e;refine⟨⟨-1,rfl,?_⟩,rfl⟩;rw[qi (by omega)]at a;rw[a];rfl
 ·rintro _ c ⟨⟨i,rfl,d⟩,rfl⟩;exact⟨i,rfl,by rw[d],rfl⟩
end Go.Qw
namespace Wl
structure dM (m:aD):Prop where
 dr:m.drives.length<=2^30
 ob:m.aL.length<=2^30
 nm:∀e∈m.aL,e.name.size<=2^30/\e.tries.length<=2^30
end Wl
namespace Go.Vc
open Go
theorem addr_add(a:Addr)(i j:Nat):(a.add i).add j=a.add (i+j):=by
 unfold Addr.add;by_cases c:i=0<;>by_cases b:j=0<;>simp[c,b,yy]
theorem bZ.wn{h:Heap}{a:Addr}{e:TypeId}{b:aV}{v:Value}(c:bZ h a e b)(i j:Nat)(d:b[i+j]?=some v):cellOf h ((a.add i).add j)=some v:=by
 rw[addr_add];exact c.cell d
theorem bZ.Ho{h:Heap}{a:Addr}{e:TypeId}{b:aV}{u v w:Value}(c:bZ h a e b)(i:Nat)(f:b[i]?=some u)(g:b[i+1]?=some v)(d:b[i+2]?=some w):al h (a.add i) 0 [u,v,w]:=
 ⟨c.wn i 0 f,c.wn i 1 g,c.wn i 2 d,trivial⟩
end Go.Vc
namespace Go.Qw
open Go Go.Vc Go.Proofs Wl
abbrev aaS:bN C.toBq 134 170 4 [xn ⟨#[]⟩,xk xq 0,xk xq 0,xl none 0 0] 56:=⟨_,_,rfl,rfl,rfl,rfl,rfl,rfl⟩
theorem VU(x:cy)(m:aD)(e:eC)(E:Wl.cm)(h:Heap)(l:gn h x m)(B:fg nw h e E)(D:kb m=true)(O:E.name.size<=2^30)(Q:E.tries.length<=2^30):
  ab xv 257 #[gm x,xp #[xn e.1,xk xq e.2.1,xk xq e.2.2.1,e.2.2.2]] h fun v h'=>v=xo (gd m E)/\Sp h h' []:=by
 refine Me x e ?_;unfold FV;obtain⟨_,J,g,_⟩:=PR D;have F:=(bC m.p).1 g;obtain⟨⟨H,e2,t⟩,r⟩:=B;have f:x.2.2.1=m.p.1:=congrArg (·.1) l.p;have q:x.2.2.2.1=m.p.2.1:=congrArg (·.2.1) l.p;have d:x.2.2.2.2.1=m.p.2.2:=congrArg (·.2.2) l.p;have P:m.p.1*m.p.2.2<=16*24:=yW (by omega) (by omega) (by omega) (by omega);have y:0<=m.p.1*m.p.2.2:=vB (by omega) (by omega);refine(Sp.refl h).boxed fun L M z=>?_;refine z.boxed fun N G w=>?_;have i:∀{h':Heap} {As:List HP},Sp h h' As->gd m E=false->Value.bool false=xo (gd m E)/\Sp h h' []:=fun{h' As} H' c=>⟨by rw[c],.zip H'.ag⟩
 refine aT ⟨E.name,by rw[<-H];exact(w.box 1 rfl).cell0 rfl,(NE E.name G (by omega)).mono ?_⟩;rintro _ h3 ⟨rfl,K⟩;have a:=w.up K.ag;refine⟨_,rfl,be (fun b=>i a (by unfold gd;rw[b];rfl)) fun j=>?_⟩;refine⟨E.object,by rw[<-e2];exact(a.box 1 rfl).cell rfl,m.next,by rw[<-l.next];exact(a.box 0 rfl).cell rfl,?_⟩;rw[aj (m.next-1)];refine(rh E.object 0 (m.next-1) h3).mono ?_;rintro _ _ ⟨rfl,rfl⟩;refine⟨_,rfl,be (fun b=>i a (by unfold gd;rw[j,b];rfl)) fun o=>?_⟩;have c:=a.box 0 rfl;refine⟨E.length,by rw[<-t];exact(a.box 1 rfl).cell rfl,m.p.1,by rw[<-f];exact c.cell rfl,m.p.2.2,by rw[<-d];exact c.wn 2 2 rfl,?_⟩;rw[aj (m.p.1*m.p.2.2),aj (m.p.1*m.p.2.2*8)];refine(rh E.length 0 (m.p.1*m.p.2.2*8) _).mono ?_;rintro _ _ ⟨rfl,rfl⟩;refine⟨_,rfl,be (fun b=>i a (by unfold gd;rw[j,o,b];rfl)) fun k=>?_⟩;have u:0<=E.length/\E.length<=m.p.1*m.p.2.2*8:=by unfold fh at k;simpa using k
 refine⟨e.2.2.2,(a.box 1 rfl).cell rfl,?_⟩;refine(Tf e.2.2.2 E.tries _ (Seq.up r a.ag) (by omega)).mono ?_;rintro _ _ ⟨rfl,rfl⟩;refine⟨_,rfl,be (fun b=>?_) (fun b=>⟨trivial,i a ?_⟩)⟩
 ·have n:E.tries.all (fh · 0 15)=true:=by simpa using b
  refine⟨e.2.2.2,(a.box 1 rfl).cell rfl,m.p,?_,E.length,by rw[<-t];exact(a.box 1 rfl).cell rfl,?_⟩
  ·rw[<-f,<-q,<-d];exact c.Ho 2 rfl rfl rfl
  ·refine(ue m.p E.length _).mono ?_;rintro _ R ⟨rfl,A⟩;have s:=a.up A.ag;refine⟨_,rfl,⟨(s.box 1 rfl).cell rfl,trivial⟩,?_,.zip s.ag⟩;unfold gd;have I:=r.len;rw[j,o,k,n,I];simp;rfl
 ·have n:E.tries.all (fh · 0 15)=false:=by simpa using b
  unfold gd;rw[j,o,k,n];rfl
theorem Tg(a:Addr)(e:eC)(l:Sl)(b:List Wl.cm)(h:Heap)(p:bZ h a 170 (cl e))(o:fg uu h l b)(F:b.length<=2^30):
  ab xv 258 #[l,.func (.func 259) #[] #[xm (some a)]] h fun v h'=>v=xo (b.any fun y=>decide (y.object=e.2.1))/\Sp h h' []:=by
 refine fR l (259,#[],#[xm (some a)]) ?_;unfold dV;refine(gj l (259,#[],#[xm (some a)]) (R:=fun v h'=>(∃i:Int,v=xk xq i/\(decide (i>=0)=b.any fun y=>decide (y.object=e.2.1)))/\Sp h h' []) ?_).mono ?_
 ·unfold eO;obtain⟨q,B,E,z⟩:=cg.nC o;have u:=cg.len o;refine au (fun i:Nat=>(i:Int)) (fun i h'=>i<=b.length/\(b.take i).any (fun y=>decide (y.object=e.2.1))=false/\Sp h h' []) (fun i=>b.length-i) 0 rfl ⟨by omega,by simp,Sp.refl h⟩ ?_;rintro i k ⟨r,c,j⟩;refine ai (fun m=>?_) (fun m=>?_)
  ·have d:i<b.length:=by
    have t:(i:Int)<(l.len:Int):=m;omega
   obtain⟨⟨_,A,_⟩,_⟩:=z i (by omega) d;refine(Seq.up B j.ag).ea (g:=cl) i rfl (by omega) (q[i]'(by omega)) rfl (eS (by rfl) ?_);refine(Mf (q[i]'(by omega)) a (R:=fun v h'=>v=xo (b[i].object==e.2.1)/\Sp k h' []) ?_).mono ?_
   ·unfold FW;refine(Sp.refl k).boxed fun D w f=>?_;have n:=p.ag (up j.ag f.ag) p.lt;exact⟨b[i].object,by rw[<-A];exact(f.box 0 rfl).cell rfl,e.2.1,n.cell rfl,rfl,.zip f.ag⟩
   ·rintro _ w ⟨rfl,s⟩;have f:=j.up s.ag;refine⟨_,rfl,cz (fun e2=>?_) (fun e2=>?_)⟩
    ·refine⟨⟨i,rfl,?_⟩,f⟩;rw[decide_eq_true (show(i:Int)>=0 by omega)];exact(yb.2 ⟨_,qh d,by simpa using e2⟩).symm
    ·refine⟨i+1,by rw[aj _];rfl,⟨by omega,?_,f⟩,by omega⟩;rw[aH _ _ d,y7,c];simpa using e2
  ·have t:¬(i:Int)<(l.len:Int):=m;refine⟨⟨-1,rfl,?_⟩,j⟩;rw[qi (by omega)]at c;rw[c];rfl
 ·rintro _ k ⟨⟨i,rfl,r⟩,x⟩;exact⟨i,rfl,by rw[r],x⟩
theorem QR(x:cy)(m:aD)(h:Heap)(d:gn h x m)(Q:dM m):ab xv 169 #[gm x] h fun v h'=>v=xo (bQ m)/\Sp h h' []:=by
 refine QK x ?_;unfold Km;refine(Sp.refl h).boxed fun U h1 F=>?_;have r:=F.box 0 rfl;have J:x.2.2.1=m.p.1:=congrArg (·.1) d.p;have O:x.2.2.2.1=m.p.2.1:=congrArg (·.2.1) d.p;have I:x.2.2.2.2.1=m.p.2.2:=congrArg (·.2.2) d.p;have s:∀{h':Heap} {As:List HP},Sp h h' As->bQ m=false->Value.bool false=xo (bQ m)/\Sp h h' []:=fun{h' As} H' r=>⟨by rw[r],.zip H'.ag⟩
 refine aT ⟨m.seq,by rw[<-d.seq];exact r.cell0 rfl,(rh m.seq 1 2147483647 h1).mono ?_⟩;rintro _ _ ⟨rfl,rfl⟩;refine⟨_,rfl,be (fun b=>s F (by unfold bQ kb;rw[b];rfl)) fun E=>?_⟩;refine⟨m.next,by rw[<-d.next];exact r.cell rfl,(rh m.next 0 16777216 _).mono ?_⟩;rintro _ _ ⟨rfl,rfl⟩;refine⟨_,rfl,be (fun b=>s F (by unfold bQ kb;rw[E,b];rfl)) fun S=>?_⟩;refine⟨m.p,by rw[<-J,<-O,<-I];exact r.Ho 2 rfl rfl rfl,(dz m.p _).mono ?_⟩;rintro _ h2 ⟨rfl,R2⟩;have o:=F.up R2.ag;refine⟨_,rfl,be (fun b=>s o (by unfold bQ kb;rw[E,S,b];rfl)) fun W=>?_⟩;refine⟨m.extra,by rw[<-d.extra];exact(o.box 0 rfl).cell rfl,(rh m.extra 0 16 _).mono ?_⟩;rintro _ _ ⟨rfl,rfl⟩;refine⟨_,rfl,be (fun b=>s o (by unfold bQ kb;rw[E,S,W,b];rfl)) fun b4=>?_⟩;have G:kb m=true:=by unfold kb;rw[E,S,W,b4];rfl
 have P:=d.up o.ag;have A:=o.box 0 rfl;have ah:=Q.dr;have am:=Q.ob;refine aT ⟨_,A.cell rfl,(Yr _ m.drives 63 _ P.drives (by omega)).mono ?_⟩;rintro _ _ ⟨rfl,rfl⟩;refine⟨_,rfl,be (fun b=>s o (by unfold bQ;rw[G,b];rfl)) fun b5=>?_⟩;have X:=cg.len d.aL;refine⟨x.2.2.2.2.2.2.2,A.cell rfl,ai (fun e=>s o ?_) fun ap=>?_⟩
 ·unfold bQ;rw[G,b5,decide_eq_false (by omega)];rfl
 have T:m.aL.length<=12:=by omega
 refine⟨x.2.2.2.2.2.2.2,A.cell rfl,?_⟩;obtain⟨l,D⟩:=cg.fix d.aL;have ad:=D.2.1;refine au (fun i:Nat=>(i:Int)) (fun i h'=>i<=m.aL.length/\(∀j,j<i->oU m j=true)/\Sp h h' [ar U 136 (bh x)]) (fun i=>m.aL.length-i) 0 rfl ⟨by omega,by omega,o⟩ ?_;rintro i h3 ⟨hi,q,N⟩;refine ai (fun e=>?_) (fun e=>?_)
 ·have f:i<m.aL.length:=by
   have e':(i:Int)<(x.2.2.2.2.2.2.2.len:Int):=e;omega
  have B:=Q.nm _ (qh f);have c:oS m.aL i=m.aL[i]:=nP f;have z:∀{h':Heap} {As:List HP},Sp h h' As->oU m i=false->Value.bool false=xo (bQ m)/\Sp h h' []:=fun{h' As} H' r=>s H' (by unfold bQ;rw[Fa f r];simp);have F3:=mY.up D N.ag;refine F3.1.ea (g:=cl) i rfl (by omega) (l[i]'(by omega)) rfl ?_;refine N.alloc ac rfl fun y h4 H4=>?_;refine H4.storeAll ac 1 rfl rfl (cl (l[i]'(by omega))) rfl rfl rfl rfl fun Y u=>?_;have u:Sp h Y [ar U 136 (bh x),ar y 170 (cl (l[i]'(by omega)))]:=u;have V:=mY.up D u.ag;obtain⟨⟨y1,y2,y3⟩,y4⟩:=Fix.row V f;obtain⟨b6,k⟩:∃b,b=(decide (i=0)||eG (oS m.aL (i-1)).name (oS m.aL i).name):=⟨_,rfl⟩
  refine bO (fun _ h'=>gd m m.aL[i]=true/\b6=true/\Sp h h' [ar U 136 (bh x),ar y 170 (cl (l[i]'(by omega)))]) ?_ ?_
  ·refine⟨x,(u.box 0 rfl).aF _ rfl,l[i]'(by omega),(u.box 1 rfl).aF _ rfl,?_⟩;refine(VU x m (l[i]'(by omega)) m.aL[i] Y (d.up u.ag) (Fix.row V f) G B.1 B.2).mono ?_;rintro _ Z ⟨rfl,R6⟩;have a:=u.up R6.ag;have H:=mY.up D a.ag;refine⟨_,rfl,trivial,be (fun b=>z a (by unfold oU;rw[c,b];rfl)) fun b=>ai (fun e2=>?_) fun e2=>⟨b,by rw[k,decide_eq_true (show i=0 by omega)];rfl,a⟩⟩;rw[aj ((i:Int)-1)];obtain⟨M,ha,zz,hc,rfl⟩:=H.1.ea (g:=cl) (i:=(i:Int)-1) (i-1) (by omega) (by omega) (l[i-1]'(by omega)) rfl (K:=fun t=>t=l[i-1]'(by omega)) rfl;refine⟨x.2.2.2.2.2.2.2,(a.box 0 rfl).cell rfl,M,ha,m.aL[i-1].name,?_,m.aL[i].name,?_,?_⟩
   ·rw[<-(Fix.row H (show i-1<m.aL.length by omega)).1.1];exact hc.1
   ·rw[<-y1];exact(a.box 1 rfl).cell0 rfl
   ·have n:oS m.aL (i-1)=m.aL[i-1]:=nP;rw[c,n]at k;refine be (fun w=>z a ?_) (fun w=>⟨b,?_,a⟩)
    ·unfold oU;rw[c,n,b,decide_eq_false (show¬i=0 by omega)];unfold eG;rw[w];rfl
    ·rw[k];unfold eG;rw[w];simp
  ·rintro _ Z ⟨b,R,a⟩;have H:=mY.up D a.ag;refine⟨x.2.2.2.2.2.2.2,(a.box 0 rfl).cell rfl,⟨by omega,by have:=d.ocap;omega⟩,?_⟩;rw[qp];refine(Tg y (l[i]'(by omega)) ⟨x.2.2.2.2.2.2.2.ptr,i,x.2.2.2.2.2.2.2.cap⟩ (m.aL.take i) Z (a.box 1 rfl) (cg.take H.elt i (by omega)) (by simp;omega)).mono ?_;rintro _ h7 ⟨rfl,R7⟩;have H7:=a.up R7.ag;rw[y2];refine⟨_,rfl,bF (fun w=>z H7 ?_) fun w=>?_⟩
   ·unfold oU;rw[c,w];simp
   ·refine⟨i+1,by rw[aj _];rfl,⟨by omega,fun j hj=>?_,H7.cj [0]⟩,by omega⟩;by_cases L:j=i
    ·subst L;rw[R]at k;unfold oU;rw[<-k,c,b,w];rfl
    ·exact q j (by omega)
 ·have e':¬(i:Int)<(x.2.2.2.2.2.2.2.len:Int):=e;refine⟨?_,.zip N.ag⟩;unfold bQ;rw[G,b5,decide_eq_true T,sM fun j hj=>q j (by omega)];rfl
section
variable {B:aA} {h0 h:Heap} {As:List HP}
theorem rz(s:Sl)(l:aU)(n:Int)(k:Nat)(x:k<=4)(q:l.length<=2^20)(H:aa B h0 h (an 5 s 1 az l::As)):
  ab xv 216 #[s,xk xq n,xk xq k] h fun v h'=>∃b:Sl,v=b/\aa B h0 h' (an 5 b 1 az (l++bL n k)::As):=by
 refine Ks s n k ?_;unfold Ee;have f:=ci n k;refine au (fun t:Sl×Nat=>(t.1,(k:Int)-1-t.2)) (fun t h'=>t.2<=k/\aa B h0 h' (an 5 t.1 1 az (l++(bL n k).take t.2)::As)) (fun t=>k-t.2) (s,0) (by rw[aj _];simp) ⟨by simp,by simpa using H⟩ ?_;rintro⟨o,j⟩ u ⟨r,a⟩;dsimp only at*;refine ai (fun e=>?_) (fun e=>?_)
 ·have g:j<k:=by omega
  rw[aj ((8:Int)*((k:Int)-1-j))];refine⟨by omega,?_⟩;have m:((8:Int)*((k:Int)-1-j)).toNat=8*(k-1-j):=by omega
  have i:min (8*(k-1-j)) (qk xq)=8*(k-1-j):=by
   have:qk xq=64:=rfl;omega
  rw[m,i,dY];have c:b8 (qQ n (2^(8*(k-1-j))))=(bL n k)[j]'(by omega):=by simp[bL]
  rw[c];refine a.push ac 0 rfl fi rfl (by decide) (fun _=>rfl) fT ((bL n k)[j]'(by omega)) rfl (by decide) (by simp;omega) fun p w d=>?_;refine⟨(p,j+1),by dsimp only;rw[aj _];congr 1;omega,⟨by dsimp only;omega,?_⟩,by dsimp only;omega⟩;dsimp only;rw[aH _ _ (show j<(bL n k).length by omega),<-qo];exact d
 ·rw[qi (by omega)]at a;exact⟨o,rfl,a⟩
theorem KE(b:Sl)(l:aB)(o:Sl)(c:aU)(H:aa B h0 h (an 5 o 1 az c::As))(r:St B h0 As fun h=>Rd h b 1 aC l)(G:c.length<=2^30)(D:l.length<=2^30){K:Sl×Int->Heap->Prop}
  (x:∀q h',aa B h0 h' (an 5 q 1 az (c++l.map b8)::As)->K (q,(l.length:Int)) h'):
  aG (σ:=Sl×Int) (fun a w h8=>
 Br (decide (a.2<((b.len:Nat):Int)))
 (∃j:Addr,(b.ptr=some j/\0<=a.2/\a.2<((b.len:Nat):Int))/\
 ∃g:Int,cellOf h8 (j.add (a.2.toNat*1))=some (xk xq g)/\
 aw xv (Instr.buildSlice 23 1 #[(0,(xk xr (qc xr g)))]) (.one (.sc .slc)) h8 fun f y=>
 aw xv (Builtin.append_ #[23,23] 23 #[(xl a.1.ptr a.1.len a.1.cap),(xl f.ptr f.len f.cap)]) (.one (.sc .slc)) y fun d n=>
 w ((⟨d.ptr,d.len,d.cap⟩:Sl),qc xq (a.2+(1:Int))) n)
 (K a h8)) (o,(0:Int)) h:=by
 have v:b.len=l.length:=(r.at [_] H).len;refine au (fun t:Sl×Nat=>(t.1,(t.2:Int))) (fun t h'=>t.2<=l.length/\aa B h0 h' (an 5 t.1 1 az (c++(l.take t.2).map b8)::As)) (fun t=>l.length-t.2) (o,0) rfl ⟨by simp,by simpa using H⟩ ?_;rintro⟨u,i⟩ s ⟨E,m⟩;dsimp only at*;refine ai (fun e=>?_) (fun e=>?_)
 ·have k:i<l.length:=by omega
  refine(r.at [_] m).bt i rfl k l[i] rfl ?_;rw[dY];refine m.push ac 0 rfl fi rfl (by decide) (fun _=>rfl) fT (b8 l[i]) rfl (by decide) (by simp;omega) fun z F A=>?_;refine⟨(z,i+1),by dsimp only;rw[aj _];rfl,⟨by dsimp only;omega,?_⟩,by dsimp only;omega⟩;dsimp only;rw[aH _ _ k,qW,<-qo];exact A
 ·have p:i=l.length:=by omega
  subst p;rw[qX]at m;exact x u s m
end
theorem adv{m:aD}(a:bQ m=true){i:Nat}(b:i<m.aL.length):gd m m.aL[i]=true:=by
 unfold bQ at a;simp only[qA]at a;have:=qN.1 a.2.2.2 i (qI.2 b);unfold oU at this;simp only[qA]at this;have c:=this.1
 rwa [nP b]at c
theorem Ys{m:aD}(c:bQ m=true){i:Nat}(e:i<m.aL.length):m.aL[i].name.size<=12/\m.aL[i].tries.length<=3073:=by
 have b:=adv c e;unfold gd lH at b;simp only[qA,decide_eq_true_eq]at b;obtain⟨⟨_,_,h⟩,_,h3,_,d⟩:=b;refine⟨h,?_⟩;obtain⟨_,_,a,_⟩:=PR (XC c);have f:=(bC m.p).1 a;unfold fh at h3;simp only[qA,decide_eq_true_eq]at h3;have j:m.p.1*m.p.2.2<=16*24:=yW (by omega) (by omega) (by omega) (by omega);unfold countP at d;split at d
 ·have:(m.aL[i].length-1)/(m.p.1*m.p.2.2)<=m.aL[i].length-1:=Int.ediv_le_self _ (by rename_i g;simp at g;omega);omega
 ·omega
theorem Yt{m:aD}(b:bQ m=true){i:Nat}(a:i<m.aL.length):(iB m.aL[i]).length<=4000:=by
 have:=Ys b a;unfold iB;simp[ci];have:m.aL[i].name.data.size=m.aL[i].name.size:=rfl;omega
theorem Gg{m:aD}(a:bQ m=true):∀n,n<=m.aL.length->((m.aL.take n).flatMap iB).length<=n*4000
 |0,_=>by simp
 |n+1,hn=>by
  rw[aH _ _ (show n<m.aL.length by omega),ze,qw];have c:=Gg a n (by omega);have b:=Yt a (show n<m.aL.length by omega);have h3:([m.aL[n]].flatMap iB).length=(iB m.aL[n]).length:=by rw[zq,yj,qU]
  omega
theorem Jg{m:aD}(a:bQ m=true):m.aL.length<=12:=by
 unfold bQ at a;simp only[qA,decide_eq_true_eq]at a;exact a.2.2.1
theorem Jh(m:aD)(h:dM m):(gC m).length<=100000:=by
 unfold gC;split
 ·rename_i d;have f:=d;unfold bQ at f;simp only[qA,decide_eq_true_eq]at f;have j:m.drives.length<=64:=by
   have a:=f.2.1;unfold oT at a;rw[qN]at a;by_cases g:m.drives.length<=64
   ·exact g
   ·exfalso;have c:∀i,i<m.drives.length->(i:Int)<=m.drives.getD i 0:=fun i=>by
     induction i with
     |zero=>
      intro e;have:=a 0 (qI.2 e);unfold jd fh at this;simp at this;simpa using this.1
     |succ i ih=>
      intro e;have:=a (i+1) (qI.2 e);have h3:=ih (by omega);unfold jd fh at this;simp at this;have b:=this.2;simp only[qe]at h3⊢;omega
    have h3:=c 64 (by omega);have b:=a 64 (qI.2 (by omega));unfold jd fh at b;simp at b;simp only[qe]at h3;omega
  have k:(m.aL.flatMap iB).length<=12*4000:=by
   have a:=Gg d m.aL.length (ql _);rw[qX]at a;have:=zp 4000 (Jg d);omega
  simp only[qw,zi,y8,qD,ci];omega
 ·simp
theorem Yu(x:cy)(m:aD)(h:Heap)(d:gn h x m)(hz:dM m):ab xv 143 #[gm x] h fun v h'=>∃r:Sl,v=r/\Sp h h' [an 5 r 1 az (gC m)]:=by
 refine Ox x ?_;unfold HU;refine(Sp.refl h).boxed fun a1 h1 T=>?_;refine⟨x,(T.box 0 rfl).aF _ rfl,(QR x m h1 (d.up T.ag) hz).mono ?_⟩;rintro _ h2 ⟨rfl,R2⟩;have W:=T.up R2.ag;refine⟨_,rfl,be (fun e=>?_) fun z=>?_⟩
 ·unfold gC;rw[e];exact⟨⟨none,0,0⟩,rfl,((W.nil 5 1 az).cj [1])⟩
 have U:x.2.2.1=m.p.1:=congrArg (·.1) d.p;have Z:x.2.2.2.1=m.p.2.1:=congrArg (·.2.1) d.p;have S:x.2.2.2.2.1=m.p.2.2:=congrArg (·.2.2) d.p;have N:=W.box 0 rfl;have b:=Jh m hz;unfold gC at b;rw[z,if_pos rfl]at b;have hM:∀{h':Heap} {As:List HP},Sp h h' As->gn h' x m:=fun{h' As} L=>d.up L.ag;refine aT ⟨m.seq,by rw[<-d.seq];exact N.cell0 rfl,m.next,by rw[<-d.next];exact N.cell rfl,?_⟩;have H3:=(W.nil 5 1 az).bH;refine(rz ⟨none,0,0⟩ [] m.seq 4 (by decide) (by simp) H3).mono ?_;rintro _ h4 ⟨s4,rfl,H4⟩;refine⟨s4,rfl,⟨by rw[<-d.next];exact(H4.box 1 rfl).cell rfl,trivial⟩,?_⟩;refine(rz s4 _ m.next 4 (by decide) (by simp[ci]) H4).mono ?_;rintro _ h5 ⟨s5,rfl,H5⟩;refine⟨s5,rfl,trivial,?_⟩;have l:=H5.box 1 rfl;refine⟨m.p.1,by rw[<-U];exact l.cell rfl,m.p.2.1,by rw[<-Z];exact l.wn 2 1 rfl,m.p.2.2,by rw[<-S];exact l.wn 2 2 rfl,m.extra,by rw[<-d.extra];exact l.cell rfl,x.2.2.2.2.2.2.1,l.cell rfl,?_⟩;have ap:=d.drives.len;have ax:=cg.len d.aL;rw[dY,dY,dY,dY,dY,ap];refine H5.lit ac az fi rfl [b8 m.p.1,b8 m.p.2.1,b8 m.p.2.2,b8 m.extra,b8 (m.drives.length:Nat)] rfl (show 5*1<=2^20 by decide) rfl fun bd h6 H6=>?_;refine H6.append ac 0 rfl fi ⟨_,_,rfl,rfl⟩ rfl (by decide) (fun _=>rfl) (H6.seq 2 rfl fun _=>rfl) fT (by simp[ci]) fun s7 h7 Q=>?_;have Q:=Q.cj [0,1];refine⟨x.2.2.2.2.2.2.1,(Q.box 1 rfl).cell rfl,?_⟩;have a5:(([]++bL m.seq 4)++bL m.next 4++[b8 m.p.1,b8 m.p.2.1,b8 m.p.2.2,b8 m.extra,b8 (m.drives.length:Nat)]).length=13:=by simp[ci]
 have a8:=hz.dr;refine KE x.2.2.2.2.2.2.1 m.drives s7 _ Q (St.mk' fun h' L=>(hM L).drives) (by omega) (by omega) fun s8 h8 H8=>?_;dsimp only;refine⟨x.2.2.2.2.2.2.2,(H8.box 1 rfl).cell rfl,?_⟩;rw[dY,ax];obtain⟨a,c⟩:∃a,a=([]++bL m.seq 4)++bL m.next 4++[b8 m.p.1,b8 m.p.2.1,b8 m.p.2.2,b8 m.extra,b8 (m.drives.length:Nat)]++m.drives.map b8:=⟨_,rfl⟩
 rw[<-c]at H8;have V:a.length=13+m.drives.length:=by rw[c];simp[ci];omega
 simp only[qw,zi,y8,qD,ci]at b;refine H8.push ac 0 rfl fi rfl (by decide) (fun _=>rfl) fT (b8 (m.aL.length:Nat)) rfl (by decide) (by omega) fun s9 h9 R=>?_;have R:Sp h h9 [an 5 s9 1 az (a++[b8 (m.aL.length:Nat)]),ar a1 136 (bh x)]:=R;refine⟨x.2.2.2.2.2.2.2,(R.box 1 rfl).cell rfl,?_⟩;obtain⟨D,P⟩:=cg.fix d.aL;have a9:=P.2.1;refine au (fun t:Sl×Nat=>(t.1,(t.2:Int))) (fun t h'=>t.2<=m.aL.length/\Sp h h' [an 5 t.1 1 az (a++[b8 (m.aL.length:Nat)]++(m.aL.take t.2).flatMap iB),ar a1 136 (bh x)]) (fun t=>m.aL.length-t.2) (s9,0) rfl ⟨by simp,by simpa using R⟩ ?_;rintro⟨o,i⟩ bk ⟨hi,k⟩;dsimp only at*;refine ai (fun e=>?_) (fun e=>?_)
 ·have s:i<m.aL.length:=by omega
  have X:=mY.up P k.ag;have a2:=Ys z s;have n:((m.aL.take i).flatMap iB).length<=50000:=by
   have h1:=Gg z i hi;have:=Jg z;have:i*4000<=12*4000:=zp _ (by omega);omega
  refine X.1.ea (g:=cl) i rfl (by omega) (D[i]'(by omega)) rfl ?_;refine k.alloc ac rfl fun am bb ay=>?_;refine ay.storeAll ac 2 rfl rfl (cl (D[i]'(by omega))) rfl rfl rfl rfl fun a3 j=>?_;have Y:=mY.up P j.ag;obtain⟨⟨w,y2,y3⟩,y4⟩:=Fix.row Y s;obtain⟨E,hE⟩:∃E,E=m.aL[i]:=⟨_,rfl⟩
  rw[<-hE]at w y2 y3 y4 a2;have q:=j.box 2 rfl;refine aT ⟨E.name,by rw[<-w];exact q.cell0 rfl,E.name,by rw[<-w];exact q.cell0 rfl,?_⟩;rw[dY];refine j.pW ac az fi rfl [b8 (E.name.size:Nat)] rfl (show 1*1<=2^20 by decide) rfl ⟨by rw[<-w];exact q.cell0 rfl,by rw[<-w];exact q.cell0 rfl,trivial⟩ ?_;have M:(a++[b8 (m.aL.length:Nat)]++(m.aL.take i).flatMap iB).length<=160000:=by rw[qw,qw,V];simp;simp at n;omega
  obtain⟨f,F⟩:∃f,f=a++[b8 (m.aL.length:Nat)]++(m.aL.take i).flatMap iB:=⟨_,rfl⟩
  rw[<-F]at j M;refine j.push ac 0 rfl fi rfl (by decide) (fun _=>rfl) fT (b8 (E.name.size:Nat)) rfl (by decide) (by omega) fun a6 bl K=>?_;have B:=K.box 2 rfl;refine⟨⟨by rw[<-w];exact B.cell0 rfl,by rw[<-w];exact B.cell0 rfl,trivial⟩,?_⟩;refine K.XB ac 0 rfl fi ⟨_,rfl,rfl⟩ rfl (by decide) E.name (by simp;omega) fun O ah u=>?_;have y:=u.box 2 rfl;refine⟨⟨by rw[<-w];exact y.cell0 rfl,trivial⟩,?_⟩;have u:Sp h ah [an 5 O 1 az (f++[b8 (E.name.size:Nat)]++iu E.name),ar a1 136 (bh x),ar am 170 (cl (D[i]'(by omega)))]:=u;refine aT ⟨E.object,by rw[<-y2];exact y.cell rfl,E.length,by rw[<-y3];exact y.cell rfl,?_⟩;have a7:=CH E.name;refine(rz O _ E.object 3 (by decide) (by simp;omega) u).mono ?_;rintro _ br ⟨A,rfl,G⟩;have a4:=G.box 2 rfl;refine⟨A,rfl,⟨by rw[<-y3];exact a4.cell rfl,trivial⟩,?_⟩;refine(rz A _ E.length 2 (by decide) (by simp[ci];omega) G).mono ?_;rintro _ bs ⟨J,rfl,H⟩;have ad:=H.box 2 rfl;refine⟨J,rfl,trivial,(D[i]'(by omega)).2.2.2,ad.cell rfl,?_⟩;refine KE (D[i]'(by omega)).2.2.2 E.tries J _ H (St.mk' fun h' L=>by rw[hE];exact(Fix.row (mY.up P L.ag) s).2) (by simp[ci];omega) (by omega) fun a0 bq I=>?_;dsimp only;have a3:=Jg z;refine⟨(a0,i+1),by dsimp only;rw[aj _];rfl,⟨by dsimp only;omega,?_⟩,by dsimp only;omega⟩;dsimp only;rw[aH _ _ s,ze,<-qo,<-F,zq,yj,qU,<-hE];have e3:f++[b8 (E.name.size:Nat)]++iu E.name++bL E.object 3++bL E.length 2++E.tries.map b8=f++iB E:=by
   unfold iB iu;simp[qo]
  rw[e3]at I;exact I.cj [0,1]
 ·rw[qi (by omega)]at k;refine⟨o,rfl,?_⟩;have e2:a++[b8 (m.aL.length:Nat)]++m.aL.flatMap iB=gC m:=by
   rw[c];unfold gC;rw[z,if_pos rfl];simp[qo]
  rw[e2]at k;exact k.cj [0]
end Go.Qw
namespace Go.Vc
open Go Wl
def fH{α:Type}(k:Nat)(f:α->aV)(L:List (Sl×List α)):HP:=⟨fun h q=>∀y∈L,Seq h q y.1 k f y.2,fun a c y b=>(a y b).ag c,fun a d y b=>(a y b).mono d⟩
section
variable {α:Type} {B:aA} {h0 h:Heap} {As:List HP} {k:Nat} {f:α->aV} {L:List (Sl×List α)} {s:Sl} {l:List α}
theorem aa.Ux(H:aa B h0 h As)(k:Nat)(f:α->aV):aa B h0 h (fH k f []::As):=
 (H.comp (.one (A:=fH k f []) (aR.refl _ _) (fun y a=>by cases a))).bH
theorem aa.Uy(H:aa B h0 h (fH k f L::nL s k f l::As)):aa B h0 h (fH k f ((s,l)::L)::As):=by
 have g:aa B h0 h ((nL s k f l).sep (fH k f L)::As):=H.oO;refine g.ga 0 rfl fun q ⟨j,i,_,b,c,d,e⟩ y a=>?_;rcases q8.1 a with rfl|a
 ·exact d.mono b
 ·exact(e y a).mono c
end
end Go.Vc
namespace Go.Qw
open Go Go.Vc Go.Proofs Wl
theorem aeO(n:Int):bL n 4=[b8 (qQ n (2^24)),b8 (qQ n (2^16)),b8 (qQ n (2^8)),b8 n]:=by
 have e:qQ n (2^0)=n:=by simp
 show[b8 (qQ n (2^24)),b8 (qQ n (2^16)),b8 (qQ n (2^8)),b8 (qQ n (2^0))]=_;rw[e]
theorem Yv(seq a c:Int)(b:Sl)(l:aU)(h:Heap)(k:Rd h b 1 az l)(u:l.length<=2^20):ab xv 144 #[xk xq seq,xk xq a,xk xq c,b] h fun v h'=>∃r:Sl,v=r/\Sp h h' [an 5 r 1 az (ju seq a c l)]:=by
 refine QH seq a c b ?_;unfold Kg;refine⟨by decide,by decide,by decide,?_⟩;have j:min (24:Int).toNat (qk xq)=24:=rfl;have g:min (16:Int).toNat (qk xq)=16:=rfl;have t:min (8:Int).toNat (qk xq)=8:=rfl;rw[j,g,t,dY,dY,dY,dY,dY,dY,dY];have d:=aeO seq;generalize b8 (qQ seq (2^24))=c1 at d⊢;generalize b8 (qQ seq (2^16))=c2 at d⊢;generalize b8 (qQ seq (2^8))=c3 at d⊢;generalize b8 seq=c4 at d⊢;have e:ju seq a c l=dO 2 ([c1,c2,c3,c4]++([b8 a,b8 c,b8 (b.len:Nat)]++l)):=by unfold ju;rw[d,k.len]
 generalize b8 a=c5 at e⊢;generalize b8 c=c6 at e⊢;generalize b8 (b.len:Nat)=c7 at e⊢;refine(Sp.refl h).lit ac az fi rfl [c1,c2,c3,c4,c5,c6,c7] rfl (show 7*1<=2^20 by decide) (by kernel_rfl) fun w x o=>?_;refine o.append ac 0 rfl fi ⟨_,_,rfl,rfl⟩ rfl (by decide) (fun _=>rfl) (Seq.up k o.ag) fT (by simp;omega) fun q p n=>?_;have m:Rd p q 1 az ([c1,c2,c3,c4,c5,c6,c7]++l):=n.seq 0 rfl fun _=>rfl;have f:([c1,c2,c3,c4,c5,c6,c7]++l).length<=2^40:=by simp;omega
 rw[e];have i:[c1,c2,c3,c4,c5,c6,c7]++l=[c1,c2,c3,c4]++([c5,c6,c7]++l):=rfl;rw[<-i];generalize [c1,c2,c3,c4,c5,c6,c7]++l=ll at m f⊢;refine(Ge 2 q ll p m f).mono ?_;rintro _ h3 ⟨r,rfl,s⟩;exact⟨r,rfl,r,rfl,(aa.comp (Sp.zip n.ag) s)⟩
theorem pB(x:cy)(m:aD)(h:Heap)(A:gn h x m)(B:dM m):ab xv 81 #[gm x] h fun v h'=>∃r:Sl,v=r/\Sp h h' [dR r (bf m)]:=by
 refine LU x ?_;unfold FH;refine(Sp.refl h).boxed fun w J q=>?_;refine⟨x,(q.box 0 rfl).aF _ rfl,(Yu x m J (A.up q.ag) B).mono ?_⟩;rintro _ M ⟨b,rfl,H⟩;have j:=q.comp H;have u:=Jh m B;obtain⟨l,k⟩:∃l,l=gC m:=⟨_,rfl⟩
 rw[<-k]at j u;have K:=(j.own 1 rfl).len;have p:=(j.own 1 rfl).cap;refine⟨b,rfl,by decide,?_⟩;have a:qc xq (z8 (qc xq ((qc xq (((b.len:Nat):Int)+(48:Int)))-(1:Int))) (48:Int))=(gV l:Int):=by
  rw[aj ((b.len:Int)+48),aj ((b.len:Int)+48-1),Int.tdiv_eq_ediv_of_nonneg (by omega)];unfold gV;rw[aj (((b.len:Int)+48-1)/48)];omega
 have O:gV l<=3000:=by unfold gV;omega
 rw[a];obtain⟨f,g⟩:∃f:cv,f=bf m:=⟨_,rfl⟩
 have D:f.length=gV l:=by rw[g,k];simp[bf]
 have d:Sp h M [dR ⟨none,0,0⟩ (f.take 0),ar w 136 (bh x),an 5 b 1 az l]:=j.EX 23 5 1 az;refine au (fun t:Sl×Nat=>(t.1,(t.2:Int))) (fun t h'=>t.2<=gV l/\Sp h h' [dR t.1 (f.take t.2),ar w 136 (bh x),an 5 b 1 az l]) (fun t=>gV l-t.2) (⟨none,0,0⟩,0) rfl ⟨by simp,d⟩ ?_;rintro⟨o,i⟩ h3 ⟨Q,d⟩;dsimp only at*;refine ai (fun e=>?_) (fun e=>?_)
 ·have n:i<gV l:=by omega
  have z:48*i<l.length:=by unfold gV at n;omega
  rw[aj ((i:Int)*48),aj ((i:Int)+1),aj (((i:Int)+1)*48)];obtain⟨c,F⟩:∃c:Nat,c=min (48*i+48) l.length:=⟨_,rfl⟩
  have s:(if((i:Int)+1)*48<((b.len:Nat):Int)then((i:Int)+1)*48 else((b.len:Nat):Int))=(c:Int):=by
   split<;>omega
  rw[s];refine⟨m.seq,by rw[<-A.seq];exact(d.box 1 rfl).cell0 rfl,⟨by omega,by omega,by omega⟩,?_⟩;have N:((i:Int)*48).toNat=48*i:=by omega
  rw[N,qp];have E:=((d.seq 2 rfl fun _=>rfl).drop (48*i) p).take (c-48*i) (by rw[qZ];omega);have e2:(l.drop (48*i)).take (c-48*i)=(l.drop (48*i)).take 48:=by
   by_cases R:48*i+48<=l.length
   ·rw[show c-48*i=48 by omega]
   ·rw[qi (by rw[qZ];omega),qi (by rw[qZ];omega)]
  rw[e2,wc]at E;refine(Yv m.seq i (gV l) ⟨_,c-48*i,b.cap-48*i⟩ _ h3 (by rw[wc];exact E) (by simp;omega)).mono ?_;rintro _ T ⟨r,rfl,I⟩;have y:=(d.cX I).bo 4 [1,0,2,3];refine⟨r,rfl,trivial,?_⟩;refine y.pW ac bD fa rfl [r] rfl (show 1*1<=2^20 by decide) rfl trivial ?_;refine y.GY ac fa (by simp;omega) fun P S L=>⟨trivial,?_⟩
  refine⟨(P,i+1),rfl,⟨by dsimp only;omega,?_⟩,by dsimp only;omega⟩;dsimp only;rw[aH _ _ (show i<f.length by omega)];have G:f[i]'(by omega)=ju m.seq i (gV l) ((l.drop (48*i)).take 48):=by
   subst g;subst k;simp[bf]
  rw[G];exact L
 ·rw[qi (by omega),g]at d;exact⟨o,rfl,d.cj [0]⟩
theorem Th(s:Sl)(a:List eC)(h:Heap)(b:Rd h s 4 cl a)(f:a.length<=2^30):ab xv 236 #[s] h fun v h'=>∃r:Sl,v=r/\Sp h h' [an 170 r 4 cl a]:=by
 refine mb s ?_;unfold iy;refine bF (fun e=>?_) (fun e=>?_)
 ·have:=b.isNil e;subst this;exact⟨⟨none,0,0⟩,rfl,(Sp.refl h).nil 170 4 cl⟩
 ·refine(Sp.refl h).lit ac cl aaS rfl ([]:List eC) rfl (by decide) rfl fun i k c=>?_;refine c.append ac 0 rfl aaS ⟨_,_,rfl,rfl⟩ rfl (by decide) (fun _=>rfl) (Seq.up b c.ag) Uw (by simp;omega) fun d j g=>?_;exact⟨d,rfl,g⟩
def Hp(pool:List (Sl×aB))(p:eC×Wl.cm):Prop:=(p.1.1=p.2.name/\p.1.2.1=p.2.object/\p.1.2.2.1=p.2.length)/\(p.1.2.2.2,p.2.tries)∈pool
theorem aa.QS{B:aA}{l h:Heap}{As:List HP}{y:cy}{m:aD}{L:List (eC×Wl.cm)}{pool:List (Sl×aB)}(f:y.1=m.seq/\y.2.1=m.next/\(y.2.2.1,y.2.2.2.1,y.2.2.2.2.1)=m.p/\y.2.2.2.2.2.1=m.extra)(n:L.map zE=m.aL)(o:∀p∈L,Hp pool p)
  (H:aa B l h (fH 1 aC pool::an 3 y.2.2.2.2.2.2.1 1 aC m.drives::an 170 y.2.2.2.2.2.2.2 4 cl (L.map qK)::As)):aa B l h (fS y m::As):=by
 have i:=(H.own 2 rfl)
 have g:=(H.own 1 rfl)
 have A:=((H.freeze 1 rfl fun _=>rfl).freeze 2 rfl fun _=>rfl).oO.oO;refine A.ga 0 rfl fun q ⟨I,E,_,b,c,t,z⟩=>?_;obtain⟨F,G,_,w,D,z3,z4⟩:=z;refine⟨f.1,f.2.1,f.2.2.1,f.2.2.2,z3.mono fun x k=>c x (w x k),⟨L.map qK,t.mono b,by rw[<-n];simp,fun j r e a d=>?_⟩,g.cap,i.cap⟩;rw[<-n]at d;rw[qO]at a d;cases hj:L[j]? with
 |none=>rw[hj]at a;cases a
 |some p=>
  rw[hj]at a d;have v:=zO.inj (show some p.1=some r from a);have e2:=zO.inj (show some p.2=some e from d);subst v;subst e2;obtain⟨u,s⟩:=o p (yn hj);exact⟨u,(z4 _ s).mono fun x k=>c x (D x k)⟩
theorem Ca(x:cy)(m:aD)(h:Heap)(w:gn h x m)(P:dM m):ab xv 162 #[gm x] h fun v h'=>∃(y:cy) (L:List (eC×Wl.cm)) (pool:List (Sl×aB)),v=gm y/\(y.1=m.seq/\y.2.1=m.next/\(y.2.2.1,y.2.2.2.1,y.2.2.2.2.1)=m.p/\y.2.2.2.2.2.1=m.extra)/\L.map zE=m.aL/\(∀p∈L,Hp pool p)/\
  Sp h h' [fH 1 aC pool,an 3 y.2.2.2.2.2.2.1 1 aC m.drives,an 170 y.2.2.2.2.2.2.2 4 cl (L.map qK)]:=by
 refine QJ x ?_;unfold Kl;refine(Sp.refl h).boxed fun S k W=>?_;refine W.alloc ac rfl fun R n H=>?_;have D:=H.box 0 rfl;have hM:∀{h':Heap} {As:List HP},Sp h h' As->gn h' x m:=fun{h' As} H'=>w.up H'.ag;obtain⟨b,N⟩:=cg.fix w.aL;have am:=N.2.1;have ah:=P.dr;have ad:=P.ob;refine aT ⟨x.2.2.2.2.2.2.1,D.cell rfl,x.2.2.2.2.2.2.2,D.cell rfl,?_⟩;refine(mE _ m.drives n (hM H).drives (by omega)).mono ?_;rintro _ h3 ⟨d,rfl,R3⟩;have M:=H.comp R3;refine⟨d,rfl,⟨(M.box 0 rfl).cell rfl,trivial⟩,?_⟩;refine(Th _ b h3 (mY.up N M.ag).1 (by omega)).mono ?_;rintro _ h4 ⟨o,rfl,R4⟩;have U:=M.comp R4;refine⟨o,rfl,trivial,?_⟩;refine U.store ac 0 rfl rfl 6 [d] rfl rfl rfl (by simp[Value.cells]) fun h5 H5=>⟨trivial,?_⟩
 refine H5.store ac 0 rfl rfl 7 [o] rfl rfl rfl (by simp[Value.cells]) fun h6 s=>⟨trivial,?_⟩
 obtain⟨y,q⟩:∃y:cy,y=(x.1,x.2.1,x.2.2.1,x.2.2.2.1,x.2.2.2.2.1,x.2.2.2.2.2.1,d,o):=⟨_,rfl⟩
 have s:Sp h h6 [ar S 136 (bh y),ar R 136 [xk xq 0,xk xq 0,xk xq 0,xk xq 0,xk xq 0,xk xq 0,xl none 0 0,xl none 0 0],an 3 d 1 aC m.drives,an 170 o 4 cl b]:=by rw[q];exact s
 have c:y.2.2.2.2.2.2.2=o:=by rw[q]
 have O:y.2.2.2.2.2.2.1=d:=by rw[q]
 refine⟨o,by rw[<-c];exact(s.box 0 rfl).cell rfl,?_⟩;have ax:=(s.own 3 rfl).len;have s:=s.Ux 1 aC;refine au (fun t:List eC×List (Sl×aB)=>(t.1.length:Int)) (fun t h'=>t.1.length<=m.aL.length/\(∀(j:Nat) r e,t.1[j]?=some r->m.aL[j]?=some e->(r.1=e.name/\r.2.1=e.object/\r.2.2.1=e.length)/\(r.2.2.2,e.tries)∈t.2)/\Sp h h' [fH 1 aC t.2,ar S 136 (bh y),ar R 136 [xk xq 0,xk xq 0,xk xq 0,xk xq 0,xk xq 0,xk xq 0,xl none 0 0,xl none 0 0],an 3 d 1 aC m.drives,an 170 o 4 cl (t.1++b.drop t.1.length)]) (fun t=>m.aL.length-t.1.length) ([],[]) rfl ⟨by simp,fun j r e k=>by simp at k,s⟩ ?_;rintro⟨a,pool⟩ h7 ⟨hi,B,l⟩;dsimp only at*;refine ai (fun e=>?_) (fun e=>?_)
 ·have u:a.length<m.aL.length:=by omega
  have X:=mY.up N l.ag;obtain⟨⟨V,Z,y3⟩,y4⟩:=Fix.row X u;have f:(a++b.drop a.length)[a.length]'(by simp;omega)=b[a.length]'(by omega):=by simp
  obtain⟨J,ha,zz,hc,rfl⟩:=(l.seq 4 rfl fun _=>rfl).ea (g:=cl) (i:=(a.length:Int)) a.length rfl (by simp;omega) (b[a.length]'(by omega)) (by rw[f]) (K:=fun t=>t=b[a.length]'(by omega)) rfl;refine⟨o,by rw[<-c];exact(l.box 1 rfl).cell rfl,o,by rw[<-c];exact(l.box 1 rfl).cell rfl,J,ha,_,hc.2.2.2.1,?_⟩;have ap:=(P.nm _ (qh u)).2;refine(mE _ m.aL[a.length].tries h7 y4 (by omega)).mono ?_;rintro _ h8 ⟨t,rfl,R8⟩;have z:=l.cX R8;refine⟨t,rfl,⟨by rw[<-c];exact(z.box 2 rfl).cell rfl,by rw[<-c];exact(z.box 2 rfl).cell rfl,trivial⟩,?_⟩;refine z.aak ac 5 rfl (fun _=>rfl) rfl a.length rfl (by simp;omega) 3 [t] (by simp) ((b[a.length]'(by omega)).1,(b[a.length]'(by omega)).2.1,(b[a.length]'(by omega)).2.2.1,t) rfl rfl rfl (by rw[f];simp[cl]) fun h9 E=>⟨trivial,?_⟩
  have E:=(E.freeze 0 rfl fun _=>rfl).bo 6 [1,0,2,3,4,5];have E:=E.Uy;refine⟨(a++[((b[a.length]'(by omega)).1,(b[a.length]'(by omega)).2.1,(b[a.length]'(by omega)).2.2.1,t)],(t,m.aL[a.length].tries)::pool),by simp only[qw,List.length_singleton];rw[aj _];rfl,⟨by simp;omega,fun j r e k n=>?_,?_⟩,by simp;omega⟩
  ·dsimp only at k⊢;by_cases I:j<a.length
   ·rw[qm I]at k;obtain⟨g1,g2⟩:=B j r e k n;exact⟨g1,List.mem_cons_of_mem _ g2⟩
   ·have F:j=a.length:=by
     have:=(qn.1 k).1;simp at this;omega
    subst F;rw[qj (ql _),zd]at k;simp at k;rw[qd u]at n;injection n with n
    subst k;subst n;exact⟨⟨V,Z,y3⟩,List.mem_cons_self⟩
  ·dsimp only;have T:(a++b.drop a.length).set a.length ((b[a.length]'(by omega)).1,(b[a.length]'(by omega)).2.1,(b[a.length]'(by omega)).2.2.1,t)=a++[((b[a.length]'(by omega)).1,(b[a.length]'(by omega)).2.1,(b[a.length]'(by omega)).2.2.1,t)]++b.drop (a++[((b[a.length]'(by omega)).1,(b[a.length]'(by omega)).2.1,(b[a.length]'(by omega)).2.2.1,t)]).length:=by
    rw[q7 _ _ (ql _),zd,qS (show a.length<b.length by omega),zu];simp
   rw[<-T];exact E
 ·have ay:a.length=m.aL.length:=by omega
  rw[zh (by omega),qU]at l;refine⟨y,(l.box 1 rfl).aF _ rfl,?_⟩;refine l.storeAll ac 2 rfl rfl (bh y) rfl rfl rfl rfl fun h8 z=>?_;have Q:(a.zip m.aL).map qK=a:=List.map_fst_zip (by omega);have G:(a.zip m.aL).map zE=m.aL:=List.map_snd_zip (by omega);refine⟨y,(z.box 2 rfl).aF _ rfl,y,a.zip m.aL,pool,rfl,⟨by rw[q];exact w.seq,by rw[q];exact w.next,by rw[q];exact w.p,by rw[q];exact w.extra⟩,G,fun p Y=>?_,?_⟩
  ·obtain⟨j,I,rfl⟩:=qE Y;have A:j<a.length/\j<m.aL.length:=by simp at I;omega
   have:=B j _ _ (qd A.1) (qd A.2);rw[yX];exact this
  ·rw[Q,O,c];exact z.cj [0,3,4]
theorem VV(x:cy)(m:aD)(h:Heap)(a:gn h x m)(c:dM m):ab xv 162 #[gm x] h fun v h'=>∃y:cy,v=gm y/\Sp h h' [fS y m]:=by
 refine(Ca x m h a c).mono ?_;rintro _ h' ⟨y,L,pool,rfl,b,e,d,H⟩;exact⟨y,rfl,aa.QS b e d H⟩
end Go.Qw
namespace Go.Vc
open Go Wl
abbrev bw:=Int×Int×Int×Int×Int×Int×Int×Sl
abbrev bI(x:bw):aV:=[xk xq x.1,xk xq x.2.1,xk xq x.2.2.1,xk xq x.2.2.2.1,xk xq x.2.2.2.2.1,xk xq x.2.2.2.2.2.1,xk xt x.2.2.2.2.2.2.1,x.2.2.2.2.2.2.2]
abbrev recv(x:bw):Value:=xp #[xk xq x.1,xk xq x.2.1,xk xq x.2.2.1,xk xq x.2.2.2.1,xk xq x.2.2.2.2.1,xk xq x.2.2.2.2.2.1,xk xt x.2.2.2.2.2.2.1,x.2.2.2.2.2.2.2]
theorem adw:∀x,∀c∈bI x,c.oneCell'=true:=by intro x c a;simp[bI]at a;rcases a with rfl|rfl|rfl|rfl|rfl|rfl|rfl|rfl<;>rfl
def gN(x y:Int):Int:=if x<y then-1 else if x>y then 1 else 0
def kU(a b:bw):Int:=if gN a.1 b.1≠0 then gN a.1 b.1 else if gN a.2.1 b.2.1≠0 then gN a.2.1 b.2.1 else gN a.2.2.1 b.2.2.1
def bX(a b:bw):Bool:=decide (kU a b<=0)
theorem iE(x y:Int):(x<y/\gN x y=-1)∨(x>y/\gN x y=1)∨(x=y/\gN x y=0):=by
 unfold gN;by_cases a:x<y
 ·exact .inl ⟨a,if_pos a⟩
 ·by_cases b:x>y
  ·exact .inr (.inl ⟨b,by rw[if_neg a,if_pos b]⟩)
  ·exact .inr (.inr ⟨by omega,by rw[if_neg a,if_neg b]⟩)
theorem Cb(a b:bw):kU a b<=0↔a.1<b.1∨(a.1=b.1/\(a.2.1<b.2.1∨(a.2.1=b.2.1/\a.2.2.1<=b.2.2.1))):=by
 unfold kU;rcases iE a.1 b.1 with⟨h1,e1⟩|⟨h1,e1⟩|⟨h1,e1⟩
 ·rw[e1,if_pos (by decide)];omega
 ·rw[e1,if_pos (by decide)];omega
 ·rw[e1,if_neg (by decide)];rcases iE a.2.1 b.2.1 with⟨h2,e2⟩|⟨h2,e2⟩|⟨h2,e2⟩
  ·rw[e2,if_pos (by decide)];omega
  ·rw[e2,if_pos (by decide)];omega
  ·rw[e2,if_neg (by decide)];rcases iE a.2.2.1 b.2.2.1 with⟨h3,e3⟩|⟨h3,e3⟩|⟨h3,e3⟩<;>rw[e3]<;>omega
theorem ri(a b:bw):kU a b<0↔¬bX b a=true:=by
 unfold bX;rw[decide_eq_true_eq,Cb];unfold kU;rcases iE a.1 b.1 with⟨h1,e1⟩|⟨h1,e1⟩|⟨h1,e1⟩
 ·rw[e1,if_pos (by decide)];omega
 ·rw[e1,if_pos (by decide)];omega
 ·rw[e1,if_neg (by decide)];rcases iE a.2.1 b.2.1 with⟨h2,e2⟩|⟨h2,e2⟩|⟨h2,e2⟩
  ·rw[e2,if_pos (by decide)];omega
  ·rw[e2,if_pos (by decide)];omega
  ·rw[e2,if_neg (by decide)];rcases iE a.2.2.1 b.2.2.1 with⟨h3,e3⟩|⟨h3,e3⟩|⟨h3,e3⟩<;>rw[e3]<;>omega
theorem Yw(a b:bw):kU a b=0↔(a.1=b.1/\a.2.1=b.2.1/\a.2.2.1=b.2.2.1):=by
 unfold kU;rcases iE a.1 b.1 with⟨h1,e1⟩|⟨h1,e1⟩|⟨h1,e1⟩
 ·rw[e1,if_pos (by decide)];omega
 ·rw[e1,if_pos (by decide)];omega
 ·rw[e1,if_neg (by decide)];rcases iE a.2.1 b.2.1 with⟨h2,e2⟩|⟨h2,e2⟩|⟨h2,e2⟩
  ·rw[e2,if_pos (by decide)];omega
  ·rw[e2,if_pos (by decide)];omega
  ·rw[e2,if_neg (by decide)];rcases iE a.2.2.1 b.2.2.1 with⟨h3,e3⟩|⟨h3,e3⟩|⟨h3,e3⟩<;>rw[e3]<;>omega
theorem dC:Ord bX:=⟨fun a b c e d=>by
 unfold bX at*;rw[decide_eq_true_eq,Cb]at*;omega,fun a b=>by
 unfold bX;rw[Bool.or_eq_true,decide_eq_true_eq,decide_eq_true_eq,Cb,Cb];omega⟩
theorem QU{α:Type}(A B C:List α)(x y:α){i j:Nat}(c:i=A.length)(b:j=A.length+1+B.length):
  (A++x::(B++y::C))[i]?=some x/\(A++x::(B++y::C))[j]?=some y/\((A++x::(B++y::C)).set i y).set j x=A++y::(B++x::C)/\((A++x::(B++y::C)).set j x).set i y=A++y::(B++x::C):=by
 subst c;subst b;have a:A.length+1+B.length-A.length=B.length+1:=by omega
 refine⟨by rw[qj (ql _),zd];rfl,?_,?_,?_⟩
 ·rw[qj (by omega),a,qz,qj (ql _),zd];rfl
 ·rw[q7 _ _ (ql _),zd,zu,q7 _ _ (by omega),a,wM,q7 _ _ (ql _),zd,zu]
 ·rw[q7 _ _ (show A.length<=A.length+1+B.length by omega),a,wM,q7 _ _ (ql _),zd,zu,q7 _ _ (ql _),zd,zu]
end Go.Vc
namespace Go.Qw
open Go Go.Vc Go.Proofs Wl
abbrev aeP:bN C.toBq 230 233 8 [xk xq 0,xk xq 0,xk xq 0,xk xq 0,xk xq 0,xk xq 0,xk xt 0,xl none 0 0] 80:=⟨_,_,rfl,rfl,rfl,rfl,rfl,rfl⟩
theorem sW(x y:Int)(h:Heap):ab xv 289 #[xk xq x,xk xq y] h fun v h'=>v=xk xq (gN x y)/\h'=h:=by
 refine pQ x y ?_;unfold mU;have a:∀z:Int,ab xv 304 #[xk xq z] h fun v h'=>v=xo false/\h'=h:=fun z=>by
  refine tu z ?_;unfold pA;exact⟨by simp,rfl⟩
 refine(a x).mono ?_;rintro _ _ ⟨rfl,rfl⟩;refine⟨_,rfl,(a y).mono ?_⟩;rintro _ _ ⟨rfl,rfl⟩;refine⟨_,rfl,bF (fun e=>by cases e) fun _=>bF (fun e=>by cases e) fun _=>?_⟩;refine ai (fun e=>⟨by rw[gN,if_pos e],rfl⟩) fun e=>ai (fun e2=>⟨by rw[gN,if_neg e,if_pos e2],rfl⟩) fun e2=>⟨by rw[gN,if_neg e,if_neg e2],rfl⟩
theorem pC(a b:bw)(h:Heap):ab xv 241 #[recv a,recv b] h fun v h'=>v=xk xq (kU a b)/\Sp h h' []:=by
 refine Md a b ?_;unfold FT;refine(Sp.refl h).boxed fun q M F=>F.boxed fun w g k=>?_;have k:Sp h g [ar q 233 (bI a),ar w 233 (bI b)]:=k;have r:=k.box 0 rfl;have u:=k.box 1 rfl;have A:cellOf g (q.add 1)=some (xk xq a.2.1):=r.cell rfl;have B:cellOf g (w.add 1)=some (xk xq b.2.1):=u.cell rfl;have s:cellOf g (q.add 2)=some (xk xq a.2.2.1):=r.cell rfl;have x:cellOf g (w.add 2)=some (xk xq b.2.2.1):=u.cell rfl;refine⟨a.1,r.cell0 rfl,b.1,u.cell0 rfl,a.2.1,A,b.2.1,B,a.2.2.1,s,b.2.2.1,x,(sW _ _ g).mono ?_⟩;rintro _ _ ⟨rfl,rfl⟩;refine⟨_,rfl,⟨x,s,B,A,trivial⟩,(sW _ _ _).mono ?_⟩;rintro _ _ ⟨rfl,rfl⟩;refine⟨_,rfl,⟨x,s,trivial⟩,(sW _ _ _).mono ?_⟩;rintro _ N ⟨rfl,rfl⟩;refine⟨_,rfl,trivial,?_⟩;refine k.pW ac aC ⟨_,_,rfl,rfl,rfl,rfl,rfl,rfl⟩ rfl [gN a.1 b.1,gN a.2.1 b.2.1,gN a.2.2.1 b.2.2.1] rfl (show 3*1<=2^20 by decide) rfl trivial ?_;refine k.lit ac aC ⟨_,_,rfl,rfl,rfl,rfl,rfl,rfl⟩ rfl [gN a.1 b.1,gN a.2.1 b.2.1,gN a.2.2.1 b.2.2.1] rfl (show 3*1<=2^20 by decide) rfl fun d z o=>?_;refine(BV d (R:=fun v h'=>v=xk xq (kU a b)/\h'=z) ?_).mono ?_
 ·unfold wb;have D:=o.seq 2 rfl fun _=>rfl;have E:=(o.own 2 rfl).len;obtain⟨L,f⟩:∃L,L=[gN a.1 b.1,gN a.2.1 b.2.1,gN a.2.2.1 b.2.2.1]:=⟨_,rfl⟩
  rw[<-f]at D E;have H:L.length=3:=by rw[f];rfl
  refine au (fun i:Nat=>(i:Int)) (fun i h'=>i<=3/\(∀j,j<i->L[j]?=some 0)/\h'=z) (fun i=>3-i) 0 rfl ⟨by omega,by omega,rfl⟩ ?_;rintro i I ⟨K,n,rfl⟩;have c:0<i->gN a.1 b.1=0:=fun h0=>by have:=n 0 h0;rw[f]at this;simpa using this
  have l:1<i->gN a.2.1 b.2.1=0:=fun h0=>by have:=n 1 h0;rw[f]at this;simpa using this
  have p:2<i->gN a.2.2.1 b.2.2.1=0:=fun h0=>by have:=n 2 h0;rw[f]at this;simpa using this
  refine ai (fun e=>?_) (fun e=>?_)
  ·have m:i<L.length:=by
    have G:(i:Int)<(d.len:Int):=e;omega
   refine D.bt i rfl m L[i] rfl ?_;refine bV (fun e2=>⟨?_,rfl⟩) (fun e2=>?_)
   ·congr 1;unfold kU;have:i=0∨i=1∨i=2:=by omega
    subst f;rcases this with rfl|rfl|rfl
    ·exact(if_pos (show gN a.1 b.1≠0 from e2)).symm
    ·rw[if_neg (by rw[c (by omega)];simp)];exact(if_pos (show gN a.2.1 b.2.1≠0 from e2)).symm
    ·rw[if_neg (by rw[c (by omega)];simp),if_neg (by rw[l (by omega)];simp)];rfl
   ·refine⟨i+1,by rw[aj _];rfl,⟨by omega,fun j J=>?_,rfl⟩,by omega⟩;by_cases y:j=i
    ·subst y;rw[qd m,e2]
    ·exact n j (by omega)
  ·have t:i=3:=by
    have G:¬(i:Int)<(d.len:Int):=e;omega
   subst t;refine⟨?_,rfl⟩;unfold kU;rw[c (by omega),l (by omega),p (by omega)];rfl
 ·rintro _ I ⟨rfl,rfl⟩;exact⟨_,rfl,trivial,rfl,.zip o.ag⟩
abbrev co(s:Sl)(d:List bw):HP:=an 233 s 8 bI d
section
variable {B:aA} {h0 h h':Heap} {As:List HP} {s:Sl} {d:List bw}
theorem rj(X U M V Y:List bw)(n:Nat)(a b:Int)(R:U.length=n)(P:V.length=n)(I:a=(X.length:Int))(E:b=(X.length+n+M.length:Nat))(L:X.length+n+M.length+n+Y.length<=2^40)(H:aa B h0 h (co s (X++(U++(M++(V++Y))))::As)):
  ab xv 371 #[s,xk xq a,xk xq b,xk xq n,.func (.func 241) #[] #[]] h fun v h'=>v=.tuple #[]/\aa B h0 h' (co s (X++(V++(M++(U++Y))))::As):=by
 refine lD s a b n (241,#[],#[]) ?_;unfold ig;subst I;subst E;refine au (fun k:Nat=>(k:Int)) (fun k h'=>k<=n/\aa B h0 h' (co s (X++(V.take k++U.drop k++(M++(U.take k++V.drop k++Y))))::As)) (fun k=>n-k) 0 rfl ⟨by omega,by simpa using H⟩ ?_;rintro k Q ⟨T,f⟩;refine ai (fun e=>?_) (fun e=>?_)
 ·have G:k<n:=by omega
  have o:k<U.length:=by omega
  have p:k<V.length:=by omega
  have d:X++(V.take k++U.drop k++(M++(U.take k++V.drop k++Y)))=(X++V.take k)++U[k]::((U.drop (k+1)++(M++U.take k))++V[k]::(V.drop (k+1)++Y)):=by
   rw[qS o,qS p];simp only[qo,zA,wh]
  have c:X++(V.take (k+1)++U.drop (k+1)++(M++(U.take (k+1)++V.drop (k+1)++Y)))=(X++V.take k)++V[k]::((U.drop (k+1)++(M++U.take k))++U[k]::(V.drop (k+1)++Y)):=by
   rw[aH V k p,aH U k o];simp only[qo,zA,wh]
  rw[d]at f;obtain⟨z,x,y,O⟩:=QU (X++V.take k) (U.drop (k+1)++(M++U.take k)) (V.drop (k+1)++Y) U[k] V[k] (i:=X.length+k) (j:=X.length+n+M.length+k) (by simp;omega) (by simp;omega);obtain⟨D,J⟩:∃D,D=(X++V.take k)++U[k]::((U.drop (k+1)++(M++U.take k))++V[k]::(V.drop (k+1)++Y)):=⟨_,rfl⟩
  rw[<-J]at f z x y O;have u:=(qn.1 z)
  have t:=(qn.1 x)
  obtain⟨m,w⟩:=u;obtain⟨q,r⟩:=t;have A:qc xq ((X.length:Int)+k)=((X.length+k:Nat):Int):=by rw[aj _];omega
  have K:qc xq (((X.length+n+M.length:Nat):Int)+k)=((X.length+n+M.length+k:Nat):Int):=by rw[aj _];omega
  rw[A,K];refine(f.seq 0 rfl fun _=>rfl).ea (g:=bI) _ rfl q V[k] (by rw[r]) ?_;refine(f.seq 0 rfl fun _=>rfl).ea (g:=bI) _ rfl m U[k] (by rw[w]) ?_;refine f.set ac 0 rfl (fun _=>rfl) rfl (X.length+k) rfl m V[k] rfl rfl rfl fun S N=>⟨trivial,?_⟩
  refine N.set ac 0 rfl (fun _=>rfl) rfl (X.length+n+M.length+k) rfl (by simpa using q) U[k] rfl rfl rfl fun h3 F=>⟨trivial,?_⟩
  refine⟨k+1,by rw[aj _];rfl,⟨by omega,?_⟩,by omega⟩;rw[c,<-y];exact F
 ·have:k=n:=by omega
  subst this;rw[qi (l:=V) (by omega),zh (l:=U) (by omega),qi (l:=U) (by omega),zh (l:=V) (by omega)]at f;refine⟨rfl,?_⟩;simpa using f
theorem Ti(X U V Y:List bw)(a m b:Int)(G:0<U.length)(E:0<V.length)(J:a=(X.length:Int))(x:m=(X.length+U.length:Nat))(z:b=(X.length+U.length+V.length:Nat))(L:X.length+U.length+V.length+Y.length<=2^40)(H:aa B h0 h (co s (X++(U++(V++Y)))::As)):
  ab xv 357 #[s,xk xq a,xk xq m,xk xq b,.func (.func 241) #[] #[]] h fun v h'=>v=.tuple #[]/\aa B h0 h' (co s (X++(V++(U++Y)))::As):=by
 refine mD s a m b (241,#[],#[]) ?_;unfold iU;subst J;subst x;subst z;have I:qc xq (((X.length+U.length:Nat):Int)-X.length)=(U.length:Int):=by rw[aj _];omega
 have e2:qc xq (((X.length+U.length+V.length:Nat):Int)-(X.length+U.length:Nat))=(V.length:Int):=by rw[aj _];omega
 rw[I,e2];refine au (fun t:List bw×List bw×List bw×List bw=>((t.2.1.length:Int),(t.2.2.1.length:Int))) (fun t h'=>0<t.2.1.length/\0<t.2.2.1.length/\X.length+t.1.length+t.2.1.length=X.length+U.length/\V++U=t.1++((t.2.2.1++t.2.1)++t.2.2.2)/\aa B h0 h' (co s (X++(t.1++(t.2.1++(t.2.2.1++(t.2.2.2++Y)))))::As)) (fun t=>t.2.1.length+t.2.2.1.length) ([],U,V,[]) rfl ⟨G,E,by simp,by simp,by simpa using H⟩ ?_;rintro⟨P,A,c,Q⟩ q ⟨O,N,x,o,p⟩;dsimp only at*;have n:=congrArg vT o;simp only[qw]at n;refine bV (fun e=>ai (fun F=>?_) (fun F=>?_)) (fun e=>?_)
 ·--the left one is longer
  have r:c.length<A.length:=by omega
  have y:A=A.take c.length++A.drop c.length:=(qx _ _).symm;have g:(A.take c.length).length=c.length:=by simp;omega
  have f:qc xq (((X.length+U.length:Nat):Int)-A.length)=((X++P).length:Int):=by rw[aj _];simp;omega
  rw[f];have d:aa B h0 q (co s ((X++P)++(A.take c.length++(A.drop c.length++(c++(Q++Y)))))::As):=by
   have:(X++P)++(A.take c.length++(A.drop c.length++(c++(Q++Y))))=X++(P++(A++(c++(Q++Y)))):=by
    conv=>rhs;rw[y]
    simp only[qo,zA,wh]
   rw[this];exact p
  refine(rj (X++P) (A.take c.length) (A.drop c.length) c (Q++Y) c.length _ _ g rfl rfl (by simp;omega) (by simp;omega) d).mono ?_;rintro _ w ⟨rfl,l⟩;refine⟨(),rfl,(P++c,A.drop c.length,A.take c.length,Q),?_,⟨by dsimp only;simp;omega,by dsimp only;omega,by dsimp only;simp;omega,?_,?_⟩,by dsimp only;simp;omega⟩
  ·dsimp only;rw[g,aj _];simp;omega
  ·dsimp only;rw[o,qx];simp
  ·dsimp only;have:X++((P++c)++(A.drop c.length++(A.take c.length++(Q++Y))))=(X++P)++(c++(A.drop c.length++(A.take c.length++(Q++Y)))):=by simp
   rw[this];exact l
 ·have r:A.length<c.length:=by omega
  obtain⟨j,M⟩:∃j,j=c.length-A.length:=⟨_,rfl⟩
  have D:c=c.take j++c.drop j:=(qx _ _).symm;have k:(c.drop j).length=A.length:=by simp;omega
  have i:(c.take j).length=j:=by simp;omega
  have f:qc xq (((X.length+U.length:Nat):Int)-A.length)=((X++P).length:Int):=by rw[aj _];simp;omega
  have K:qc xq ((qc xq (((X.length+U.length:Nat):Int)+c.length))-A.length)=(((X++P).length+A.length+(c.take j).length:Nat):Int):=by
   rw[aj (((X.length+U.length:Nat):Int)+c.length),aj _,i];simp;omega
  rw[f,K];have d:aa B h0 q (co s ((X++P)++(A++(c.take j++(c.drop j++(Q++Y)))))::As):=by
   have:(X++P)++(A++(c.take j++(c.drop j++(Q++Y))))=X++(P++(A++(c++(Q++Y)))):=by
    conv=>rhs;rw[D]
    simp only[qo,zA,wh]
   rw[this];exact p
  refine(rj (X++P) A (c.take j) (c.drop j) (Q++Y) A.length _ _ rfl k rfl rfl (by simp;omega) d).mono ?_;rintro _ w ⟨rfl,l⟩;refine⟨(),rfl,(P,c.drop j,c.take j,A++Q),?_,⟨by dsimp only;omega,by dsimp only;omega,by dsimp only;omega,?_,?_⟩,by dsimp only;omega⟩
  ·dsimp only;rw[i,k,aj _];congr 1;omega
  ·dsimp only;rw[o,qx];simp
  ·dsimp only;have:X++(P++(c.drop j++(c.take j++((A++Q)++Y))))=(X++P)++(c.drop j++(c.take j++(A++(Q++Y)))):=by simp
   rw[this];exact l
 ·have u:A.length=c.length:=by omega
  have f:qc xq (((X.length+U.length:Nat):Int)-A.length)=((X++P).length:Int):=by rw[aj _];simp;omega
  rw[f];have d:aa B h0 q (co s ((X++P)++(A++([]++(c++(Q++Y)))))::As):=by
   have:(X++P)++(A++([]++(c++(Q++Y))))=X++(P++(A++(c++(Q++Y)))):=by simp
   rw[this];exact p
  refine(rj (X++P) A [] c (Q++Y) A.length _ _ rfl u.symm rfl (by simp;omega) (by simp;omega) d).mono ?_;rintro _ w ⟨rfl,l⟩;refine⟨(),rfl,rfl,?_⟩;have:X++(V++(U++Y))=(X++P)++(c++([]++(A++(Q++Y)))):=by
   have:V++(U++Y)=(V++U)++Y:=by simp
   rw[this,o];simp
  rw[this];exact l
end
end Go.Qw
namespace Wl
open Go
theorem VW(l:aU)(x:UInt8):cO (l++[x])=cO l*256+x.toNat:=by unfold cO;rw[List.foldl_append];rfl
theorem QV:∀l:aU,l.length<=4->0<=cO l/\cO l<4294967296/\(l.length<=3->cO l<16777216)
 |[],_=>by simp[cO]
 |[a],_=>by have:=a.toNat_lt;simp only[cO,zD,wx];omega
 |[a,b],_=>by have:=a.toNat_lt;have:=b.toNat_lt;simp only[cO,zD,wx];omega
 |[a,b,c],_=>by have:=a.toNat_lt;have:=b.toNat_lt;have:=c.toNat_lt;simp only[cO,zD,wx];omega
 |[a,b,c,d],_=>by have:=a.toNat_lt;have:=b.toNat_lt;have:=c.toNat_lt;have:=d.toNat_lt;simp only[cO,zD,wx,zi,y8];omega
 |_::_::_::_::_::_,h=>by simp at h
theorem aeQ(n x:Nat)(e:n<2^32)(f:x<256):qc xq (((qu (qk xq) (qc xq ((n:Int)*2^min (8:Int).toNat (qk xq)))|||qu (qk xq) (qc xq (x:Int))).toNat:Nat):Int)=(n:Int)*256+x:=by
 have a:min (8:Int).toNat (qk xq)=8:=rfl;rw[a];have d:qc xq ((n:Int)*2^8)=((n*256:Nat):Int):=by rw[Go.Vc.aj _];omega
 have e2:qc xq (x:Int)=((x:Nat):Int):=Go.Vc.aj _;rw[d,e2];have c:(qu (qk xq) ((n*256:Nat):Int)|||qu (qk xq) ((x:Nat):Int)).toNat=n*256+x:=by
  show((qu 64 ((n*256:Nat):Int)|||qu 64 ((x:Nat):Int):BitVec 64)).toNat=n*256+x;rw[BitVec.toNat_or,ya,ya,wN,wN,zV (by omega),zV (by omega)];have:=Nat.shiftLeft_add_eq_or_of_lt (b:=x) (i:=8) (by omega) n;rw[Nat.shiftLeft_eq,show(2:Nat)^8=256 from rfl]at this;omega
 rw[c,Go.Vc.aj _];omega
end Wl
namespace Go.Vc
open Go Wl
def eJ:iO bw cV:=⟨fun h q a b=>(a.1=b.object/\a.2.1=b.block/\a.2.2.1=b.id/\(a.2.2.2.1,a.2.2.2.2.1,a.2.2.2.2.2.1)=b.p/\a.2.2.2.2.2.2.1=b.seed/\0<=b.seed/\b.seed<4294967296)/\Seq h q a.2.2.2.2.2.2.2 1 az b.data,fun a c=>⟨a.1,a.2.ag c⟩,fun a d=>⟨a.1,a.2.mono d⟩⟩
end Go.Vc
namespace Go.Qw
open Go Go.Vc Go.Proofs Wl
theorem ws{p q:aA}(a b:Sl)(c d:aU)(h:Heap)(f:Seq h p a 1 az c)(e:Seq h q b 1 az d):
  ab xv 187 #[a,b] h fun v h'=>v=xo (decide (c=d))/\h'=h:=by
 refine Kp a b ?_;unfold Ec;refine LC ac ⟨_,rfl,rfl⟩ ⟨_,rfl,rfl⟩ ⟨_,rfl,rfl⟩ f (LC ac ⟨_,rfl,rfl⟩ ⟨_,rfl,rfl⟩ ⟨_,rfl,rfl⟩ e ⟨?_,rfl⟩);rw[ByteArray.toList_mk,ByteArray.toList_mk];have:(c==d)=decide (c=d):=by rw[Bool.eq_iff_iff];simp
 rw[this]
theorem VX(b:Sl)(c:aU)(h:Heap)(g:Rd h b 1 az c)(y:c.length<=2^30)(f:b.len<=b.cap):
  ab xv 111 #[b] h fun v h'=>(eU c=none->v=.tuple #[xk xq 0,xl none 0 0,xo false]/\Sp h h' [])/\
   ∀k x,eU c=some (k,x)->∃r:Sl,v=.tuple #[xk xq k,r,xo true]/\Sp h h' [an 5 r 1 az x]:=by
 refine Ov b ?_;unfold HS;have w:=g.len;refine bV (fun e=>?_) (fun e=>?_)
 ·have:eU c=none:=by unfold eU;rw[if_neg (fun a=>e (by omega))]
  rw[this];exact⟨fun _=>⟨rfl,Sp.refl h⟩,fun k x h=>(by cases h)⟩
 have n:c.length=64:=by omega
 have h3:3<c.length:=by omega
 refine g.JB 3 rfl h3 ((c.getD 3 0).toNat:Int) (by rw[getD_lt h3];rfl) fun A l=>⟨⟨by decide,by decide,by omega⟩,?_⟩
 have d:=(g.drop 4 f).take 55 (by simp;omega);have p:((c.drop 4).take 55).length=55:=by simp;omega
 refine(fm ⟨_,55,b.cap-4⟩ ((c.drop 4).take 55) h d).mono ?_;rintro _ t ⟨r,rfl,m⟩;refine⟨r,rfl,nY m.ag ⟨l,trivial⟩,?_⟩;have z:=(c.getD 3 0).toNat_lt;rw[aj ((c.getD 3 0).toNat:Int)];refine(Ge ((c.getD 3 0).toNat:Int) r ((c.drop 4).take 55) t (m.seq 0 rfl fun _=>rfl)).mono ?_;rintro _ u ⟨q,rfl,s⟩;have i:=m.comp s;refine⟨q,rfl,(ws b q c _ u (g.up i.ag) (i.seq 1 rfl fun _=>rfl)).mono ?_⟩;rintro _ h3 ⟨rfl,rfl⟩;refine⟨_,rfl,be (fun e2=>?_) (fun e2=>?_)⟩
 ·have j:c≠dO ((c.getD 3 0).toNat:Int) ((c.drop 4).take 55):=of_decide_eq_false e2;have:eU c=none:=by unfold eU;rw[if_neg (fun a=>j a.2.symm)]
  rw[this];exact⟨fun _=>⟨rfl,.zip i.ag⟩,fun k x h=>(by cases h)⟩
 ·have o:c=dO ((c.getD 3 0).toNat:Int) ((c.drop 4).take 55):=of_decide_eq_true e2;have:eU c=some (((c.getD 3 0).toNat:Int),(c.drop 4).take 55):=by unfold eU;rw[if_pos ⟨n,o.symm⟩]
  rw[this];refine⟨fun h=>(by cases h),fun k x a=>?_⟩;injection a with a
  injection a with hh1 hh2
  subst hh1;subst hh2;exact⟨r,rfl,i.cj [0]⟩
theorem NF(b:Sl)(l:aU)(h:Heap)(d:Rd h b 1 az l)(k:l.length<=4):ab xv 296 #[b] h fun v h'=>v=xk xq (cO l)/\h'=h:=by
 refine KB b ?_;unfold El;have f:=d.len;refine au (fun i:Nat=>(cO (l.take i),(i:Int))) (fun i h'=>i<=l.length/\h'=h) (fun i=>l.length-i) 0 rfl ⟨by omega,rfl⟩ ?_;rintro i o ⟨m,rfl⟩;dsimp only;refine ai (fun e=>?_) (fun e=>?_)
 ·have a:i<l.length:=by omega
  refine d.bt i rfl a (l[i].toNat:Int) rfl ⟨by decide,?_⟩;have c:=(QV (l.take i) (by simp;omega))
  have j:=c.2.2 (by simp;omega);have p:=l[i].toNat_lt;obtain⟨n,g⟩:∃n:Nat,cO (l.take i)=(n:Int):=⟨(cO (l.take i)).toNat,by omega⟩
  refine⟨i+1,?_,⟨by omega,rfl⟩,by omega⟩;rw[aH _ _ a,VW,g,aeQ n _ (by omega) (by omega),aj ((i:Int)+1)];rfl
 ·rw[qi (by omega)];exact⟨rfl,rfl⟩
theorem Ic(x:bw)(r:cV)(h:Heap)(E:fg eJ h x r):ab xv 290 #[recv x] h fun v h'=>v=xo (iC r)/\Sp h h' []:=by
 refine Mh x ?_;unfold FY;obtain⟨⟨G,e2,B,m,J,_⟩,A⟩:=E;have s:x.2.2.2.1=r.p.1:=congrArg (·.1) m;have q:x.2.2.2.2.1=r.p.2.1:=congrArg (·.2.1) m;have e:x.2.2.2.2.2.1=r.p.2.2:=congrArg (·.2.2) m;have d:=Seq.len A;refine(Sp.refl h).boxed fun a i f=>?_;have f:Sp h i [ar a 233 (bI x)]:=f;have k:=f.box 0 rfl;have y:cellOf i a=some (xk xq r.object):=by rw[<-G];exact k.cell0 rfl
 have u:cellOf i (a.add 1)=some (xk xq r.block):=by rw[<-e2];exact k.cell rfl
 have w:cellOf i (a.add 2)=some (xk xq r.id):=by rw[<-B];exact k.cell rfl
 have t:∀{h':Heap},Sp h h' [ar a 233 (bI x)]->(iC r=true->False)->Value.bool false=xo (iC r)/\Sp h h' []:=fun{h'} H' hn=>⟨by cases hq:iC r with|false=>rfl|true=>exact absurd hq hn,.zip H'.ag⟩
 refine bO (fun b h'=>b=decide ((0<=r.object/\r.object<=16777215)/\(0<=r.block/\r.block<=7)/\(0<=r.id/\r.id<=65535))/\h'=i) ?_ ?_
 ·refine⟨_,y,ai (fun F=>⟨_,y,ai (fun c=>⟨_,u,ai (fun D=>⟨_,u,ai (fun I=>⟨_,w,ai (fun z=>⟨_,w,?_,rfl⟩) fun z=>⟨?_,rfl⟩⟩) fun I=>⟨?_,rfl⟩⟩) fun D=>⟨?_,rfl⟩⟩) fun c=>⟨?_,rfl⟩⟩) fun F=>⟨?_,rfl⟩⟩
  ·rw[decide_eq_decide];omega
  all_goals (symm;rw[decide_eq_false_iff_not];omega)
 ·rintro _ _ ⟨rfl,rfl⟩;refine ai (fun g=>?_) fun g=>t f fun o=>g (by have:=(jO r).1 o;omega);refine⟨r.p,by rw[<-s,<-q,<-e];exact k.Ho 3 rfl rfl rfl,(dz r.p _).mono ?_⟩;rintro _ h3 ⟨rfl,H⟩;have n:Sp h h3 [ar a 233 (bI x)]:=f.up H.ag;have j:=n.box 0 rfl;refine⟨_,rfl,bF (fun c=>?_) fun c=>t n fun o=>by have:=((jO r).1 o).2.2.2.1;rw[c]at this;cases this⟩;refine⟨x.2.2.2.2.2.2.2,j.cell rfl,r.p.2.2,by rw[<-e];exact j.wn 3 2 rfl,?_,.zip n.ag⟩;congr 1;by_cases l:(r.data.length:Int)=r.p.2.2
  ·have:iC r=true:=(jO r).2 ⟨by omega,by omega,by omega,c,l⟩;rw[this,d];simpa using l
  ·have:iC r=false:=by
    cases hq:iC r with
    |false=>rfl
    |true=>exact absurd ((jO r).1 hq).2.2.2.2 l
   rw[this,d];simpa using l
section
variable {B:aA} {h0 h h':Heap} {As:List HP}
theorem mF(s:Sl)(l:aU)(n:Int)(k:Nat)(p:k<=4)(j:l.length<=2^30)(H:aa B h0 h (an 5 s 1 az l::As)):
  ab xv 291 #[s,xk xq n,xk xq k] h fun v h'=>∃r:Sl,v=r/\aa B h0 h' (an 5 r 1 az (l++bL n k)::As):=by
 refine Hx s n k ?_;unfold Ax;rw[aj ((k:Int)-1)];refine au (fun t:Sl×Nat=>(t.1,(k:Int)-1-t.2)) (fun t h'=>t.2<=k/\aa B h0 h' (an 5 t.1 1 az (l++(bL n k).take t.2)::As)) (fun t=>k-t.2) (s,0) (by simp) ⟨by simp,by simpa using H⟩ ?_;rintro⟨r,t⟩ m ⟨q,a⟩;dsimp only at*;refine ai (fun e=>?_) (fun e=>?_)
 ·have b:t<k:=by omega
  have f:qc xq ((8:Int)*((k:Int)-1-t))=((8*(k-1-t):Nat):Int):=by
   rw[aj _];omega
  rw[f,qp];have e2:min (8*(k-1-t)) (qk xq)=8*(k-1-t):=by
   have:qk xq=64:=rfl;omega
  rw[e2,dY];refine⟨by omega,?_⟩;refine a.push ac 0 rfl fi rfl (by decide) (fun _=>rfl) fT (b8 (qQ n (2^(8*(k-1-t))))) rfl (by decide) (by simp[ci];omega) fun g o i=>?_;refine⟨(g,t+1),?_,⟨by dsimp only;omega,?_⟩,by dsimp only;omega⟩
  ·dsimp only;have d:qc xq ((k:Int)-1-t-1)=(k:Int)-1-((t+1:Nat):Int):=by
    rw[aj _];omega
   rw[d]
  ·dsimp only;have c:(bL n k).take t++[b8 (qQ n (2^(8*(k-1-t))))]=(bL n k).take (t+1):=by
    rw[aH _ _ (by rw[ci];exact b)];congr 2;simp[bL]
   rw[<-c,<-qo];exact i
 ·have:t=k:=by omega
  subst this;rw[qi (by rw[ci];omega)]at a;exact⟨r,rfl,a⟩
end
theorem Bb(x:bw)(r:cV)(h:Heap)(H:fg eJ h x r):ab xv 227 #[recv x] h fun v h'=>∃s:Sl,v=s/\Sp h h' [an 5 s 1 az (dI r)]:=by
 refine Mb x ?_;unfold FR;obtain⟨⟨U,e2,Q,i,O,e7,e8⟩,P⟩:=id H;have t:x.2.2.2.1=r.p.1:=congrArg (·.1) i;have q:x.2.2.2.2.1=r.p.2.1:=congrArg (·.2.1) i;have j:x.2.2.2.2.2.1=r.p.2.2:=congrArg (·.2.2) i;refine(Sp.refl h).boxed fun e G b=>?_;have b:Sp h G [ar e 233 (bI x)]:=b;refine⟨x,(b.box 0 rfl).aF _ rfl,(Ic x r G (eJ.mono (eJ.loc H b.ag) fun _ M=>qL M b.ag.1)).mono ?_⟩;rintro _ T ⟨rfl,S⟩;have k:Sp h T [ar e 233 (bI x)]:=b.up S.ag;refine⟨_,rfl,be (fun g=>?_) (fun g=>?_)⟩
 ·unfold dI;rw[g];exact⟨⟨none,0,0⟩,rfl,(k.nil 5 1 az).cj [1]⟩
 have Y:=nZ g;have u:=k.box 0 rfl;refine⟨r.object,by rw[<-U];exact u.cell0 rfl,(mF ⟨none,0,0⟩ [] r.object 3 (by decide) (by simp) (k.nil 5 1 az).bH).mono ?_⟩;rintro _ h3 ⟨D,rfl,F⟩;have n:=F.box 1 rfl;refine⟨D,rfl,r.block,by rw[<-e2];exact n.cell rfl,(mF D _ r.block 1 (by decide) (by simp[ci]) F).mono ?_⟩;rintro _ h4 ⟨E,rfl,B⟩;have y:=B.box 1 rfl;refine⟨E,rfl,r.id,by rw[<-Q];exact y.cell rfl,(mF E _ r.id 2 (by decide) (by simp[ci]) B).mono ?_⟩;rintro _ h5 ⟨V,rfl,I⟩;have a:=I.box 1 rfl;refine⟨V,rfl,r.p.1,by rw[<-t];exact a.cell rfl,r.p.2.1,by rw[<-q];exact a.wn 3 1 rfl,r.p.2.2,by rw[<-j];exact a.wn 3 2 rfl,?_⟩;rw[dY,dY,dY];refine I.lit ac az fi rfl [b8 r.p.1,b8 r.p.2.1,b8 r.p.2.2] rfl (show 3*1<=2^20 by decide) rfl fun R Z z=>?_;refine z.append ac 0 rfl fi ⟨_,_,rfl,rfl⟩ rfl (by decide) (fun _=>rfl) (z.seq 2 rfl fun _=>rfl) fT (by simp[ci]) fun A W d=>?_;have d:Sp h W [an 5 A 1 az ([]++bL r.object 3++bL r.block 1++bL r.id 2++[b8 r.p.1,b8 r.p.2.1,b8 r.p.2.2]),ar e 233 (bI x)]:=d.cj [0,1];have m:=d.box 1 rfl;refine⟨r.seed,by rw[<-O];exact m.cell rfl,?_⟩;rw[aj r.seed];refine(mF A _ r.seed 4 (by decide) (by simp[ci]) d).mono ?_;rintro _ h8 ⟨X,rfl,l⟩;have o:=l.box 1 rfl;refine⟨X,rfl,x.2.2.2.2.2.2.2,o.cell rfl,?_⟩;refine l.append ac 0 rfl fi ⟨_,_,rfl,rfl⟩ rfl (by decide) (fun _=>rfl) (Seq.up P l.ag) fT (by simp[ci];omega) fun J K f=>?_;have N:[]++bL r.object 3++bL r.block 1++bL r.id 2++[b8 r.p.1,b8 r.p.2.1,b8 r.p.2.2]++bL r.seed 4++r.data=im r:=by unfold im;simp[qo]
 have f:Sp h K [an 5 J 1 az (im r),ar e 233 (bI x)]:=by rw[<-N];exact f
 refine(Ge 1 J (im r) K (f.seq 0 rfl fun _=>rfl)).mono ?_;rintro _ L ⟨c,rfl,w⟩;refine⟨c,rfl,c,rfl,?_⟩;unfold dI;rw[g,if_pos rfl];exact(f.comp w).cj [2]
theorem QW(b:Sl)(c:aU)(h:Heap)(hb:Rd h b 1 az c)(hc:c.length<=2^30)(Y:b.len<=b.cap):
  ab xv 238 #[b] h fun v h'=>∃x:bw,v=.tuple #[recv x,xo (cP c).isSome]/\(cP c=none->Sp h h' [])/\∀r,cP c=some r->Sp h h' [EA eJ x r]:=by
 refine Kw b ?_;unfold Eh;refine(Sp.refl h).alloc ac rfl fun f h1 Q=>?_;have Q:Sp h h1 [ar f 233 (bI (0,0,0,0,0,0,0,⟨none,0,0⟩))]:=Q;have D:∀{h':Heap} {Bs:List HP},Sp h h' (ar f 233 (bI (0,0,0,0,0,0,0,⟨none,0,0⟩))::Bs)->cP c=none->
   ae xv (qf 233 (xm (some f)) (recv (0,0,0,0,0,0,0,⟨none,0,0⟩))) h' fun _ H=>∃P:bw,al H f 0 (bI P)/\∃x:bw,Value.tuple #[recv P,xo false]=.tuple #[recv x,xo (cP c).isSome]/\(cP c=none->Sp h H [])/\∀r,cP c=some r->Sp h H [EA eJ x r]:=fun{h' Bs} H' G=>by
  refine H'.storeAll ac 0 rfl rfl (bI (0,0,0,0,0,0,0,⟨none,0,0⟩)) rfl rfl rfl rfl fun H H4=>?_;exact⟨(0,0,0,0,0,0,0,⟨none,0,0⟩),(H4.box 0 rfl).aF _ rfl,(0,0,0,0,0,0,0,⟨none,0,0⟩),by rw[G];rfl,fun _=>.zip H4.ag,fun r O=>by rw[G]at O;cases O⟩
 refine(VX b c h1 (hb.up Q.ag) hc Y).mono ?_;rintro _ h2 ⟨Q0,Q1⟩;cases htc:eU c with
 |none=>
  obtain⟨rfl,R2⟩:=Q0 htc;have G:cP c=none:=by unfold cP;rw[htc]
  exact⟨(0,⟨none,0,0⟩,false),rfl,aT (be (fun _=>D (Q.up R2.ag) G) fun e=>by cases e)⟩
 |some kx=>
  obtain⟨k,x⟩:=kx;obtain⟨r,rfl,R2⟩:=Q1 k x htc;have s:Sp h h2 [ar f 233 (bI (0,0,0,0,0,0,0,⟨none,0,0⟩)),an 5 r 1 az x]:=Q.comp R2;have a5:x.length=55:=by
   unfold eU at htc;split at htc
   ·rename_i m;injection htc with htc
    injection htc with _ htc
    rw[<-htc];simp;omega
   ·cases htc
  have a8:=(s.own 1 rfl).len;have W:=(s.own 1 rfl).cap;refine⟨(k,r,true),rfl,aT (be (fun e=>by cases e) fun _=>bV (fun e=>D s ?_) fun J=>?_)⟩
  ·unfold cP;rw[htc];exact if_neg fun m=>e m.1
  dsimp only;have J:k=1:=J;obtain⟨R,t⟩:∃R,R=tG x:=⟨_,rfl⟩
  have M:cP c=if bA R.p=true/\dI R=c then some R else none:=by
   unfold cP;rw[htc];dsimp only;rw[<-t];by_cases m:bA R.p=true/\dI R=c
   ·rw[if_pos m];exact if_pos ⟨J,m⟩
   ·rw[if_neg m];exact if_neg fun h=>m h.2
  have tA:∀{h':Heap},Rd h' r 1 az x->ab xv 296 #[xl r.ptr 3 r.cap] h' fun v L=>v=xk xq R.object/\L=h':=fun{h'} O=>by
   rw[t];exact NF ⟨r.ptr,3,r.cap⟩ (x.take 3) h' (O.take 3 (by omega)) (by simp;omega)
  have N:∀{h':Heap} (j n:Nat),j+n<=55->n<=4->Rd h' r 1 az x->ab xv 296 #[.slice (if r.cap=j then r.ptr else r.ptr.map (·.add (j*1))) n (r.cap-j)] h' fun v L=>v=xk xq (cO ((x.drop j).take n))/\L=h':=fun{h'} j n hjn G O=>
   NF ⟨if r.cap=j then r.ptr else r.ptr.map (·.add (j*1)),n,r.cap-j⟩ ((x.drop j).take n) h' ((O.drop j W).take n (by rw[qZ];omega)) (by simp;omega)
  have rd:∀{h':Heap} {A:HP} {Bs:List HP},Sp h h' (A::an 5 r 1 az x::Bs)->Rd h' r 1 az x:=fun{h' A Bs} H'=>H'.seq 1 rfl fun _=>rfl;have DJ:∀{h':Heap} {A A2:HP} {Bs:List HP},Sp h h' (A::A2::an 5 r 1 az x::Bs)->Rd h' r 1 az x:=fun{h' A A2 Bs} H'=>H'.seq 2 rfl fun _=>rfl;refine bO (fun(a:Addr) h'=>Sp h h' [ar a 233 (bI (R.object,R.block,R.id,0,0,0,0,⟨none,0,0⟩)),ar f 233 (bI (0,0,0,0,0,0,0,⟨none,0,0⟩)),an 5 r 1 az x]) ?_ ?_
  ·have eb:cO ((x.drop 3).take 1)=R.block:=by rw[t];rfl
   have ei:cO ((x.drop 4).take 2)=R.id:=by rw[t];rfl
   have fin:∀{h':Heap} {a:Addr},Sp h h' [ar f 233 (bI (0,0,0,0,0,0,0,⟨none,0,0⟩)),an 5 r 1 az x,ar a 233 (bI (0,0,0,0,0,0,0,⟨none,0,0⟩))]->
     ae xv (qf 233 (xm (some a)) (recv (R.object,R.block,R.id,0,0,0,0,⟨none,0,0⟩))) h' fun _ H=>aq.ok [] H/\Sp h H [ar a 233 (bI (R.object,R.block,R.id,0,0,0,0,⟨none,0,0⟩)),ar f 233 (bI (0,0,0,0,0,0,0,⟨none,0,0⟩)),an 5 r 1 az x]:=fun{h' a} H'=>
    H'.storeAll ac 2 rfl rfl (bI (R.object,R.block,R.id,0,0,0,0,⟨none,0,0⟩)) rfl rfl rfl rfl fun H H4=>⟨trivial,H4.cj [2,0,1]⟩
   have A_:∀{h':Heap} {Bs:List HP} {K:Int->Heap->Prop},Sp h h' (ar f 233 (bI (0,0,0,0,0,0,0,⟨none,0,0⟩))::an 5 r 1 az x::Bs)->K R.object h'->af xv 296 #[xl r.ptr 3 r.cap] (.one (.sc (.int .i64))) h' K:=fun{h' Bs K} H' hK=>by
    refine(tA (rd H')).mono ?_;rintro _ _ ⟨rfl,rfl⟩;exact⟨_,rfl,hK⟩
   have B_:∀{h':Heap} {Bs:List HP} {K:Int->Heap->Prop},Sp h h' (ar f 233 (bI (0,0,0,0,0,0,0,⟨none,0,0⟩))::an 5 r 1 az x::Bs)->K R.block h'->af xv 296 #[.slice (if r.cap=3 then r.ptr else r.ptr.map (·.add (3*1))) 1 (r.cap-3)] (.one (.sc (.int .i64))) h' K:=fun{h' Bs K} H' hK=>by
    refine(N 3 1 (by decide) (by decide) (rd H')).mono ?_;rintro _ _ ⟨rfl,rfl⟩;exact⟨_,rfl,by rw[eb];exact hK⟩
   have C_:∀{h':Heap} {Bs:List HP} {K:Int->Heap->Prop},Sp h h' (ar f 233 (bI (0,0,0,0,0,0,0,⟨none,0,0⟩))::an 5 r 1 az x::Bs)->K R.id h'->af xv 296 #[.slice (if r.cap=4 then r.ptr else r.ptr.map (·.add (4*1))) 2 (r.cap-4)] (.one (.sc (.int .i64))) h' K:=fun{h' Bs K} H' hK=>by
    refine(N 4 2 (by decide) (by decide) (rd H')).mono ?_;rintro _ _ ⟨rfl,rfl⟩;exact⟨_,rfl,by rw[ei];exact hK⟩
   refine⟨⟨by decide,by omega⟩,⟨by decide,by decide,by omega⟩,⟨by decide,by decide,by omega⟩,A_ s ⟨trivial,B_ s ⟨trivial,C_ s ⟨trivial,?_⟩,?_⟩,?_⟩,?_⟩
   ·refine s.alloc ac rfl fun a9 h9 l=>⟨trivial,?_⟩
    exact fin l
   ·refine s.alloc ac rfl fun a9 h9 l=>⟨trivial,?_⟩
    exact C_ l ⟨trivial,fin l⟩
   ·refine s.alloc ac rfl fun a9 h9 l=>⟨trivial,?_⟩
    exact B_ l ⟨trivial,C_ l ⟨trivial,fin l⟩⟩
   ·refine s.alloc ac rfl fun a9 h9 l=>⟨trivial,?_⟩
    exact A_ l ⟨trivial,B_ l ⟨trivial,C_ l ⟨trivial,fin l⟩⟩⟩
  ·rintro a9 h5 H5;have I:0<=R.seed/\R.seed<4294967296:=by
    have:=QV ((x.drop 9).take 4) (by simp;omega);rw[t];exact⟨this.1,this.2.1⟩
   have e6:cO ((x.drop 6).take 1)=R.p.1:=by rw[t];rfl
   have e7:cO ((x.drop 7).take 1)=R.p.2.1:=by rw[t];rfl
   have e8:cO ((x.drop 8).take 1)=R.p.2.2:=by rw[t];rfl
   have e9:cO ((x.drop 9).take 4)=R.seed:=by rw[t];rfl
   refine aT ⟨⟨by decide,by decide,by omega⟩,⟨by decide,by decide,by omega⟩,⟨by decide,by decide,by omega⟩,(N 6 1 (by decide) (by decide) (DJ H5)).mono ?_⟩;rintro _ _ ⟨rfl,rfl⟩;refine⟨_,rfl,trivial,(N 7 1 (by decide) (by decide) (DJ H5)).mono ?_⟩;rintro _ _ ⟨rfl,rfl⟩;refine⟨_,rfl,trivial,(N 8 1 (by decide) (by decide) (DJ H5)).mono ?_⟩;rintro _ bd ⟨rfl,rfl⟩;refine⟨_,rfl,trivial,?_⟩;dsimp only;rw[e6,e7,e8];refine H5.store ac 0 rfl rfl 3 [xk xq R.p.1,xk xq R.p.2.1,xk xq R.p.2.2] rfl rfl rfl (by simp) fun a2 B=>⟨trivial,?_⟩
   have B:Sp h a2 [ar a9 233 (bI (R.object,R.block,R.id,R.p.1,R.p.2.1,R.p.2.2,0,⟨none,0,0⟩)),ar f 233 (bI (0,0,0,0,0,0,0,⟨none,0,0⟩)),an 5 r 1 az x]:=B;refine⟨⟨by decide,by decide,by omega⟩,(N 9 4 (by decide) (by decide) (DJ B)).mono ?_⟩;rintro _ a7 ⟨rfl,rfl⟩;refine⟨_,rfl,?_⟩;dsimp only;have ew:qc xt (cO ((x.drop 9).take 4))=R.seed:=by
    rw[e9];unfold qc;simp[qk,yC];omega
   rw[ew];refine B.store ac 0 rfl rfl 6 [xk xt R.seed] rfl rfl rfl (by simp) fun S y=>?_;have y:Sp h S [ar a9 233 (bI (R.object,R.block,R.id,R.p.1,R.p.2.1,R.p.2.2,R.seed,⟨none,0,0⟩)),ar f 233 (bI (0,0,0,0,0,0,0,⟨none,0,0⟩)),an 5 r 1 az x]:=y;refine⟨R.p,(y.box 0 rfl).Ho 3 rfl rfl rfl,(dz R.p S).mono ?_⟩;rintro _ ad ⟨rfl,ax⟩;have z:Sp h ad [ar a9 233 (bI (R.object,R.block,R.id,R.p.1,R.p.2.1,R.p.2.2,R.seed,⟨none,0,0⟩)),ar f 233 (bI (0,0,0,0,0,0,0,⟨none,0,0⟩)),an 5 r 1 az x]:=y.up ax.ag;refine⟨_,rfl,be (fun g=>D (z.bo 2 [1,0]) (by rw[M,if_neg (fun m=>by rw[g]at m;cases m.1)])) fun g=>?_⟩;have bl:=(bC R.p).1 g;refine⟨R.p.2.2,(z.box 0 rfl).wn 3 2 rfl,?_⟩;rw[aj ((13:Int)+R.p.2.2)];refine⟨⟨by decide,by omega,by omega⟩,?_⟩;have ah:((13:Int)+R.p.2.2).toNat-(13:Int).toNat=R.p.2.2.toNat:=by omega
   rw[ah];have F:(x.drop 13).take R.p.2.2.toNat=R.data:=by rw[t];rfl
   have E:=((DJ z).drop 13 W).take R.p.2.2.toNat (by rw[qZ];omega);rw[F]at E;have bk:R.data.length=R.p.2.2.toNat:=by rw[<-F];simp;omega
   refine(fm ⟨if r.cap=13 then r.ptr else r.ptr.map (·.add (13*1)),R.p.2.2.toNat,r.cap-13⟩ R.data ad E).mono ?_;rintro _ bb ⟨u,rfl,am⟩;have a3:=z.comp am;refine⟨u,rfl,?_⟩;refine a3.store ac 0 rfl rfl 7 [u] rfl rfl rfl (by simp) fun T i=>?_;have i:Sp h T [ar a9 233 (bI (R.object,R.block,R.id,R.p.1,R.p.2.1,R.p.2.2,R.seed,u)),ar f 233 (bI (0,0,0,0,0,0,0,⟨none,0,0⟩)),an 5 r 1 az x,an 5 u 1 az R.data]:=i;obtain⟨X,hX⟩:∃X:bw,X=(R.object,R.block,R.id,R.p.1,R.p.2.1,R.p.2.2,R.seed,u):=⟨_,rfl⟩
   rw[<-hX]at i;have V:∀{h':Heap} {q:aA},Seq h' q u 1 az R.data->eJ.p h' q X R:=fun{h' q} hs=>by rw[hX];exact⟨⟨rfl,rfl,rfl,rfl,rfl,I⟩,hs⟩
   refine⟨X,(i.box 0 rfl).aF _ rfl,(Bb X R T (V (i.seq 3 rfl fun _=>rfl))).mono ?_⟩;rintro _ a4 ⟨s5,rfl,ay⟩;have o:=i.comp ay;refine⟨s5,rfl,(ws b s5 c (dI R) a4 (hb.up o.ag) (o.seq 4 rfl fun _=>rfl)).mono ?_⟩;rintro _ a6 ⟨rfl,rfl⟩;refine⟨_,rfl,be (fun Z=>D (o.bo 2 [1,0]) (by rw[M,if_neg (fun m=>(of_decide_eq_false Z) m.2.symm)])) fun Z=>?_⟩;have Z:c=dI R:=of_decide_eq_true Z;refine⟨X,(o.box 0 rfl).aF _ rfl,?_⟩;refine o.storeAll ac 1 rfl rfl (bI X) rfl rfl rfl rfl fun ap U=>?_;have d:cP c=some R:=by rw[M,if_pos ⟨g,Z.symm⟩]
   refine⟨X,(U.box 1 rfl).aF _ rfl,X,by rw[d];rfl,fun G=>(by rw[d]at G;cases G),fun r' w=>?_⟩;rw[d]at w;injection w with w
   subst w;have a0:Sp h ap [an 5 u 1 az R.data]:=U.cj [3];exact a0.ga 0 rfl fun q hq=>V (hq.1.seq (fun _=>rfl) hq.2)
end Go.Qw
namespace Go.Vc
open Go Wl Go.Qw
section
variable {B:aA} {h0 h h':Heap} {As L:List HP} {X Y Z:HP}
theorem aa.afI(H:aa B h0 h (X::Y::(L++As))):aa B h0 h (L++(X::Y::As)):=
 H.pick (fun i=>if i<L.length then i+2 else if i=L.length then 0 else if i=L.length+1 then 1 else i) (fun a b c=>by(try dsimp only at c);split at c<;>split at c<;>(try split at c)<;>(try split at c)<;>(try split at c)<;>(try split at c)<;>omega) fun i A d=>by
  try dsimp only
  by_cases g:i<L.length
  ·rw[qm g]at d;rw[if_pos g,qz,qz,qm g];exact d
  ·rw[qj (by omega)]at d;rw[if_neg g];by_cases e:i=L.length
   ·subst e;rw[if_pos rfl];rw[zd]at d;exact d
   ·rw[if_neg e];by_cases f:i=L.length+1
    ·subst f;rw[if_pos rfl];rw[show L.length+1-L.length=1 by omega]at d;exact d
    ·rw[if_neg f];obtain⟨j,rfl⟩:∃j,i=L.length+(j+2):=⟨i-L.length-2,by omega⟩
     rw[zn,qz,qz]at d;rw[show L.length+(j+2)=(L.length+j)+1+1 by omega,qz,qz,qj (by omega),zn];exact d
theorem aa.adx(n:Nat)(b:L[n]?=some X)(H:aa B h0 h (Y::Z::(L++As))):aa B h0 h (X::Z::Y::(L.set n emp++As)):=by
 have a:=(qn.1 b).1;have c:=H.cons (n+2) (A:=X) (by rw[qz,qz,qm a];exact b);have e:(Y::Z::(L++As)).set (n+2) emp=Y::Z::(L.set n emp++As):=by
  rw[wM,wM,List.set_append_left _ _ a]
 rw[e]at c;exact c.bo 3 [0,2,1]
theorem aa.Uz(n:Nat)(f:n<L.length)(H:aa B h0 h (X::Z::Y::(L.set n emp++As))):aa B h0 h (Y::Z::(L.set n X++As)):=
 H.pick (fun i=>if i=0 then 2 else if i=1 then 1 else if i=n+2 then 0 else i+1) (fun a b c=>by(try dsimp only at c);split at c<;>split at c<;>(try split at c)<;>(try split at c)<;>(try split at c)<;>(try split at c)<;>omega) fun i A d=>by
  try dsimp only
  match i,d with
  |0,d=>exact d
  |1,d=>exact d
  |i+2,d=>
   rw[if_neg (by omega),if_neg (by omega)];rw[qz,qz]at d;by_cases e:i=n
   ·subst e;rw[qm (by simpa using f),zC f]at d;rw[if_pos rfl];exact d
   ·rw[if_neg (by omega),qz,qz,qz];by_cases g:i<L.length
    ·rw[qm (by simpa using g),zY (by omega)]at d;rw[qm (by simpa using g),zY (by omega)];exact d
    ·rw[qj (by simp;omega),zr]at d;rw[qj (by simp;omega),zr];exact d
end
structure Kit where
 tS:Nat
 tP:Nat
 tD:Nat
 f:Addr->bv->Sl->Sl->aV
def aeR(k:Kit)(pw:Addr)(a:aP)(d:Option bv):HP:=match a,d with
 |some a,some d=>kT k.tD (k.f pw) a d
 |_,_=>emp
abbrev dD(a:aV)(pw:Addr)(offs:Int)(b:List aP):aV:=a++(xm (some pw)::xk xq offs::b.map .pointer)
structure gG (mc:aV) (da:List aP) (ds:aX):Prop where
 l8:mc.length=8
 la:da.length=64
 ls:ds.length=64
 same:∀i:Nat,(da.getD i none).isSome=(ds.getD i none).isSome
abbrev iF(k:Kit)(pw:Addr)(a:List aP)(ds:aX):List HP:=List.zipWith (aeR k pw) a ds
def bx(k:Kit)(a pw:Addr)(c:aV)(offs:Int)(b:List aP)(w:Pow)(ds:aX):HP:=
 (HP.all (ar a k.tS (dD c pw offs b)::ez k.tP pw w::iF k pw b ds)).and (gG c b ds)
section
variable {k:Kit} {B:aA} {h0 h h':Heap} {As:List HP} {a pw:Addr} {mc:aV} {offs:Int} {da:List aP} {w w':Pow} {ds:aX} {d d':bv} {n:Nat}
theorem QX(ok:gG mc da ds):(iF k pw da ds).length=64:=by simp[iF,ok.la,ok.ls]
theorem aa.wt(H:aa B h0 h (bx k a pw mc offs da w ds::As)):gG mc da ds/\aa B h0 h (ar a k.tS (dD mc pw offs da)::ez k.tP pw w::(iF k pw da ds++As)):=by
 obtain⟨H,ok⟩:=H.Ix;exact⟨ok,H.Bv⟩
theorem aa.Az(ok:gG mc da ds)(H:aa B h0 h (ar a k.tS (dD mc pw offs da)::ez k.tP pw w::(iF k pw da ds++As))):aa B h0 h (bx k a pw mc offs da w ds::As):=
 (aa.closeAll (ar a k.tS (dD mc pw offs da)::ez k.tP pw w::iF k pw da ds) H).toIx ok
theorem gG.addr(ok:gG mc da ds)(c:ds[n]?=some (some d)):∃b,da[n]?=some (some b):=by
 have e:n<64:=by have:=(qn.1 c).1;rw[ok.ls]at this;exact this
 have a:=ok.same n;rw[qe,qe,c]at a;have g:n<da.length:=by rw[ok.la];exact e
 rw[qd g]at a⊢;simp at a;obtain⟨b,f⟩:=vp.1 a;exact⟨b,by rw[f]⟩
theorem gG.Yx(ok:gG mc da ds)(b:n<64)(d:ds[n]?=some none):da[n]?=some none:=by
 have a:=ok.same n;rw[qe,qe,d]at a;have c:n<da.length:=by rw[ok.la];exact b
 rw[qd c]at a⊢;simp at a;rw[a]
theorem gG.set(ok:gG mc da ds){b:Addr}(c:da[n]?=some (some b)):gG mc da (ds.set n (some d')):=by
 refine⟨ok.l8,ok.la,by rw[zr];exact ok.ls,fun i=>?_⟩;by_cases a:n=i
 ·subst a;have d:n<ds.length:=by have:=(qn.1 c).1;rw[ok.la]at this;rw[ok.ls];exact this
  rw[qe,c,qe,zC d];rfl
 ·rw[qe (l:=ds.set n _),zY a,<-qe];exact ok.same i
theorem aaT{b:Addr}(c:da[n]?=some (some b))(d:n<ds.length):(iF k pw da ds).set n (kT k.tD (k.f pw) b d')=iF k pw da (ds.set n (some d')):=by
 apply zx;intro j;have e:n<da.length:=(qn.1 c).1;simp only[iF,qV,wY,List.length_zipWith];by_cases a:n=j
 ·subst a;rw[if_pos rfl,if_pos (by omega),if_pos rfl,if_pos d,c];rfl
 ·simp[a]
def OZ(k:Kit)(a pw:Addr)(c:aV)(offs:Int)(b:List aP)(ds:aX)(n:Nat):HP:=
 (HP.all (ar a k.tS (dD c pw offs b)::(iF k pw b ds).set n emp)).and (gG c b ds)
theorem aa.mh(H:aa B h0 h (bx k a pw mc offs da w ds::As))(e:ds[n]?=some (some d)):∃b,da[n]?=some (some b)/\aa B h0 h (kT k.tD (k.f pw) b d::ez k.tP pw w::OZ k a pw mc offs da ds n::As):=by
 obtain⟨ok,g⟩:=H.wt;obtain⟨b,c⟩:=ok.addr e;refine⟨b,c,?_⟩;have j:(iF k pw da ds)[n]?=some (kT k.tD (k.f pw) b d):=by
  simp only[iF,wY,c,e];rfl
 have i:=g.adx n j;have l:aa B h0 h (kT k.tD (k.f pw) b d::ez k.tP pw w::((ar a k.tS (dD mc pw offs da)::(iF k pw da ds).set n emp)++As)):=i;exact(((aa.closeAll _ l.afI).toIx ok).bo 3 [1,2,0]:aa B h0 h (kT k.tD (k.f pw) b d::ez k.tP pw w::OZ k a pw mc offs da ds n::As))
theorem aa.Ji{b:Addr}(j:da[n]?=some (some b))(H:aa B h0 h (kT k.tD (k.f pw) b d'::ez k.tP pw w'::OZ k a pw mc offs da ds n::As)):aa B h0 h (bx k a pw mc offs da w' (ds.set n (some d'))::As):=by
 have l:aa B h0 h (OZ k a pw mc offs da ds n::ez k.tP pw w'::kT k.tD (k.f pw) b d'::As):=H.bo 3 [2,1,0];obtain⟨l,ok⟩:=l.Ix;have r:=l.Bv;have q:n<ds.length:=by have:=(qn.1 j).1;rw[ok.la]at this;rw[ok.ls];exact this
 have s:=QX (k:=k) (pw:=pw) ok;have g:n<(iF k pw da ds).length:=by rw[s,<-ok.ls];exact q
 obtain⟨L,o⟩:∃L,L=iF k pw da ds:=⟨_,rfl⟩
 rw[<-o]at r g;have t:aa B h0 h (kT k.tD (k.f pw) b d'::ez k.tP pw w'::ar a k.tS (dD mc pw offs da)::(L.set n emp++As)):=by
  refine r.pick (fun i=>if i=0 then 1+L.length+1 else if i=1 then 1+L.length else if i=2 then 0 else if i<3+L.length then i-2 else i) (fun x y c=>by(try dsimp only at c);split at c<;>split at c<;>(try split at c)<;>(try split at c)<;>(try split at c)<;>(try split at c)<;>(try split at c)<;>(try split at c)<;>omega) fun i A e=>?_
  try dsimp only
  have d:(ar a k.tS (dD mc pw offs da)::L.set n emp).length=1+L.length:=by simp;omega
  match i,e with
  |0,e=>rw[if_pos rfl,qj (by omega),d,show 1+L.length+1-(1+L.length)=1 by omega];exact e
  |1,e=>rw[if_neg (by omega),if_pos rfl,qj (by omega),d,zd];exact e
  |2,e=>rw[if_neg (by omega),if_neg (by omega),if_pos rfl];exact e
  |i+3,e=>
   rw[if_neg (by omega),if_neg (by omega),if_neg (by omega)];rw[qz,qz,qz]at e;by_cases m:i<L.length
   ·rw[if_pos (by omega),show i+3-2=i+1 by omega,qm (by rw[d];omega),qz];rw[qm (by simpa using m)]at e;exact e
   ·rw[if_neg (by omega),qj (by rw[d];omega),d,show i+3-(1+L.length)=(i-L.length)+2 by omega,qz,qz];rw[qj (by simp;omega),zr]at e;exact e
 have p:=aa.Uz n g t;rw[o,aaT j q]at p;exact p.Az (ok.set j)
end
def kv:iO (Int×Sl) (Int×aU):=⟨fun h q a b=>a.1=b.1/\Seq h q a.2 1 az b.2,fun a c=>⟨a.1,a.2.ag c⟩,fun a d=>⟨a.1,a.2.mono d⟩⟩
def piv(x:Int×Sl):aV:=[xk xq x.1,x.2]
theorem Mk:∀x,∀c∈piv x,c.oneCell'=true:=by intro x c a;simp[piv]at a;rcases a with rfl|rfl<;>rfl
def nR(b:List aP)(a:Int):aP:=if 0<=a/\a<64 then(b[a.toNat]?).join else none
theorem nS{i:aV}{e:List aP}{ds:aX}(ok:gG i e ds)(a:Int):
  (bR ds a=none/\nR e a=none)∨∃(n:Nat) (d:bv) (b:Addr),a=n/\n<64/\ds[n]?=some (some d)/\bR ds a=some d/\e[n]?=some (some b)/\nR e a=some b:=by
 unfold bR nR;by_cases h:0<=a/\a<64
 ·rw[if_pos h,if_pos h];have f:a.toNat<ds.length:=by rw[ok.ls];omega
  cases hd:ds[a.toNat]with
  |none=>
   have c:ds[a.toNat]?=some none:=by rw[qd f,hd]
   exact .inl ⟨by rw[c];rfl,by rw[ok.Yx (by omega) c];rfl⟩
  |some d=>
   have c:ds[a.toNat]?=some (some d):=by rw[qd f,hd]
   obtain⟨b,g⟩:=ok.addr c;exact .inr ⟨a.toNat,d,b,by omega,by omega,c,by rw[c];rfl,g,by rw[g];rfl⟩
 ·rw[if_neg h,if_neg h];exact .inl ⟨rfl,rfl⟩
theorem su{b:aV}{pw:Addr}{offs:Int}{a:List aP}(h8:b.length=8)(n:Nat):(dD b pw offs a)[10+n]?=(a[n]?).map .pointer:=by
 unfold dD;rw[qj (by omega),h8,show 10+n-8=n+1+1 by omega,qz,qz,qO]
theorem aaU{a:aV}{pw:Addr}{offs:Int}{b:List aP}(h8:a.length=8):(dD a pw offs b)[8]?=some (xm (some pw)):=by
 unfold dD;rw[qj (by omega),h8];rfl
theorem VY{a:aV}{pw:Addr}{offs:Int}{b:List aP}(h8:a.length=8):(dD a pw offs b)[9]?=some (xk xq offs):=by
 unfold dD;rw[qj (by omega),h8];rfl
end Go.Vc
namespace Go.Qw
open Go Go.Vc Go.Proofs Wl
abbrev bS:Go.Vc.Kit:=⟨138,131,208,fun pw=>gB pw⟩
theorem QY{e:TypeId}(s:Sl)(l:aB)(h:Heap)(c:Own h e s 1 aC l)(a:l.length<2^40):ab xv 219 #[s] h fun v h'=>v=xl s.ptr (Lib.compact l).length s.cap/\Own h' e ⟨s.ptr,(Lib.compact l).length,s.cap⟩ 1 aC (Lib.compact l)/\aR (fun b=>¬s.on b) h h':=
 JJ Tryz.slices_Compact_int Tryz.slices_Compact_int_empty c a
section
variable {B:aA} {h0 h h':Heap} {As:List HP} {a pw:Addr} {mc:aV} {offs:Int} {da:List aP} {w:Pow} {ds:aX}
theorem rC(b:Int)(ok:gG mc da ds)(f:bZ h a 138 (dD mc pw offs da)):ab xv 84 #[xm (some a),xk xq b] h fun v h'=>v=.pointer (nR da b)/\h'=h:=by
 refine BH (some a) b ?_;unfold pK;have d:¬(0<=b/\b<64)->Value.pointer none=.pointer (nR da b)/\h=h:=fun e=>by unfold nR;rw[if_neg e];exact⟨rfl,rfl⟩
 refine aT (bF (fun e=>by cases e) fun _=>ai (fun e=>d (by omega)) fun g=>ai (fun e=>d (by omega)) fun e2=>?_);have c:b.toNat<da.length:=by rw[ok.la];omega
 refine⟨a,rfl,⟨by omega,by omega⟩,da[b.toNat],?_,?_,rfl⟩
 ·rw[wc];refine f.wn 10 b.toNat ?_;rw[su ok.l8,qd c];rfl
 ·unfold nR;rw[if_pos (by omega),qd c];rfl
theorem aa.dj(H:aa B h0 h (bx bS a pw mc offs da w ds::As)):gG mc da ds/\bZ h a 138 (dD mc pw offs da):=by
 obtain⟨ok,b⟩:=Go.Vc.aa.wt H;exact⟨ok,b.box 0 rfl⟩
theorem VZ(s:Sl)(l:aB)(x:Rd h s 1 aC l)(G:l.length<=2^30)(H:aa B h0 h (bx bS a pw mc offs da w ds::As)):
  ab xv 170 #[.func (.func 84) #[xm (some a)] #[],s] h fun v h'=>∃r:Sl,v=r/\Sp h h' [an 3 r 1 aC (bg ds l)]:=by
 refine QL (84,#[xm (some a)],#[]) s ?_;unfold Kn;have E:=x.len;obtain⟨ok,u⟩:=aa.dj H;refine au (fun t:Sl×Nat=>(t.1,(t.2:Int))) (fun t h'=>t.2<=l.length/\Sp h h' [an 3 t.1 1 aC (bg ds (l.take t.2))]) (fun t=>l.length-t.2) (⟨none,0,0⟩,0) rfl ⟨by simp,by simpa[bg]using(Sp.refl h).nil 3 1 aC⟩ ?_;rintro⟨o,i⟩ J ⟨I,j⟩;dsimp only at*;refine ai (fun e=>?_) (fun e=>?_)
 ·have p:i<l.length:=by omega
  have c:bg ds (l.take (i+1))=bg ds (l.take i)++(if isLive ds l[i]then[l[i]]else[]):=by
   unfold bg;rw[aH _ _ p,zg,zo,y6]
  have D:(bg ds (l.take i)).length<=l.length:=by
   have:=zc (isLive ds) (l.take i);unfold bg;simp at this⊢;omega
  have next:∀{h':Heap} {k:Sl},Sp h h' [an 3 k 1 aC (bg ds (l.take (i+1)))]->∃m:Sl×Nat,((⟨k.ptr,k.len,k.cap⟩:Sl),qc xq ((i:Int)+1))=(m.1,(m.2:Int))/\(m.2<=l.length/\Sp h h' [an 3 m.1 1 aC (bg ds (l.take m.2))])/\l.length-m.2<l.length-i:=fun{h' k} H'=>
   ⟨(k,i+1),by dsimp only;rw[aj _];rfl,⟨by dsimp only;omega,H'⟩,by dsimp only;omega⟩
  refine(Seq.up x j.ag).bt i rfl p l[i] rfl (eS (by rfl) ?_);refine(rC l[i] ok (u.ag j.ag u.lt)).mono ?_;rintro _ K ⟨rfl,rfl⟩;refine⟨_,rfl,?_⟩;rcases nS ok l[i]with⟨c1,c2⟩|⟨n,d,b,c0,c1,c2,c3,c4,c5⟩
  ·rw[c2];have g:isLive ds l[i]=false:=by unfold isLive;rw[c1]
   rw[g]at c;refine be (fun e=>by cases e) fun _=>next (by rw[c];simpa using j)
  ·rw[c5];have g:isLive ds l[i]=!d.lost:=by unfold isLive;rw[c3]
   refine be (fun _=>?_) fun e=>by cases e
   obtain⟨L,f,F⟩:=Go.Vc.aa.mh (aa.up H j.ag) c2;rw[c4]at f;injection f with f
   injection f with f
   subst f;obtain⟨y,A,q,_,_⟩:=mg.box F;refine(Gd y A q).mono ?_;rintro _ h3 ⟨rfl,rfl⟩;refine⟨_,rfl,be (fun e=>?_) (fun e=>?_)⟩
   ·rw[g,e]at c;refine j.push ac 0 rfl lE rfl (by decide) (fun _=>rfl) gJ l[i] rfl (by decide) (by omega) fun k M z=>next ?_
    rw[c];exact z
   ·rw[g,e]at c;exact next (by rw[c];simpa using j)
 ·rw[qi (by omega)]at j;exact⟨o,rfl,j⟩
theorem Wa(s:Sl)(l:aB)(P:St B h0 As fun h=>Rd h s 1 aC l)(Z:l.length<=2^30)(z:∀x∈l,0<=x/\x<64)(H:aa B h0 h (bx bS a pw mc offs da w ds::As)):
  ab xv 146 #[.func (.func 84) #[xm (some a)] #[],s] h fun v h'=>v=xk xq (jZ (fJ l) w ds).1/\aa B h0 h' (bx bS a pw mc offs da (jZ (fJ l) w ds).2.1 (jZ (fJ l) w ds).2.2::As):=by
 refine QI (84,#[xm (some a)],#[]) s ?_;unfold Kh;refine(mE s l h (P.at [_] H) (by omega)).mono ?_;rintro _ Q ⟨r,rfl,T⟩;have K:=H.cX T;refine⟨r,rfl,(NC r l Q (K.own 0 rfl) (by omega)).mono ?_⟩;rintro _ R ⟨rfl,M,U⟩;have X:=K.lp 0 rfl U M;refine⟨(),rfl,(QY r (jl l) R M (by rw[MW];omega)).mono ?_⟩;rintro _ h3 ⟨rfl,Y,J⟩;have y:=X.step (D:=an 3 ⟨r.ptr,(Lib.compact (jl l)).length,r.cap⟩ 1 aC (Lib.compact (jl l))) 0 rfl fun q A G=>⟨J.mono fun b _ m F=>m (A.2 b F),Y,fun b m=>⟨qL (G b (A.2 b m)) J.1,.inl (A.2 b m)⟩⟩
 rw[Vq l z]at y⊢;obtain⟨u,L⟩:∃u,u=fJ l:=⟨_,rfl⟩
 rw[<-L]at y⊢;have y:aa B h0 h3 (an 3 ⟨r.ptr,u.length,r.cap⟩ 1 aC u::bx bS a pw mc offs da w ds::As):=y;have W:u.length<=64:=by
  have:=zc (fun i=>decide (i∈l)) ((qy 64).map fun i:Nat=>(i:Int));rw[L];unfold fJ;simpa using this
 refine⟨⟨r.ptr,u.length,r.cap⟩,rfl,?_⟩;refine au (fun t:Nat×Pow×aX=>(t.1:Int)) (fun t h'=>t.1<=u.length/\jZ u w ds=jZ (u.drop t.1) t.2.1 t.2.2/\aa B h0 h' (an 3 ⟨r.ptr,u.length,r.cap⟩ 1 aC u::bx bS a pw mc offs da t.2.1 t.2.2::As)) (fun t=>u.length-t.1) (0,w,ds) rfl ⟨by simp,rfl,y⟩ ?_;rintro⟨i,j,f⟩ h4 ⟨hi,c,p⟩;dsimp only at*;refine ai (fun e=>?_) (fun e=>?_)
 ·have o:i<u.length:=by omega
  obtain⟨ok,m⟩:=aa.dj p.rest;rw[qS o,CD]at c;refine(p.seq 0 rfl fun _=>rfl).bt i rfl o u[i] rfl (eS (by rfl) ?_);refine(rC u[i] ok m).mono ?_;rintro _ V ⟨rfl,rfl⟩;refine⟨_,rfl,?_⟩;rcases nS ok u[i]with⟨c1,c2⟩|⟨n,d,b,c0,c1,c2,c3,c4,c5⟩
  ·rw[c2];refine(QP V).mono ?_;rintro _ O ⟨rfl,rfl⟩;have E:fU j f u[i]=(5,j,f):=by unfold fU;rw[c1]
   rw[E]at c;refine⟨5,rfl,bV (fun _=>?_) fun e=>absurd e (by decide)⟩;have:jZ u w ds=(5,j,f):=c;rw[this];exact⟨rfl,p.rest⟩
  ·rw[c5];obtain⟨b',g,S⟩:=Go.Vc.aa.mh (p.bo 2 [1,0]) c2;rw[c4]at g;injection g with g
   injection g with g
   subst g;refine(Yp S).mono ?_;rintro _ O ⟨rfl,N⟩;have I:=Go.Vc.aa.Ji (k:=bS) (n:=n) c4 N;have E:fU j f u[i]=((d.sync j).1,(d.sync j).2.1,f.set n (some (d.sync j).2.2)):=by
    unfold fU;rw[c3];simp only[jb,c0,qp]
   rw[E]at c;refine⟨_,rfl,bV (fun e2=>?_) fun e2=>?_⟩
   ·have:jZ u w ds=((d.sync j).1,(d.sync j).2.1,f.set n (some (d.sync j).2.2)):=by rw[c];exact if_neg e2
    rw[this];exact⟨rfl,I.GX⟩
   ·refine⟨(i+1,(d.sync j).2.1,f.set n (some (d.sync j).2.2)),by dsimp only;rw[aj _];rfl,⟨by dsimp only;omega,?_,I.bo 2 [1,0]⟩,by dsimp only;omega⟩;rw[c];exact if_pos e2
 ·rw[zh (by omega)]at c;rw[c];exact⟨rfl,p.rest⟩
end
end Go.Qw
namespace Go.Vc
open Go Wl
theorem HP.Cc{h:Heap}:∀{L:List HP} {q:aA} {i:Nat} {A:HP},(HP.all L).p h q->L[i]?=some A->A.p h q
 |A::L,q,0,A',⟨q1,q2,_,b,_,d,_⟩,hi=>by simp at hi;subst hi;exact A.mono d b
 |A::L,q,i+1,A',⟨q1,q2,_,_,c,_,e⟩,hi=>A'.mono (HP.Cc e (by simpa using hi)) c
 |[],_,i,_,_,hi=>by simp at hi
section
variable {α β:Type} {B:aA} {h0 h:Heap} {As:List HP} {e e2 k:Nat} {s:Sl} {f:α->aV} {ll:List (List α)}
theorem aa.aaV(H:aa B h0 h (lG e s e2 k f ll::As))(j:∀x,(f x).length=k):∃rs,aa B h0 h (cS (ft k f) 1 bD s rs ll::As):=by
 obtain⟨rs,H⟩:=H.CC;obtain⟨H,b⟩:=H.Ix;refine⟨rs,H.ga 0 rfl fun q c=>⟨?_,b,fun i r l g a=>?_⟩⟩
 ·have:=HP.Cc (i:=0) c rfl;exact this.1.seq (fun _=>rfl) this.2
 ·have d:i<ll.length:=(qn.1 a).1;have m:=gU (e:=e2) (k:=k) (f:=f) b i d;have:=HP.Cc (i:=i+1) c (by simpa using m);have n:rs[i]'(by omega)=r:=by rw[qd (by omega)]at g;simpa using g
  have e2:ll[i]=l:=by rw[qd d]at a;simpa using a
  rw[n,e2]at this;exact this.1.seq j this.2
end
end Go.Vc
namespace Wl
def bE(m:aD)(a:aB):List (Int×aU):=a.flatMap fun n=>(bf m).map fun c=>(n,c)
theorem jT{m:aD}{a:aB}{x:Int×aU}(h:x∈bE m a):x.1∈a/\x.2.length=64:=by
 unfold bE at h;obtain⟨n,b,d⟩:=zQ.1 h;obtain⟨c,e,rfl⟩:=qC.1 d;exact⟨b,CI e⟩
end Wl
namespace Go.Qw
open Go Go.Vc Go.Proofs Wl
theorem kG(m:aD)(a:dM m):(bf m).length<=3000:=by
 have:=Jh m a;unfold bf gV;simp;omega
abbrev QZ:bN C.toBq 143 211 2 [xk xq 0,xl none 0 0] 32:=⟨_,_,rfl,rfl,rfl,rfl,rfl,rfl⟩
section
variable {B:aA} {h0 h h':Heap} {As:List HP} {a pw:Addr} {mc:aV} {offs:Int} {da:List aP} {w:Pow} {ds:aX}
theorem Gh(s:Sl)(q:List (Int×Sl))(P:List (Int×aU))(I:St B h0 As fun h=>mY kv 2 piv h s q P)(hl:P.length<=2^30)(z:∀x∈P,(0<=x.1/\x.1<64)/\x.2.length<=2^20)(H:aa B h0 h (bx bS a pw mc offs da w ds::As)):
  ab xv 83 #[.func (.func 84) #[xm (some a)] #[],s] h fun v h'=>v=xk xq (layAll P w ds).1/\aa B h0 h' (bx bS a pw mc offs da (layAll P w ds).2.1 (layAll P w ds).2.2::As):=by
 refine Tc (84,#[xm (some a)],#[]) s ?_;unfold Nz;have ad:=(I.at [_] H).1.len;have T:=(I.at [_] H).2.1;have U:=(H.nil 3 1 aC).bH;refine au (fun t:Sl×Nat×Pow×aX=>(t.1,(t.2.1:Int))) (fun t h'=>t.2.1<=P.length/\kg P w ds=kg (P.drop t.2.1) t.2.2.1 t.2.2.2/\aa B h0 h' (an 3 t.1 1 aC ((P.take t.2.1).map qK)::bx bS a pw mc offs da t.2.2.1 t.2.2.2::As)) (fun t=>P.length-t.2.1) (⟨none,0,0⟩,0,w,ds) rfl ⟨by simp,rfl,by simpa using U⟩ ?_;rintro⟨o,i,u,m⟩ h1 ⟨hi,f,G⟩;dsimp only at*;refine ai (fun e=>?_) (fun e=>?_)
 ·have r:i<P.length:=by omega
  rw[qS r,uE]at f;have V:=I.at [_,_] G;have K:=z _ (qh r);refine V.1.ea (g:=piv) i rfl (by omega) (q[i]'(by omega)) rfl ?_;refine G.alloc ac rfl fun a4 Z F=>?_;have F:=F.bH;refine F.storeAll ac 0 rfl rfl (piv (q[i]'(by omega))) rfl rfl rfl rfl fun h3 l=>?_;obtain⟨N,O⟩:=Fix.row (I.at [_,_,_] l) r;have l:aa B h0 h3 (ar a4 211 (piv (q[i]'(by omega)))::an 3 o 1 aC ((P.take i).map qK)::bx bS a pw mc offs da u m::As):=l;have l:=l.bo 3 [2,0,1];obtain⟨ok,S⟩:=aa.dj l;obtain⟨c,p⟩:∃c,c=eu u m P[i].1 P[i].2:=⟨_,rfl⟩
  rw[<-p]at f;refine bO (fun _ h'=>c.1=0/\aa B h0 h' (bx bS a pw mc offs da c.2.1 c.2.2::ar a4 211 (piv (q[i]'(by omega)))::an 3 o 1 aC ((P.take i).map qK)::As)) ?_ ?_
  ·refine bO (fun e h'=>e=c.1/\aa B h0 h' (bx bS a pw mc offs da c.2.1 c.2.2::ar a4 211 (piv (q[i]'(by omega)))::an 3 o 1 aC ((P.take i).map qK)::As)) ?_ ?_
   ·refine⟨P[i].1,by rw[<-N];exact(l.box 1 rfl).cell0 rfl,(q[i]'(by omega)).2,(l.box 1 rfl).cell rfl,eS (by rfl) ?_⟩;refine(rC P[i].1 ok S).mono ?_;rintro _ M ⟨rfl,rfl⟩;refine⟨_,rfl,⟨(l.box 1 rfl).cell rfl,trivial⟩,?_⟩;rcases nS ok P[i].1 with⟨c1,c2⟩|⟨n,d,b,c0,c1,c2,c3,c4,c5⟩
    ·rw[c2];refine(Mj (q[i]'(by omega)).2 P[i].2 M O).mono ?_;rintro _ h5 ⟨rfl,rfl⟩;have E:c=(if P[i].2.length≠64 then 1 else 5,u,m):=by rw[p];unfold eu;rw[c1]
     refine⟨_,rfl,trivial,by rw[E],?_⟩;rw[E];exact l
    ·rw[c5];obtain⟨b',j,L⟩:=Go.Vc.aa.mh l c2;rw[c4]at j;injection j with j
     injection j with j
     subst j;refine(Te (q[i]'(by omega)).2 P[i].2 L O K.2).mono ?_;rintro _ h6 ⟨rfl,Q⟩;have R:=Go.Vc.aa.Ji (k:=bS) (n:=n) c4 Q;have E:c=((d.append u P[i].2).1,(d.append u P[i].2).2.1,m.set n (some (d.append u P[i].2).2.2)):=by
      rw[p];unfold eu;rw[c3];simp only[jb,c0,qp]
     refine⟨_,rfl,trivial,by rw[E],?_⟩;rw[E];exact R
   ·rintro e4 M ⟨rfl,D⟩;refine bV (fun e2=>?_) fun e2=>⟨e2,D⟩
    rw[if_neg e2]at f;have:layAll P w ds=c:=by unfold layAll;rw[f];exact if_neg e2
    rw[this];exact⟨rfl,D.GX.GX⟩
  ·rintro _ M ⟨e2,D⟩;rw[if_pos e2]at f;refine⟨P[i].1,by rw[<-N];exact(D.box 1 rfl).cell0 rfl,?_⟩;refine D.push ac 2 rfl lE rfl (by decide) (fun _=>rfl) gJ P[i].1 rfl (by decide) (by simp;omega) fun o' h5 L=>?_;refine⟨(o',i+1,c.2.1,c.2.2),by dsimp only;rw[aj _];rfl,⟨by dsimp only;omega,f,?_⟩,by dsimp only;omega⟩;dsimp only;rw[aH _ _ r,qW];exact L.bo 3 [2,0]
 ·have J:i=P.length:=by omega
  subst J;rw[List.drop_length]at f;rw[qX]at G;have F:=(G.freeze 0 rfl fun _=>rfl).bo 2 [1,0];have A:layAll P w ds=jZ (fJ (P.map qK)) u m:=by unfold layAll;rw[f];rfl
  refine(Wa o (P.map qK) (St.kK 0 rfl fun h' Y=>Y) (by simp;omega) (fun x X=>?_) F).mono ?_
  ·obtain⟨y,W,rfl⟩:=qC.1 X;exact(z y W).1
  ·rintro _ Z ⟨rfl,l⟩;refine⟨_,rfl,by rw[A],?_⟩;rw[A];exact l.GX
theorem Ie(x:cy)(m:aD)(s:Sl)(a:aB)(h:Heap)(hx:gn h x m)(G:dM m)(X:Rd h s 1 aC a)(ad:a.length<=2^10):
  ab xv 85 #[gm x,s] h fun v h'=>∃(r:Sl) (Y:List (Int×Sl)),v=r/\Sp h h' [cS kv 2 piv r Y (bE m a)]:=by
 refine Ou x s ?_;unfold HR;refine(Sp.refl h).boxed fun a1 S M=>?_;refine⟨x,(M.box 0 rfl).aF _ rfl,(pB x m S (hx.up M.ag) G).mono ?_⟩;rintro _ U ⟨r,rfl,R2⟩;have y:=M.cX R2;refine⟨r,rfl,?_⟩;obtain⟨rs,y⟩:=y.aaV fun _=>rfl;have Q:=kG m G;obtain⟨d,E⟩:∃d,d=bf m:=⟨_,rfl⟩
 rw[<-E]at y Q;have V:=y.fF 0 rfl;have ah:=V.1.len;have ap:=V.2.1;have am:=X.len;obtain⟨T,I⟩:∃T:Int->List ((Int×Sl)×(Int×aU)),T=fun n=>(rs.zip d).map fun z=>((n,z.1),(n,z.2)):=⟨_,rfl⟩
 have f:∀n,(T n).length=d.length:=fun n=>by rw[I];simp;omega
 have P:∀n,(T n).map zE=d.map fun c=>(n,c):=fun n=>by
  have G:=List.map_snd_zip (l₁:=rs) (l₂:=d) (by omega)
  conv=>rhs;rw[<-G]
  rw[I];simp[w5,Function.comp_def]
 have K:∀n j (N:j<d.length),(T n)[j]'(by rw[f];exact N)=((n,rs[j]'(by omega)),(n,d[j])):=fun n j N=>by subst I;simp
 have p:Sp h U [an 211 ⟨none,0,0⟩ 2 piv (((a.take 0).flatMap T).map qK),cS (ft 1 az) 1 bD r rs d]:=(y.nil 211 2 piv).cj [2,0];have A:∀i,i<=a.length->((a.take i).flatMap T).length<=i*3000:=fun i=>by
  induction i with
  |zero=>simp
  |succ i ih=>
   intro R;rw[aH _ _ (show i<a.length by omega),ze,qw];have S:=ih (by omega);have U:([a[i]].flatMap T).length=d.length:=by rw[zq,yj,qU,f]
   omega
 refine au (fun t:Sl×Nat=>(t.1,(t.2:Int))) (fun t h'=>t.2<=a.length/\Sp h h' [an 211 t.1 2 piv (((a.take t.2).flatMap T).map qK),cS (ft 1 az) 1 bD r rs d]) (fun t=>a.length-t.2) (⟨none,0,0⟩,0) rfl ⟨by simp,p⟩ ?_;rintro⟨o,i⟩ h3 ⟨R,p⟩;dsimp only at*;refine ai (fun e=>?_) (fun e=>?_)
 ·have F:i<a.length:=by omega
  have ht:=A i R;have hb:i*3000<=2^10*3000:=zp _ (by omega);refine(Seq.up X p.ag).bt i rfl F a[i] rfl ?_;refine au (fun t:Sl×Nat=>(t.1,(t.2:Int))) (fun t h'=>t.2<=d.length/\Sp h h' [an 211 t.1 2 piv (((a.take i).flatMap T).map qK++((T a[i]).take t.2).map qK),cS (ft 1 az) 1 bD r rs d]) (fun t=>d.length-t.2) (o,0) rfl ⟨by simp,by simpa using p⟩ ?_;rintro⟨u,j⟩ h4 ⟨N,g⟩;dsimp only at*;refine ai (fun e2=>?_) (fun e2=>?_)
  ·have D:j<d.length:=by omega
   refine(g.fF 1 rfl).1.nM j rfl (by omega) ?_;refine g.push ac 0 rfl QZ rfl (by decide) (fun _=>rfl) Mk (a[i],rs[j]'(by omega)) rfl (by decide) (by simp only[qw,qD,qM,f];omega) fun u' h5 H5=>?_;refine⟨(u',j+1),by dsimp only;rw[aj _];rfl,⟨by dsimp only;omega,?_⟩,by dsimp only;omega⟩;dsimp only;rw[aH (T a[i]) j (by rw[f];exact D),qW,K _ _ D,<-qo];exact H5
  ·have L:j=d.length:=by omega
   subst L;rw[qi (l:=T a[i]) (by rw[f];exact ql _)]at g;refine⟨(u,i+1),by dsimp only;rw[aj _];rfl,⟨by dsimp only;omega,?_⟩,by dsimp only;omega⟩;dsimp only;rw[aH _ _ F,ze,qW,zq,yj,qU];exact g
 ·have J:i=a.length:=by omega
  subst J;rw[qX]at p;refine⟨o,(a.flatMap T).map qK,rfl,?_⟩;have g:=(p.freeze 0 rfl fun _=>rfl).oO;refine g.ga 0 rfl fun q ⟨q1,q2,_,b,c,Z,z2⟩=>?_;have B:(a.flatMap T).map zE=bE m a:=by
   unfold bE;rw[List.map_flatMap,<-E];congr 1;funext n;exact P n
  rw[<-B];refine⟨z2.mono c,by simp,fun j r' l' w H=>?_⟩;rw[qO]at w H;cases g3:(a.flatMap T)[j]? with
  |none=>rw[g3]at w;cases w
  |some t=>
   rw[g3]at w H;simp at w H;subst w;subst H;obtain⟨n,_,W⟩:=zQ.1 (yn g3);rw[I]at W;obtain⟨z,O,rfl⟩:=qC.1 W;obtain⟨k,hk,rfl⟩:=List.mem_iff_getElem.1 O;rw[yX];exact⟨rfl,(Z.2.2 k _ _ (qd _) (qd _)).mono b⟩
end
section
variable {B:aA} {h0 h h':Heap} {As:List HP} {s:Sl} {d:List bw}
theorem Wb{b d:List bw}{y:bw}(c:Sd bX (b++d))(g:∀z∈b,bX z y=true)(f:∀z∈d,¬bX z y=true):Sd bX (b++y::d):=
 Sd.app dC c.left (zM.2 ⟨fun z a=>dC.Fb (f z a),c.right⟩) fun x e z a=>by
  rcases q8.1 a with rfl|a
  ·exact g x e
  ·exact c.GZ x e z a
theorem Cd(X M Y:List bw)(a b:Int)(ha:a=(X.length:Int))(hb:b=(X.length+M.length:Nat))(am:X.length+M.length+Y.length<=2^40)(H:aa B h0 h (co s (X++(M++Y))::As)):
  ab xv 331 #[s,xk xq a,xk xq b,.func (.func 241) #[] #[]] h fun v h'=>v=.tuple #[]/\∃M',Sd bX M'/\bY bX M M'/\aa B h0 h' (co s (X++(M'++Y))::As):=by
 refine ku s a b (241,#[],#[]) ?_;unfold gl;subst ha;subst hb;rw[aj ((X.length:Int)+1)];refine au (fun t:Nat×List bw=>((X.length+1+t.1:Nat):Int)) (fun t h'=>(t.1+1<=M.length∨t.1=0)/\Sd bX t.2/\bY bX (M.take (t.1+1)) t.2/\t.2.length=(M.take (t.1+1)).length/\aa B h0 h' (co s (X++(t.2++(M.drop (t.1+1)++Y)))::As)) (fun t=>M.length-t.1) (0,M.take 1) rfl ?_ ?_
 ·refine⟨.inr rfl,?_,bY.refl _,rfl,?_⟩
  ·cases M with
   |nil=>exact List.Pairwise.nil
   |cons x M=>exact zM.2 ⟨fun _ h=>by simp at h,by simp⟩
  ·rw[<-qo (M.take (0+1)),qx];exact H
 rintro⟨t,P⟩ h1 ⟨ht,A,E,ad,N⟩;dsimp only at*;refine ai (fun e=>?_) (fun e=>?_)
 ·have J:t+1<M.length:=by omega
  obtain⟨y,hy⟩:∃y,y=M[t+1]:=⟨_,rfl⟩
  have K:P.length=t+1:=by rw[ad];simp;omega
  have eD:M.drop (t+1)=y::M.drop (t+1+1):=by rw[qS J,hy]
  rw[eD]at N;refine au (fun u:List bw×List bw=>((X.length+u.1.length:Nat):Int)) (fun u h'=>u.1++u.2=P/\(∀z∈u.2,¬bX z y=true)/\aa B h0 h' (co s (X++(u.1++(y::(u.2++(M.drop (t+1+1)++Y)))))::As)) (fun u=>u.1.length) (P,[]) (by dsimp only;rw[K];congr 1;omega) ⟨by simp,by simp,by simpa using N⟩ ?_;rintro⟨c,d⟩ U ⟨L,f,G⟩;dsimp only at*;have ah:c.length+d.length=t+1:=by rw[<-K,<-L,qw]
  have l:∀{h':Heap},(∀z∈c,bX z y=true)->aa B h0 h' (co s (X++(c++(y::(d++(M.drop (t+1+1)++Y)))))::As)->
    ∃k:Nat×List bw,qc xq (((X.length+1+t:Nat):Int)+1)=((X.length+1+k.1:Nat):Int)/\((k.1+1<=M.length∨k.1=0)/\Sd bX k.2/\bY bX (M.take (k.1+1)) k.2/\k.2.length=(M.take (k.1+1)).length/\aa B h0 h' (co s (X++(k.2++(M.drop (k.1+1)++Y)))::As))/\M.length-k.1<M.length-t:=fun{h'} hle H'=>by
   refine⟨(t+1,c++y::d),by dsimp only;rw[aj _];omega,⟨.inl (by dsimp only;omega),?_,?_,?_,?_⟩,by dsimp only;omega⟩
   ·exact Wb (by rw[L];exact A) hle f
   ·dsimp only;rw[aH M (t+1) J,<-hy];have h1:bY bX (M.take (t+1)++[y]) (P++[y]):=E.app (bY.refl _);refine h1.trans ?_;rw[<-L,qo];have U:bY bX (d++[y]) ([y]++d):=bY.XF dC fun x hx z S=>by rw[qG.1 S];exact f x hx
    exact(bY.refl _).app U
   ·dsimp only;simp;omega
   ·dsimp only;have:X++((c++y::d)++(M.drop (t+1+1)++Y))=X++(c++(y::(d++(M.drop (t+1+1)++Y)))):=by simp
    rw[this];exact H'
  obtain⟨D,R⟩:∃D,D=X++(c++(y::(d++(M.drop (t+1+1)++Y)))):=⟨_,rfl⟩
  refine bO (fun _ h'=>∃(Q:List bw) (z:bw),c=Q++[z]/\¬bX z y=true/\aa B h0 h' (co s D::As)) ?_ ?_
  ·rw[<-R]at G l;refine ai (fun e2=>?_) (fun e2=>⟨trivial,l (fun z S=>?_) G⟩)
   ·have I:c≠[]:=fun h=>by rw[h]at e2;simp at e2
    obtain⟨Q,z,n⟩:∃(Q:List bw) (z:bw),c=Q++[z]:=⟨c.dropLast,c.getLast I,(List.dropLast_concat_getLast I).symm⟩
    have V:c.length=Q.length+1:=by rw[n];simp
    have g1:D[X.length+c.length]?=some y:=by
     rw[R,qj (by omega),show X.length+c.length-X.length=c.length by omega,qj (by omega),zd];rfl
    have g2:D[X.length+c.length-1]?=some z:=by
     rw[R,qj (by omega),show X.length+c.length-1-X.length=Q.length by omega,n,qo,qj (ql _),zd];rfl
    obtain⟨O,q⟩:=qn.1 g1;obtain⟨T,r⟩:=qn.1 g2;refine(G.seq 0 rfl fun _=>rfl).ea (g:=bI) _ rfl O y (by rw[q]) ?_;have W:qc xq (((X.length+c.length:Nat):Int)-1)=((X.length+c.length-1:Nat):Int):=by rw[aj _];omega
    rw[W];refine(G.seq 0 rfl fun _=>rfl).ea (g:=bI) _ rfl T z (by rw[r]) (eS (by rfl) ?_);refine(pC y z U).mono ?_;rintro _ h3 ⟨rfl,R3⟩;have F:=G.up R3.ag;refine⟨_,rfl,trivial,ai (fun Z=>⟨Q,z,n,(ri y z).1 Z,F⟩) fun Z=>l (fun w m=>?_) F⟩;have o:bX z y=true:=by
     by_cases hc:bX z y=true
     ·exact hc
     ·exact absurd ((ri y z).2 hc) Z
    rw[n]at m;rcases qF.1 m with m|m
    ·refine dC.trans _ _ _ ?_ o;have:Sd bX (Q++[z]):=by rw[<-n];exact Sd.left (v:=d) (by rw[L];exact A)
     exact this.GZ w m z (by simp)
    ·rw[qG.1 m];exact o
   ·have:c=[]:=by
     cases c with
     |nil=>rfl
     |cons x P=>exfalso;simp only[zi]at e2;omega
    rw[this]at S;cases S
  ·rintro _ h3 ⟨Q,z,n,o,F⟩;have V:c.length=Q.length+1:=by rw[n];simp
   have p:D=(X++Q)++z::([]++y::(d++(M.drop (t+1+1)++Y))):=by rw[R,n];simp
   obtain⟨q1,q2,q3,q4⟩:=QU (X++Q) [] (d++(M.drop (t+1+1)++Y)) z y (i:=X.length+c.length-1) (j:=X.length+c.length) (by simp;omega) (by simp;omega);rw[<-p]at q1 q2 q3 q4;obtain⟨T,r⟩:=qn.1 q1;obtain⟨O,q⟩:=qn.1 q2;have W:qc xq (((X.length+c.length:Nat):Int)-1)=((X.length+c.length-1:Nat):Int):=by rw[aj _];omega
   rw[W];refine(F.seq 0 rfl fun _=>rfl).ea (g:=bI) _ rfl T z (by rw[r]) ?_;refine(F.seq 0 rfl fun _=>rfl).ea (g:=bI) _ rfl O y (by rw[q]) ?_;refine F.set ac 0 rfl (fun _=>rfl) rfl (X.length+c.length) rfl O z rfl rfl rfl fun h4 H4=>⟨trivial,?_⟩
   refine H4.set ac 0 rfl (fun _=>rfl) rfl (X.length+c.length-1) rfl (by simpa using T) y rfl rfl rfl fun h5 H5=>⟨trivial,?_⟩
   refine⟨(Q,z::d),by dsimp only;congr 1;omega,⟨by dsimp only;rw[<-L,n];simp,?_,?_⟩,by dsimp only;omega⟩
   ·dsimp only;intro w m;rcases q8.1 m with rfl|m
    ·exact o
    ·exact f w m
   ·dsimp only;have:X++(Q++(y::(z::d++(M.drop (t+1+1)++Y))))=(X++Q)++y::([]++z::(d++(M.drop (t+1+1)++Y))):=by simp
    rw[this,<-q4];exact H5
 ·refine⟨rfl,P,A,?_,?_⟩
  ·rw[qi (by omega)]at E;exact E
  ·rw[zh (by omega)]at N;simpa using N
end
theorem Hq(x y:Nat)(h:x+y<=2^62:=by omega):qc xq (qQ (qc xu (qc xq ((x:Int)+(y:Int)))) (2^min (1:Int).toNat (qk xu)))=(((x+y)/2:Nat):Int):=by
 rw[aj ((x:Int)+y)];have e:qc xu ((x:Int)+(y:Int))=(x:Int)+y:=by
  unfold qc;simp[qk,yC];omega
 rw[e,show min (1:Int).toNat (qk xu)=1 from rfl,Int.fdiv_eq_ediv_of_nonneg _ (by decide),aj _];omega
section
variable {B:aA} {h0 h h':Heap} {As:List HP} {s:Sl} {d:List bw}
theorem Bc{x y:bw}(h:¬kU x y<0):bX y x=true:=by
 by_cases a:bX y x=true
 ·exact a
 ·exact absurd ((ri x y).2 a) h
theorem jv{K:bw->Prop}(H:aa B h0 h (co s d::As)){i:Int}(n:Nat)(c:i=n){x:bw}(b:d[n]?=some x)(e:K x):
  ∃a:Addr,(s.ptr=some a/\0<=i/\i<((s.len:Nat):Int))/\∃x:bw,al h (a.add (i.toNat*8)) 0 (bI x)/\K x:=by
 obtain⟨j,f⟩:=qn.1 b;exact(H.seq 0 rfl fun _=>rfl).ea (g:=bI) n c j x (by rw[f]) e
theorem Ml(x:bw)(X R Y:List bw)(am:X.length+1+R.length+Y.length<=2^40)(I:Sd bX R)(H:aa B h0 h (co s (X++(x::(R++Y)))::As)){K:Cu}
  (d:∀h',(∃M,Sd bX M/\bY bX (x::R) M/\aa B h0 h' (co s (X++(M++Y))::As))->K (.tuple #[]) h') (a m b:Int) (ha:a=(X.length:Int)) (hm:m=(X.length+1:Nat)) (hb:b=(X.length+1+R.length:Nat)):
  aG (σ:=Int×Int) (fun c K1 g=>
   Br (decide (c.1<c.2))
   ((0<=(1:Int))/\
   ∃a2:Addr,(s.ptr=some a2/\0<=(qc xq (qQ (qc xu (qc xq (c.1+c.2))) (2^min (1:Int).toNat (qk xu))))/\(qc xq (qQ (qc xu (qc xq (c.1+c.2))) (2^min (1:Int).toNat (qk xu))))<((s.len:Nat):Int))/\
   ∃x3:bw,al g (a2.add ((qc xq (qQ (qc xu (qc xq (c.1+c.2))) (2^min (1:Int).toNat (qk xu)))).toNat*8)) 0 (bI x3)/\
   ∃a4:Addr,(s.ptr=some a4/\0<=a/\a<((s.len:Nat):Int))/\
   ∃x5:bw,al g (a4.add (a.toNat*8)) 0 (bI x5)/\
   hJ C 241 ((#[]:Array Value).toList++[recv x3,recv x5]++(#[]:Array Value).toList) (.one (.sc (.int .i64))) g fun r6 n=>
   (aq.ok [] n)/\
   Br (decide (r6<(0:Int)))
   (K1 (qc xq ((qc xq (qQ (qc xu (qc xq (c.1+c.2))) (2^min (1:Int).toNat (qk xu))))+(1:Int)),c.2) n)
   (K1 (c.1,qc xq (qQ (qc xu (qc xq (c.1+c.2))) (2^min (1:Int).toNat (qk xu)))) n))
   (aG (σ:=Int) (fun f K2 h3=>
   Br (decide (f<(qc xq (c.1-(1:Int)))))
   (∃a8:Addr,(s.ptr=some a8/\0<=(qc xq (f+(1:Int)))/\(qc xq (f+(1:Int)))<((s.len:Nat):Int))/\
   ∃x9:bw,al h3 (a8.add ((qc xq (f+(1:Int))).toNat*8)) 0 (bI x9)/\
   ∃G:Addr,(s.ptr=some G/\0<=f/\f<((s.len:Nat):Int))/\
   ∃J:bw,al h3 (G.add (f.toNat*8)) 0 (bI J)/\
   ∃y:Addr,(s.ptr=some y/\0<=f/\f<((s.len:Nat):Int))/\
   ae xv (qf 233 (xm (some (y.add (f.toNat*8)))) (recv x9)) h3 fun _ Z=>
   (aq.ok [] Z)/\
   ∃A:Addr,(s.ptr=some A/\0<=(qc xq (f+(1:Int)))/\(qc xq (f+(1:Int)))<((s.len:Nat):Int))/\
   ae xv (qf 233 (xm (some (A.add ((qc xq (f+(1:Int))).toNat*8)))) (recv J)) Z fun _ Q=>
   (aq.ok [] Q)/\
   K2 (qc xq (f+(1:Int))) Q)
   (K (.tuple #[]) h3)) a g)) (m,b) h:=by
 subst ha;subst hm;subst hb;refine au (fun t:Nat×Nat=>(((X.length+1+t.1:Nat):Int),((X.length+1+t.2:Nat):Int))) (fun t h'=>t.1<=t.2/\t.2<=R.length/\(∀k (d:k<R.length),k<t.1->¬bX x R[k]=true)/\(∀k (d:k<R.length),t.2<=k->bX x R[k]=true)/\aa B h0 h' (co s (X++(x::(R++Y)))::As)) (fun t=>t.2-t.1) (0,R.length) rfl ⟨by simp,by simp,fun _ _ h=>by simp at h,fun _ g n=>absurd g (by simpa using n),H⟩ ?_;rintro⟨i,j⟩ g ⟨ah,hj,q,r,N⟩;dsimp only at*;refine ai (fun e=>?_) (fun e=>?_)
 ·have o:i<j:=by omega
  rw[Hq _ _];have eh:((X.length+1+i)+(X.length+1+j))/2=X.length+1+(i+j)/2:=by omega
  rw[eh];have d:(i+j)/2<R.length:=by omega
  refine⟨by decide,jv N _ rfl (x:=R[(i+j)/2]) ?_ (jv N X.length rfl (x:=x) ?_ (eS (by rfl) ?_))⟩
  ·rw[qj (by omega),show X.length+1+(i+j)/2-X.length=(i+j)/2+1 by omega,qz,qm d,qd d]
  ·rw[qj (ql _),zd];rfl
  refine(pC R[(i+j)/2] x g).mono ?_;rintro _ n ⟨rfl,R2⟩;have H2:=N.up R2.ag;refine⟨_,rfl,trivial,ai (fun e2=>?_) (fun e2=>?_)⟩
  ·have T:=(ri _ _).1 e2;refine⟨((i+j)/2+1,j),by dsimp only;rw[aj _];rfl,⟨by dsimp only;omega,hj,fun k D V=>?_,r,H2⟩,by dsimp only;omega⟩;intro hc;exact T (dC.trans _ _ _ hc (I.at_ dC (i:=k) (j:=(i+j)/2) (by dsimp only at V;omega) d))
  ·refine⟨(i,(i+j)/2),rfl,⟨by dsimp only;omega,by dsimp only;omega,q,fun k D S=>?_,H2⟩,by dsimp only;omega⟩;exact dC.trans _ _ _ (Bc e2) (I.at_ dC (by dsimp only at S;omega) D)
 ·have o:i=j:=by omega
  subst o;have hM:Sd bX (R.take i++x::R.drop i):=by
   refine Sd.app dC (Sd.left (v:=R.drop i) (by rw[qx];exact I)) (zM.2 ⟨fun z F=>?_,Sd.right (u:=R.take i) (by rw[qx];exact I)⟩) fun z F w E=>?_
   ·obtain⟨k,d,rfl⟩:=qE F;rw[wm];exact r _ _ (by omega)
   ·obtain⟨k,d,rfl⟩:=qE F;rw[wU];have W:k<i:=by simp at d;omega
    have g:=dC.Fb (q k (by simp at d;omega) W);rcases q8.1 E with rfl|E
    ·exact g
    ·obtain⟨l,hl,rfl⟩:=qE E;rw[wm];exact I.at_ dC (by omega) (by simp at hl;omega)
  have hE:bY bX (x::R) (R.take i++x::R.drop i):=by
   have g:bY bX ([x]++R.take i) (R.take i++[x]):=bY.XF dC fun z F w E=>by
    rw[qG.1 F];obtain⟨k,d,rfl⟩:=qE E;rw[wU];exact q k (by simp at d;omega) (by simp at d;omega)
   have n:=g.app (bY.refl (le:=bX) (R.drop i));have e1:([x]++R.take i)++R.drop i=x::R:=by rw[qo,qx];rfl
   have e2:(R.take i++[x])++R.drop i=R.take i++x::R.drop i:=by simp
   rw[e1,e2]at n;exact n
  have el:qc xq (((X.length+1+i:Nat):Int)-1)=((X.length+i:Nat):Int):=by rw[aj _];omega
  rw[el];refine au (fun t:Nat=>((X.length+t:Nat):Int)) (fun t h'=>t<=i/\aa B h0 h' (co s (X++(R.take t++(x::(R.drop t++Y))))::As)) (fun t=>i-t) 0 rfl ⟨by omega,by simpa using N⟩ ?_;rintro t h3 ⟨ht,O⟩;refine ai (fun e2=>?_) (fun e2=>?_)
  ·have ad:t<i:=by omega
   have L:t<R.length:=by omega
   have p:X++(R.take t++(x::(R.drop t++Y)))=(X++R.take t)++x::([]++R[t]::(R.drop (t+1)++Y)):=by rw[qS L];simp only[qo,zA,wh]
   obtain⟨U,P,q3,q4⟩:=QU (X++R.take t) [] (R.drop (t+1)++Y) x R[t] (i:=X.length+t) (j:=X.length+t+1) (by simp;omega) (by simp;omega);rw[<-p]at U P q3 q4;have ek:qc xq (((X.length+t:Nat):Int)+1)=((X.length+t+1:Nat):Int):=by rw[aj _];omega
   rw[ek];refine jv O _ rfl P (jv O _ rfl U ?_);refine O.set ac 0 rfl (fun _=>rfl) rfl (X.length+t) rfl (qn.1 U).1 R[t] rfl rfl rfl fun Z H4=>⟨trivial,?_⟩
   refine H4.set ac 0 rfl (fun _=>rfl) rfl (X.length+t+1) rfl (by rw[zr];exact(qn.1 P).1) x rfl rfl rfl fun Q H5=>⟨trivial,?_⟩
   refine⟨t+1,rfl,⟨by omega,?_⟩,by omega⟩;have e3:X++(R.take (t+1)++(x::(R.drop (t+1)++Y)))=(X++R.take t)++R[t]::([]++x::(R.drop (t+1)++Y)):=by rw[aH R t L];simp only[qo,zA,wh]
   rw[e3,<-q3];exact H5
  ·have:t=i:=by omega
   subst this;refine d h3 ⟨R.take t++x::R.drop t,hM,hE,?_⟩;have:X++((R.take t++x::R.drop t)++Y)=X++(R.take t++(x::(R.drop t++Y))):=by simp
   rw[this];exact O
end
section
variable {B:aA} {h0 h h':Heap} {As:List HP} {s:Sl} {d:List bw}
theorem KF(y:bw)(X L Y:List bw)(a1:X.length+L.length+1+Y.length<=2^40)(T:Sd bX L)(H:aa B h0 h (co s (X++(L++(y::Y)))::As)){K:Cu}
  (d:∀h',(∃M,Sd bX M/\bY bX (L++[y]) M/\aa B h0 h' (co s (X++(M++Y))::As))->K (.tuple #[]) h') (a m:Int) (ha:a=(X.length:Int)) (hm:m=(X.length+L.length:Nat)):
  aG (σ:=Int×Int) (fun b K3 W=>
   Br (decide (b.1<b.2))
   ((0<=(1:Int))/\
   ∃r:Addr,(s.ptr=some r/\0<=m/\m<((s.len:Nat):Int))/\
   ∃E:bw,al W (r.add (m.toNat*8)) 0 (bI E)/\
   ∃D:Addr,(s.ptr=some D/\0<=(qc xq (qQ (qc xu (qc xq (b.1+b.2))) (2^min (1:Int).toNat (qk xu))))/\(qc xq (qQ (qc xu (qc xq (b.1+b.2))) (2^min (1:Int).toNat (qk xu))))<((s.len:Nat):Int))/\
   ∃U:bw,al W (D.add ((qc xq (qQ (qc xu (qc xq (b.1+b.2))) (2^min (1:Int).toNat (qk xu)))).toNat*8)) 0 (bI U)/\
   hJ C 241 ((#[]:Array Value).toList++[recv E,recv U]++(#[]:Array Value).toList) (.one (.sc (.int .i64))) W fun ap h7=>
   (aq.ok [] h7)/\
   Br (!(decide (ap<(0:Int))))
   (K3 (qc xq ((qc xq (qQ (qc xu (qc xq (b.1+b.2))) (2^min (1:Int).toNat (qk xu))))+(1:Int)),b.2) h7)
   (K3 (b.1,qc xq (qQ (qc xu (qc xq (b.1+b.2))) (2^min (1:Int).toNat (qk xu)))) h7))
   (aG (σ:=Int) (fun c K4 h8=>
   Br (decide (c>b.1))
   (∃O:Addr,(s.ptr=some O/\0<=(qc xq (c-(1:Int)))/\(qc xq (c-(1:Int)))<((s.len:Nat):Int))/\
   ∃p:bw,al h8 (O.add ((qc xq (c-(1:Int))).toNat*8)) 0 (bI p)/\
   ∃P:Addr,(s.ptr=some P/\0<=c/\c<((s.len:Nat):Int))/\
   ∃A:bw,al h8 (P.add (c.toNat*8)) 0 (bI A)/\
   ∃a25:Addr,(s.ptr=some a25/\0<=c/\c<((s.len:Nat):Int))/\
   ae xv (qf 233 (xm (some (a25.add (c.toNat*8)))) (recv p)) h8 fun _ h9=>
   (aq.ok [] h9)/\
   ∃F:Addr,(s.ptr=some F/\0<=(qc xq (c-(1:Int)))/\(qc xq (c-(1:Int)))<((s.len:Nat):Int))/\
   ae xv (qf 233 (xm (some (F.add ((qc xq (c-(1:Int))).toNat*8)))) (recv A)) h9 fun _ S=>
   (aq.ok [] S)/\
   K4 (qc xq (c-(1:Int))) S)
   (K (.tuple #[]) h8)) m W)) (a,m) h:=by
 subst ha;subst hm;refine au (fun t:Nat×Nat=>(((X.length+t.1:Nat):Int),((X.length+t.2:Nat):Int))) (fun t h'=>t.1<=t.2/\t.2<=L.length/\(∀k (d:k<L.length),k<t.1->bX L[k] y=true)/\(∀k (d:k<L.length),t.2<=k->¬bX L[k] y=true)/\aa B h0 h' (co s (X++(L++(y::Y)))::As)) (fun t=>t.2-t.1) (0,L.length) rfl ⟨by simp,by simp,fun _ _ h=>by simp at h,fun _ g q=>absurd g (by simpa using q),H⟩ ?_;rintro⟨i,j⟩ g ⟨a0,hj,Q,o,V⟩;dsimp only at*;refine ai (fun e=>?_) (fun e=>?_)
 ·have f:i<j:=by omega
  rw[Hq _ _];have eh:((X.length+i)+(X.length+j))/2=X.length+(i+j)/2:=by omega
  rw[eh];have d:(i+j)/2<L.length:=by omega
  refine⟨by decide,jv V (X.length+L.length) rfl (x:=y) ?_ (jv V _ rfl (x:=L[(i+j)/2]) ?_ (eS (by rfl) ?_))⟩
  ·rw[qj (by omega),show X.length+L.length-X.length=L.length by omega,qj (ql _),zd];rfl
  ·rw[qj (by omega),show X.length+(i+j)/2-X.length=(i+j)/2 by omega,qm d,qd d]
  refine(pC y L[(i+j)/2] g).mono ?_;rintro _ q ⟨rfl,R2⟩;have H2:=V.up R2.ag;refine⟨_,rfl,trivial,?_⟩;by_cases e2:kU y L[(i+j)/2]<0
  ·have ah:=(ri _ _).1 e2;refine be (fun N=>absurd N (by simpa using e2)) fun _=>?_;refine⟨(i,(i+j)/2),rfl,⟨by dsimp only;omega,by dsimp only;omega,Q,fun k I ad=>?_,H2⟩,by dsimp only;omega⟩;intro hc;exact ah (dC.trans _ _ _ (T.at_ dC (i:=(i+j)/2) (j:=k) (by dsimp only at ad;omega) I) hc)
  ·refine be (fun _=>?_) fun N=>absurd N (by simpa using e2);refine⟨((i+j)/2+1,j),by dsimp only;rw[aj _];rfl,⟨by dsimp only;omega,hj,fun k I am=>?_,o,H2⟩,by dsimp only;omega⟩;exact dC.trans _ _ _ (T.at_ dC (by dsimp only at am;omega) d) (Bc e2)
 ·have f:i=j:=by omega
  subst f;have hM:Sd bX (L.take i++y::L.drop i):=by
   refine Sd.app dC (Sd.left (v:=L.drop i) (by rw[qx];exact T)) (zM.2 ⟨fun z R=>?_,Sd.right (u:=L.take i) (by rw[qx];exact T)⟩) fun z R w J=>?_
   ·obtain⟨k,d,rfl⟩:=qE R;rw[wm];exact dC.Fb (o _ (by simp at d;omega) (by omega))
   ·obtain⟨k,d,rfl⟩:=qE R;rw[wU];have ax:k<i:=by simp at d;omega
    have g:=Q k (by simp at d;omega) ax;rcases q8.1 J with rfl|J
    ·exact g
    ·obtain⟨l,hl,rfl⟩:=qE J;rw[wm];exact T.at_ dC (by omega) (by simp at hl;omega)
  have hE:bY bX (L++[y]) (L.take i++y::L.drop i):=by
   have g:bY bX (L.drop i++[y]) ([y]++L.drop i):=bY.XF dC fun z R w J=>by
    rw[qG.1 J];obtain⟨k,d,rfl⟩:=qE R;rw[wm];exact o _ (by simp at d;omega) (by omega)
   have q:=(bY.refl (le:=bX) (L.take i)).app g;have e1:L.take i++(L.drop i++[y])=L++[y]:=by rw[<-qo,qx]
   rw[e1]at q;exact q
  refine au (fun t:Nat=>((X.length+t:Nat):Int)) (fun t h'=>i<=t/\t<=L.length/\aa B h0 h' (co s (X++(L.take t++(y::(L.drop t++Y))))::As)) (fun t=>t-i) L.length rfl ⟨by omega,by omega,by simpa using V⟩ ?_;rintro t h3 ⟨ht,ay,Z⟩;refine ai (fun e2=>?_) (fun e2=>?_)
  ·obtain⟨u,rfl⟩:∃u,t=u+1:=⟨t-1,by omega⟩
   have G:u<L.length:=by omega
   have n:X++(L.take (u+1)++(y::(L.drop (u+1)++Y)))=(X++L.take u)++L[u]::([]++y::(L.drop (u+1)++Y)):=by rw[aH L u G];simp only[qo,zA,wh]
   obtain⟨q1,q2,q3,q4⟩:=QU (X++L.take u) [] (L.drop (u+1)++Y) L[u] y (i:=X.length+u) (j:=X.length+(u+1)) (by simp;omega) (by simp;omega);rw[<-n]at q1 q2 q3 q4;have ek:qc xq (((X.length+(u+1):Nat):Int)-1)=((X.length+u:Nat):Int):=by rw[aj _];omega
   rw[ek];refine jv Z _ rfl q1 (jv Z _ rfl q2 ?_);refine Z.set ac 0 rfl (fun _=>rfl) rfl (X.length+(u+1)) rfl (qn.1 q2).1 L[u] rfl rfl rfl fun h4 H4=>⟨trivial,?_⟩
   refine H4.set ac 0 rfl (fun _=>rfl) rfl (X.length+u) rfl (by rw[zr];exact(qn.1 q1).1) y rfl rfl rfl fun h5 H5=>⟨trivial,?_⟩
   refine⟨u,rfl,⟨by omega,by omega,?_⟩,by omega⟩;have N:X++(L.take u++(y::(L.drop u++Y)))=(X++L.take u)++y::([]++L[u]::(L.drop (u+1)++Y)):=by rw[qS G];simp only[qo,zA,wh]
   rw[N,<-q4];exact H5
  ·have:t=i:=by omega
   subst this;refine d h3 ⟨L.take t++y::L.drop t,hM,hE,?_⟩;have:X++((L.take t++y::L.drop t)++Y)=X++(L.take t++(y::(L.drop t++Y))):=by simp
   rw[this];exact Z
end
end Go.Qw
namespace Wl
open Go Go.Vc
theorem Yy{L R:List bw}(h:Sd bX L)(k:Sd bX R)(p q:Nat)(s:p<=L.length)(r:q<=R.length)
  (m:∀i j (b:i<L.length) (a:j<R.length),i+1=p->j=q->bX L[i] R[j]=true)
  (n:∀i j (b:i<L.length) (a:j<R.length),i=p->j+1=q->¬bX L[i] R[j]=true):
  (∀x∈L.take p,∀y∈R.drop q,bX x y=true)/\(∀x∈L.drop p,∀y∈R.take q,¬bX x y=true):=by
 constructor
 ·intro x g y e;obtain⟨i,b,rfl⟩:=qE g;obtain⟨j,a,rfl⟩:=qE e;rw[wU,wm];have d:i<p:=by simp at b;omega
  have c:q+j<R.length:=by simp at a;omega
  have f:=h.at_ dC (i:=i) (j:=p-1) (by omega) (by omega);have o:=m (p-1) q (by omega) (by omega) (by omega) rfl;have h3:=k.at_ dC (i:=q) (j:=q+j) (by omega) c;exact dC.trans _ _ _ f (dC.trans _ _ _ o h3)
 ·intro x g y e l;obtain⟨i,b,rfl⟩:=qE g;obtain⟨j,a,rfl⟩:=qE e;rw[wU,wm]at l;have c:j<q:=by simp at a;omega
  have d:p+i<L.length:=by simp at b;omega
  have f:=h.at_ dC (i:=p) (j:=p+i) (by omega) d;have h3:=k.at_ dC (i:=j) (j:=q-1) (by omega) (by omega);exact n p (q-1) (by omega) (by omega) rfl (by omega) (dC.trans _ _ _ f (dC.trans _ _ _ l h3))
end Wl
namespace Go.Qw
open Go Go.Vc Go.Proofs Wl
theorem En:∀(N:Nat) {B:aA} {h0 h:Heap} {As:List HP} {s:Sl} (X L R Y:List bw) (a m b:Int),0<L.length->0<R.length->L.length+R.length<=N->a=(X.length:Int)->m=(X.length+L.length:Nat)->b=(X.length+L.length+R.length:Nat)->X.length+L.length+R.length+Y.length<=2^40->Sd bX L->Sd bX R->
  aa B h0 h (co s (X++(L++(R++Y)))::As)->
  ab xv 332 #[s,xk xq a,xk xq m,xk xq b,.func (.func 241) #[] #[]] h fun v h'=>v=.tuple #[]/\∃M,Sd bX M/\bY bX (L++R) M/\aa B h0 h' (co s (X++(M++Y))::As):=by
 intro N
 induction N with
 |zero=>intro B h0 h As s X L R Y a m b hL hR hN;omega
 |succ N ih=>
  intro B h0 h As s X L R Y a m b hL hR hN ha hm hb ap sL S H;refine lN s a m b (241,#[],#[]) ?_;unfold iq;have e1:qc xq (m-a)=(L.length:Int):=by rw[aj _];omega
  have e2:qc xq (b-m)=(R.length:Int):=by rw[aj _];omega
  rw[e1,e2];refine cz (fun c=>?_) fun c=>cz (fun c2=>?_) fun c2=>?_
  ·obtain⟨x,hx⟩:∃x,L=[x]:=by
    match L,hL,c with
    |[x],_,_=>exact⟨x,rfl⟩
    |x::y::L,_,c=>simp at c;omega
   subst hx;exact Ml (K:=fun v h'=>v=.tuple #[]/\∃M,Sd bX M/\bY bX ([x]++R) M/\aa B h0 h' (co s (X++(M++Y))::As)) x X R Y (by simp at ap⊢;omega) S H (fun h' ⟨M,q1,P,T⟩=>⟨rfl,M,q1,P,T⟩) a m b ha (by rw[hm];simp) (by rw[hb];simp)
  ·obtain⟨y,hy⟩:∃y,R=[y]:=by
    match R,hR,c2 with
    |[x],_,_=>exact⟨x,rfl⟩
    |x::y::L,_,c=>simp at c;omega
   subst hy;exact KF (K:=fun v h'=>v=.tuple #[]/\∃M,Sd bX M/\bY bX (L++[y]) M/\aa B h0 h' (co s (X++(M++Y))::As)) y X L Y (by simp at ap⊢;omega) sL H (fun h' ⟨M,q1,P,T⟩=>⟨rfl,M,q1,P,T⟩) a m ha hm
  ·refine⟨by decide,?_⟩;subst ha;subst hm;subst hb;have c':L.length≠1:=fun A=>c (by omega);have b9:R.length≠1:=fun A=>c2 (by omega);rw[Hq X.length (X.length+L.length+R.length)];obtain⟨DL,am⟩:∃DL,DL=(X.length+(X.length+L.length+R.length))/2:=⟨_,rfl⟩
   rw[<-am];have en:qc xq ((DL:Int)+((X.length+L.length:Nat):Int))=((DL+(X.length+L.length):Nat):Int):=by rw[aj _];omega
   rw[en];obtain⟨n,hn⟩:∃n,n=DL+(X.length+L.length):=⟨_,rfl⟩
   rw[<-hn];have ep:qc xq ((n:Int)-1)=((n-1:Nat):Int):=by rw[aj _];omega
   rw[ep];obtain⟨D,hD⟩:∃D,D=X++(L++(R++Y)):=⟨_,rfl⟩
   have gL:∀i (f:i<L.length),D[X.length+i]?=some L[i]:=fun i f=>by
    rw[hD,qj (by omega),zn,qm f,qd f]
   have gR:∀i (f:i<R.length),D[X.length+L.length+i]?=some R[i]:=fun i f=>by
    rw[hD,qj (by omega),show X.length+L.length+i-X.length=L.length+i by omega,qj (by omega),zn,qm f,qd f]
   rw[<-hD]at H;refine bO (fun(k:Int×Int) h'=>h'=h/\∃o f:Nat,k=((o:Int),(f:Int))/\o<=f/\X.length<=o/\f<=X.length+L.length/\f<=DL/\n<=o+(X.length+L.length+R.length)/\(o=X.length∨n=o+(X.length+L.length+R.length))/\(f=X.length+L.length∨f=DL)) ?_ ?_
   ·refine ai (fun e=>⟨rfl,n-(X.length+L.length+R.length),DL,?_,by omega,by omega,by omega,by omega,by omega,by omega,by omega⟩) fun e=>⟨rfl,X.length,X.length+L.length,rfl,by omega,by omega,by omega,by omega,by omega,by omega,by omega⟩
    have:qc xq ((n:Int)-((X.length+L.length+R.length:Nat):Int))=((n-(X.length+L.length+R.length):Nat):Int):=by rw[aj _];omega
    rw[this]
   ·rintro⟨b0,bs⟩ _ ⟨rfl,o,f,a4,b1,b2,b3,b4,b5,b6,b7⟩;injection a4 with est1 est2
    subst est1;subst est2;dsimp only;refine au (fun t:Nat×Nat=>((t.1:Int),(t.2:Int))) (fun t h'=>o<=t.1/\t.1<=t.2/\t.2<=f/\
     (∀i j (l:i<L.length) (U:j<R.length),X.length+i+1=t.1->X.length+i+(X.length+L.length+j)=n-1->o<t.1->bX L[i] R[j]=true)/\
     (∀i j (l:i<L.length) (U:j<R.length),X.length+i=t.2->X.length+i+(X.length+L.length+j)=n-1->t.2<f->¬bX L[i] R[j]=true)/\
     aa B h0 h' (co s D::As)) (fun t=>t.2-t.1) (o,f) rfl ⟨by simp,by simpa using b1,by simp,fun _ _ _ _ _ _ E=>absurd E (by simp),fun _ _ _ _ _ _ E=>absurd E (by simp),H⟩ ?_
    rintro⟨k,r⟩ h1 ⟨t1,t2,t3,F1,F2,H1⟩;dsimp only at*;refine ai (fun e=>?_) (fun e=>?_)
    ·have E:k<r:=by omega
     rw[Hq _ _];obtain⟨I,a2⟩:∃I,I=(k+r)/2:=⟨_,rfl⟩
     rw[<-a2];have bq:qc xq (((n-1:Nat):Int)-(I:Int))=((n-1-I:Nat):Int):=by rw[aj _];omega
     rw[bq];obtain⟨i,l⟩:∃i,I=X.length+i:=⟨I-X.length,by omega⟩
     obtain⟨j,bb⟩:∃j,n-1-I=X.length+L.length+j:=⟨n-1-I-(X.length+L.length),by omega⟩
     have a8:i<L.length:=by omega
     have a6:j<R.length:=by omega
     rw[bb,l];refine⟨by decide,jv H1 _ rfl (gR j a6) (jv H1 _ rfl (gL i a8) (eS (by rfl) ?_))⟩;refine(pC R[j] L[i] h1).mono ?_;rintro _ h2 ⟨rfl,R2⟩;have G:=H1.up R2.ag;refine⟨_,rfl,trivial,?_⟩;by_cases e2:kU R[j] L[i]<0
     ·have a3:=(ri _ _).1 e2;refine be (fun e3=>absurd e3 (by simpa using e2)) fun _=>?_;refine⟨(k,X.length+i),rfl,⟨t1,by dsimp only;omega,by dsimp only;omega,F1,fun i2 j2 a5 ax w F _=>?_,G⟩,by dsimp only;omega⟩;dsimp only at w;have:i2=i:=by omega
      subst this;have:j2=j:=by omega
      subst this;exact a3
     ·refine be (fun _=>?_) fun e3=>absurd e3 (by simpa using e2);refine⟨(X.length+i+1,r),by dsimp only;rw[aj _];rfl,⟨by dsimp only;omega,by dsimp only;omega,t3,fun i2 j2 a5 ax w F _=>?_,F2,G⟩,by dsimp only;omega⟩;dsimp only at w;have:i2=i:=by omega
      subst this;have:j2=j:=by omega
      subst this;exact Bc e2
    ·have br:k=r:=by omega
     subst br;have ay:qc xq ((n:Int)-(k:Int))=((n-k:Nat):Int):=by rw[aj _];omega
     rw[ay];obtain⟨p,hp⟩:∃p,k=X.length+p:=⟨k-X.length,by omega⟩
     obtain⟨q,hq⟩:∃q,n-k=X.length+L.length+q:=⟨n-k-(X.length+L.length),by omega⟩
     have a7:p<=L.length:=by omega
     have bk:q<=R.length:=by omega
     obtain⟨bl,a9⟩:=Yy sL S p q a7 bk (fun i j l U w F=>F1 i j l U (by omega) (by omega) (by
      by_cases bd:o<k
      ·exact bd
      ·exfalso;have:k=o:=by omega
       omega)) (fun i j l U w F=>F2 i j l U (by omega) (by omega) (by
      by_cases a1:k<f
      ·exact a1
      ·exfalso;have:k=f:=by omega
       omega))
     have Z:L.take p++L.drop p=L:=qx _ _;have Q:R.take q++R.drop q=R:=qx _ _;have l1:(L.take p).length=p:=by simp;omega
     have l2:(L.drop p).length=L.length-p:=by simp
     have r1:(R.take q).length=q:=by simp;omega
     have r2:(R.drop q).length=R.length-q:=by simp
     have W:Sd bX (L.take p):=Sd.left (v:=L.drop p) (by rw[Z];exact sL);have ad:Sd bX (L.drop p):=Sd.right (u:=L.take p) (by rw[Z];exact sL);have ah:Sd bX (R.take q):=Sd.left (v:=R.drop q) (by rw[Q];exact S);have V:Sd bX (R.drop q):=Sd.right (u:=R.take q) (by rw[Q];exact S);rw[hq,hp];refine bO (fun _ h'=>aa B h0 h' (co s (X++(L.take p++(R.take q++(L.drop p++(R.drop q++Y)))))::As)) ?_ ?_
     ·have z:aa B h0 h1 (co s ((X++L.take p)++(L.drop p++(R.take q++(R.drop q++Y))))::As):=by
       have:(X++L.take p)++(L.drop p++(R.take q++(R.drop q++Y)))=D:=by
        rw[hD]
        conv=>rhs;rw[<-Z,<-Q]
        simp only[qo,zA,wh]
       rw[this];exact H1
      refine ai (fun w=>ai (fun F=>?_) fun F=>?_) fun w=>?_
      ·refine(Ti (X++L.take p) (L.drop p) (R.take q) (R.drop q++Y) _ _ _ (by omega) (by omega) (by simp;omega) (by simp;omega) (by simp;omega) (by simp;omega) z).mono ?_;rintro _ h2 ⟨rfl,G⟩;refine⟨(),rfl,?_⟩;rw[qo]at G;exact G
      ·have:R.take q=[]:=qT (by omega);rw[this]at z⊢;simpa using z
      ·have:L.drop p=[]:=qT (by omega);rw[this]at z⊢;simpa using z
     ·rintro _ h2 G;refine bO (fun _ h'=>∃g,Sd bX g/\bY bX (L.take p++R.take q) g/\g.length=p+q/\aa B h0 h' (co s (X++(g++(L.drop p++(R.drop q++Y))))::As)) ?_ ?_
      ·have d:(L.take p=[]∨R.take q=[])->∃g,Sd bX g/\bY bX (L.take p++R.take q) g/\g.length=p+q/\aa B h0 h2 (co s (X++(g++(L.drop p++(R.drop q++Y))))::As):=fun O=>by
        refine⟨L.take p++R.take q,?_,bY.refl _,by simp;omega,by rw[qo];exact G⟩;rcases O with A|A
        ·rw[A];exact ah
        ·rw[A,qU];exact W
       refine ai (fun w=>ai (fun F=>?_) fun F=>d (.inr (qT (by omega)))) fun w=>d (.inl (qT (by omega)));refine(ih X (L.take p) (R.take q) (L.drop p++(R.drop q++Y)) _ _ _ (by omega) (by omega) (by omega) rfl (by rw[l1]) (by rw[l1,r1];omega) (by simp;omega) W ah G).mono ?_;rintro _ h3 ⟨rfl,g,q1,P,T⟩;refine⟨(),rfl,g,q1,P,?_,T⟩;have J:=un dC P;rw[<-J];simp;omega
      ·rintro _ h3 ⟨g,m1,m2,m3,H3⟩;have fin:∀{h':Heap} {M2:List bw},Sd bX M2->bY bX (L.drop p++R.drop q) M2->aa B h0 h' (co s (X++(g++(M2++Y)))::As)->(Value.tuple #[]=.tuple #[]/\∃M,Sd bX M/\bY bX (L++R) M/\aa B h0 h' (co s (X++(M++Y))::As)):=fun{h' M2} k1 k2 k3=>by
        obtain⟨f1,f2⟩:=XG dC (by rw[Z];exact sL) (by rw[Q];exact S) bl a9 m2 m1 k2 k1;rw[Z,Q]at f2;exact⟨rfl,g++M2,f1,f2,by rw[qo];exact k3⟩
       have d:(L.drop p=[]∨R.drop q=[])->(Value.tuple #[]=.tuple #[]/\∃M,Sd bX M/\bY bX (L++R) M/\aa B h0 h3 (co s (X++(M++Y))::As)):=fun O=>by
        refine fin (M2:=L.drop p++R.drop q) ?_ (bY.refl _) (by rw[qo];exact H3);rcases O with A|A
        ·rw[A];exact V
        ·rw[A,qU];exact ad
       refine ai (fun w=>ai (fun F=>?_) fun F=>d (.inr (qT (by omega)))) fun w=>d (.inl (qT (by omega)));have a0:aa B h0 h3 (co s ((X++g)++(L.drop p++(R.drop q++Y)))::As):=by rw[qo];exact H3
       refine(ih (X++g) (L.drop p) (R.drop q) Y _ _ _ (by omega) (by omega) (by omega) (by simp;omega) (by simp;omega) (by simp;omega) (by simp;omega) ad V a0).mono ?_;rintro _ h4 ⟨rfl,M2,k1,k2,k3⟩;refine⟨(),rfl,fin k1 k2 (by rw[qo]at k3;exact k3)⟩
end Go.Qw
namespace Wl
open Go Go.Vc
def Bs(k:Nat)(l:List bw):Prop:=∀q,Sd bX ((l.drop (q*k)).take k)
theorem Bs.nil(k:Nat):Bs k []:=fun q=>by simp[Sd]
theorem Bs.first{k:Nat}{l:List bw}(h:Bs k l):Sd bX (l.take k):=by have:=h 0;simpa using this
theorem Bs.rest{k:Nat}{l:List bw}(h:Bs k l):Bs k (l.drop k):=fun q=>by
 have:=h (q+1);rw[zB,show k+q*k=(q+1)*k by rw[zK,Nat.add_comm]];exact this
theorem Bs.snoc{k t:Nat}{l M:List bw}(h:Bs k l)(b:l.length=t*k)(d:Sd bX M)(c:M.length<=k):Bs k (l++M):=fun q=>by
 rcases Nat.lt_trichotomy q t with hq|hq|hq
 ·have a:(q+1)*k<=t*k:=zp _ hq;rw[zK]at a;rw[List.drop_append_of_le_length (by omega),zS (by rw[qZ];omega)];exact h q
 ·subst hq;rw[<-b,List.drop_left,qi c];exact d
 ·have a:(t+1)*k<=q*k:=zp _ hq;rw[zK]at a;rw[zh (by rw[qw];omega)];simp[Sd]
theorem Bs.whole{k:Nat}{l:List bw}(h:Bs k l)(a:l.length<=k):Sd bX l:=by
 have:=h.first;rw[qi a]at this;exact this
end Wl
namespace Go.Qw
open Go Go.Vc Go.Proofs Wl
section
variable {B:aA} {h0 h h':Heap} {As:List HP} {s:Sl} {d:List bw}
theorem Tj(d:List bw)(n:Int)(hn:n=d.length)(hd:d.length<=2^30)(H:aa B h0 h (co s d::As)):
  ab xv 298 #[s,xk xq n,.func (.func 241) #[] #[]] h fun v h'=>v=.tuple #[]/\aa B h0 h' (co s (d.mergeSort bX)::As):=by
 subst hn;refine mC s d.length (241,#[],#[]) ?_;unfold iT;refine au (fun P:List bw=>((P.length:Int),((P.length+20:Nat):Int))) (fun P h'=>P.length<=d.length/\(∃t,P.length=t*20)/\Bs 20 P/\bY bX (d.take P.length) P/\aa B h0 h' (co s (P++d.drop P.length)::As)) (fun P=>d.length-P.length) [] rfl ⟨by simp,⟨0,by simp⟩,Bs.nil _,by simpa using bY.refl _,by simpa using H⟩ ?_;rintro P Z ⟨hP,⟨t,R⟩,X,W,F⟩;dsimp only;refine ai (fun e=>?_) (fun e=>?_)
 ·have ad:P.length+20<=d.length:=by omega
  have eY:(d.drop P.length).take 20++d.drop (P.length+20)=d.drop P.length:=by
   rw[<-zB];exact qx _ _
  have V:((d.drop P.length).take 20).length=20:=by simp;omega
  rw[<-eY]at F;refine(Cd P ((d.drop P.length).take 20) (d.drop (P.length+20)) _ _ rfl (by rw[V]) (by simp;omega) F).mono ?_;rintro _ h2 ⟨rfl,i,p,b,H2⟩;have x:i.length=20:=by rw[<-un dC b,V]
  have f:(P++i).length=P.length+20:=by rw[qw,x]
  refine⟨(),rfl,P++i,?_,⟨by omega,⟨t+1,by rw[f,R,zK]⟩,X.snoc R p (by omega),?_,?_⟩,by omega⟩
  ·rw[f,aj _];congr 1
  ·rw[f];have:d.take (P.length+20)=d.take P.length++(d.drop P.length).take 20:=by rw[List.take_add]
   rw[this];exact W.app b
  ·rw[f,qo];exact H2
 ·have I:aa B h0 Z (co s (P++(d.drop P.length++[]))::As):=by rw[qU];exact F
  refine(Cd P (d.drop P.length) [] _ _ rfl (by rw[qZ];omega) (by simp;omega) I).mono ?_;rintro _ h3 ⟨rfl,i,p,b,U⟩;have x:i.length=d.length-P.length:=by rw[<-un dC b,qZ]
  have L:Bs 20 (P++i):=X.snoc R p (by omega);have c:bY bX d (P++i):=by
   have:=W.app b;rw[qx]at this;exact this
  refine⟨(),rfl,?_⟩;refine au (fun t:Nat×List bw=>(t.1:Int)) (fun t h'=>0<t.1/\t.1<=2^32/\t.2.length=d.length/\Bs t.1 t.2/\bY bX d t.2/\aa B h0 h' (co s t.2::As)) (fun t=>2^32-t.1) (20,P++i) rfl ⟨by dsimp only;omega,by dsimp only;omega,by dsimp only;rw[qw];omega,L,c,by rw[qU]at U;exact U⟩ ?_;rintro⟨k,l⟩ h4 ⟨ah,hk,hl,S,z,E⟩;dsimp only at*;refine ai (fun e2=>?_) (fun e2=>?_)
  ·have am:k<d.length:=by omega
   have J:qc xq ((2:Int)*k)=((2*k:Nat):Int):=by rw[aj _];omega
   have N:qc xq ((k:Int)*2)=((2*k:Nat):Int):=by rw[aj _];omega
   rw[J];have next:∀{h':Heap} (q:List bw),q.length=d.length->Bs (2*k) q->bY bX l q->aa B h0 h' (co s q::As)->∃g:Nat×List bw,qc xq ((k:Int)*2)=(g.1:Int)/\(0<g.1/\g.1<=2^32/\g.2.length=d.length/\Bs g.1 g.2/\bY bX d g.2/\aa B h0 h' (co s g.2::As))/\2^32-g.1<2^32-k:=fun{h'} q q1 q2 q3 q4=>
    ⟨(2*k,q),N,⟨by dsimp only;omega,by dsimp only;omega,q1,q2,z.trans q3,q4⟩,by dsimp only;omega⟩
   refine au (fun t:List bw×List bw=>((t.1.length:Int),((t.1.length+2*k:Nat):Int))) (fun t h'=>(∃u,t.1.length=u*(2*k))/\t.1.length+t.2.length=d.length/\Bs (2*k) t.1/\Bs k t.2/\bY bX l (t.1++t.2)/\aa B h0 h' (co s (t.1++t.2)::As)) (fun t=>t.2.length) ([],l) (by dsimp only;rw[y8,Nat.zero_add];rfl) ⟨⟨0,by simp⟩,by simpa using hl,Bs.nil _,S,by simpa using bY.refl _,by simpa using E⟩ ?_;rintro⟨P,Q⟩ T ⟨⟨u,D⟩,ap,o,a,c,G⟩;dsimp only at*;have O:qc xq ((P.length:Int)+k)=((P.length+k:Nat):Int):=by rw[aj _];omega
   rw[O];have eQ:Q.take k++Q.drop k=Q:=qx _ _;refine ai (fun e3=>?_) (fun e3=>ai (fun Y=>?_) fun Y=>?_)
   ·have ay:2*k<=Q.length:=by omega
    have r:Q.take k++((Q.drop k).take k++Q.drop (2*k))=Q:=by
     have:Q.drop (2*k)=(Q.drop k).drop k:=by rw[zB];congr 1;omega
     rw[this,qx,eQ]
    have l1:(Q.take k).length=k:=by simp;omega
    have l2:((Q.drop k).take k).length=k:=by simp;omega
    have m:aa B h0 T (co s (P++(Q.take k++((Q.drop k).take k++Q.drop (2*k))))::As):=by rw[r];exact G
    refine(En _ P (Q.take k) ((Q.drop k).take k) (Q.drop (2*k)) _ _ _ (by omega) (by omega) (ql _) rfl (by rw[l1]) (by rw[l1,l2];omega) (by simp;omega) a.first a.rest.first m).mono ?_;rintro _ h6 ⟨rfl,M,p,b,A⟩;have y:M.length=2*k:=by rw[<-un dC b,qw,l1,l2];omega
    have j:(P++M).length=P.length+2*k:=by rw[qw,y]
    refine⟨(),rfl,(P++M,Q.drop (2*k)),?_,⟨⟨u+1,by dsimp only;rw[j,D];exact(zK u (2*k)).symm⟩,by dsimp only;rw[j,qZ];omega,o.snoc D p (by omega),?_,?_,?_⟩,by dsimp only;rw[qZ];omega⟩
    ·dsimp only;rw[j,aj _];congr 1
    ·dsimp only;have:Q.drop (2*k)=(Q.drop k).drop k:=by rw[zB];congr 1;omega
     rw[this];exact a.rest.rest
    ·dsimp only;refine c.trans ?_
     conv=>arg 2;rw[<-r]
     rw[qo];have:=(bY.refl (le:=bX) P).app (b.app (bY.refl (le:=bX) (Q.drop (2*k))));rw[qo]at this;exact this
    ·dsimp only;rw[qo];exact A
   ·have w:k<Q.length:=by omega
    have ax:Q.length<2*k:=by omega
    have l1:(Q.take k).length=k:=by simp;omega
    have l2:(Q.drop k).length=Q.length-k:=by simp
    have K:Sd bX (Q.drop k):=by
     have:=a.rest.first;rw[qi (by omega)]at this;exact this
    have m:aa B h0 T (co s (P++(Q.take k++(Q.drop k++[])))::As):=by rw[qU,eQ];exact G
    refine(En _ P (Q.take k) (Q.drop k) [] _ _ _ (by omega) (by omega) (ql _) rfl (by rw[l1]) (by rw[l1,l2];omega) (by simp;omega) a.first K m).mono ?_;rintro _ h6 ⟨rfl,M,p,b,A⟩;have y:M.length=Q.length:=by rw[<-un dC b,eQ]
    rw[eQ]at b;rw[qU]at A;exact⟨(),rfl,next (P++M) (by rw[qw];omega) (o.snoc D p (by omega)) (c.trans ((bY.refl _).app b)) A⟩
   ·have w:Q.length<=k:=by omega
    exact next (P++Q) (by rw[qw];omega) (o.snoc D (a.whole w) (by omega)) c G
  ·have hs:Sd bX l:=S.whole (by omega);rw[Vp dC hs z]at E;exact⟨rfl,E⟩
theorem KG(d:List bw)(a:d.length<=2^30)(H:aa B h0 h (co s d::As)):
  ab xv 240 #[s,.func (.func 241) #[] #[]] h fun v h'=>v=.tuple #[]/\aa B h0 h' (co s (d.mergeSort bX)::As):=by
 refine jo s (241,#[],#[]) ?_;unfold fG;refine(Tj d _ (by rw[(H.own 0 rfl).len]) a H).mono ?_;rintro _ c ⟨rfl,b⟩;exact⟨(),rfl,rfl,b⟩
def jn:bw:=(0,0,0,0,0,0,0,⟨none,0,0⟩)
end
end Go.Qw
namespace Wl
open Go Go.Vc Go.Qw
def jF(l:List bw)(k:Nat):Bool:=decide (k=0)||decide (kU (l.getD k jn) (l.getD (k-1) jn)≠0)
def jG(l:List bw)(k:Nat):List bw:=((qy k).filter (jF l)).map fun i=>l.getD i jn
def Yz(l:List bw):List bw:=jG l l.length
theorem mG(l:List bw)(k:Nat):jG l (k+1)=jG l k++if jF l k then[l.getD k jn]else[]:=by
 unfold jG;rw[zt,zg,qW,zo,y6];split<;>rfl
end Wl
namespace Go.Qw
open Go Go.Vc Go.Proofs Wl
section
variable {B:aA} {h0 h h':Heap} {As:List HP} {s:Sl} {d:List bw}
theorem KH(a b:bw)(h:Heap):ab xv 243 #[recv a,recv b] h fun v h'=>v=xo (decide (kU a b=0))/\Sp h h' []:=by
 refine FU a b ?_;unfold vG;refine(Sp.refl h).boxed fun i j g=>g.boxed fun e d c=>?_;have c:Sp h d [ar i 233 (bI a),ar e 233 (bI b)]:=c;refine⟨a,(c.box 0 rfl).aF _ rfl,b,(c.box 1 rfl).aF _ rfl,(pC a b d).mono ?_⟩;rintro _ h3 ⟨rfl,f⟩;refine⟨_,rfl,?_,.zip (aa.up c f.ag).ag⟩;congr 1
theorem Jj(l:List bw)(hd:l.length<=2^30)(H:aa B h0 h (co s l::As)):
  ab xv 242 #[s,.func (.func 243) #[] #[]] h fun v h'=>∃r:Sl,v=r/\aa B h0 h' (co r (Yz l)::As):=by
 refine jS s (243,#[],#[]) ?_;unfold fW;have ah:=(H.own 0 rfl).len;have E:=(H.own 0 rfl).cap;have m:(∀j,j<l.length->jF l j=true)->Yz l=l:=fun z=>by
  have:∀k,k<=l.length->jG l k=l.take k:=fun k=>by
   induction k with
   |zero=>simp[jG]
   |succ k ih=>
    intro P;rw[mG,ih (by omega),if_pos (z k (by omega)),aH l k,getD_lt (show k<l.length by omega)]
  unfold Yz;rw[this _ (ql _),qX]
 refine ai (fun e=>⟨s,rfl,?_⟩) (fun e=>?_)
 ·rw[m fun j n=>by unfold jF;rw[decide_eq_true (show j=0 by omega)];rfl];exact H
 refine au (fun i:Nat=>(i:Int)) (fun i h'=>1<=i/\i<=l.length/\(∀j,j<i->jF l j=true)/\aa B h0 h' (co s l::As)) (fun i=>l.length-i) 1 rfl ⟨by omega,by omega,fun j n=>by unfold jF;rw[decide_eq_true (show j=0 by omega)];rfl,H⟩ ?_;rintro i h1 ⟨ad,hi,z,I⟩;refine ai (fun R=>?_) (fun R=>?_)
 ·have A:i<l.length:=by
   have e':(i:Int)<(s.len:Int):=R;omega
  have ei:qc xq ((i:Int)-1)=((i-1:Nat):Int):=by rw[aj _];omega
  rw[ei];refine jv I i rfl (x:=l.getD i jn) (by rw[getD_lt A,qd A]) (jv I (i-1) rfl (x:=l.getD (i-1) jn) (by rw[getD_lt (show i-1<l.length by omega),qd]) (eS (by rfl) ?_));refine(KH _ _ h1).mono ?_;rintro _ h2 ⟨rfl,R2⟩;have W:=I.up R2.ag;refine⟨_,rfl,trivial,bF (fun e2=>?_) (fun e2=>?_)⟩
  ·have o:jF l i=false:=by
    unfold jF;rw[decide_eq_false (show¬i=0 by omega)];simpa using e2
   have q:jG l i=l.take i:=by
    have:∀k,k<=i->jG l k=l.take k:=fun k=>by
     induction k with
     |zero=>simp[jG]
     |succ k ih=>
      intro P;rw[mG,ih (by omega),if_pos (z k (by omega)),aH l k,getD_lt (show k<l.length by omega)]
    exact this i (ql _)
   refine⟨⟨by omega,by omega⟩,?_⟩;rw[qp];refine au (fun t:Nat×List bw=>(((jG l (i+t.1)).length:Int),(t.1:Int))) (fun t h'=>1<=t.1/\i+t.1<=l.length/\t.2.length=l.length/\(jG l (i+t.1)).length+1<=i+t.1/\t.2.take (jG l (i+t.1)).length=jG l (i+t.1)/\(∀j,i+t.1-1<=j->t.2[j]?=l[j]?)/\aa B h0 h' (co s t.2::As)) (fun t=>l.length-t.1) (1,l) ?_ ⟨by simp,by dsimp only;omega,rfl,?_,?_,fun _ _=>rfl,W⟩ ?_
   ·dsimp only;rw[mG,o,q];simp;omega
   ·dsimp only;rw[mG,o,q];simp;omega
   ·dsimp only;rw[mG,o,q];simp
   rintro⟨k,D⟩ h3 ⟨ap,am,G,T,d,p,J⟩;dsimp only at*;obtain⟨c,U⟩:∃c,c=(jG l (i+k)).length:=⟨_,rfl⟩
   rw[<-U]at T d⊢;have ax:=(J.own 0 rfl).len;have F:=(J.seq 0 rfl fun _=>rfl).drop i E;refine ai (fun e3=>?_) (fun e3=>?_)
   ·have O:i+k<l.length:=by omega
    have ek:qc xq ((k:Int)-1)=((k-1:Nat):Int):=by rw[aj _];omega
    rw[ek];have X:∀j,k-1<=j->(n:i+j<l.length)->(D.drop i)[j]?=some (l.getD (i+j) jn):=fun j n y=>by
     rw[List.getElem?_drop,p _ (by omega),getD_lt y,qd y]
    have gk:=X k (by omega) O;have Q:=X (k-1) (by omega) (by omega);obtain⟨V,Z⟩:=qn.1 gk;obtain⟨q1,q2⟩:=qn.1 Q;refine Seq.ea (f:=bI) (g:=bI) F k rfl V (l.getD (i+k) jn) (by rw[Z]) ?_;refine Seq.ea (f:=bI) (g:=bI) F (k-1) rfl q1 (l.getD (i+(k-1)) jn) (by rw[q2]) (eS (by rfl) ?_);refine(KH _ _ h3).mono ?_;rintro _ h4 ⟨rfl,R4⟩;have L:=J.up R4.ag;have u:jF l (i+k)=!decide (kU (l.getD (i+k) jn) (l.getD (i+(k-1)) jn)=0):=by
     unfold jF;rw[decide_eq_false (show¬i+k=0 by omega),show i+k-1=i+(k-1)by omega];simp
    have b:=mG l (i+k);rw[u]at b;refine⟨_,rfl,trivial,be (fun K=>?_) (fun K=>?_)⟩
    ·rw[K]at b;have a:(jG l (i+(k+1))).length=c+1:=by rw[<-yy,b];simp[U]
     have w:=(L.seq 0 rfl fun _=>rfl).drop i E;refine Seq.ea (f:=bI) (g:=bI) w k rfl V (l.getD (i+k) jn) (by rw[Z]) ?_;refine L.set ac 0 rfl (fun _=>rfl) rfl c rfl (by omega) (l.getD (i+k) jn) rfl rfl rfl fun h5 H5=>?_;refine⟨(k+1,D.set c (l.getD (i+k) jn)),?_,⟨by dsimp only;omega,by dsimp only;omega,by dsimp only;rw[zr];exact G,by dsimp only;rw[a];omega,?_,fun j n=>?_,H5⟩,by dsimp only;omega⟩
     ·dsimp only;rw[a,aj _,aj _];rfl
     ·dsimp only;rw[a,aH _ c (by rw[zr];omega),List.getElem_set_self,List.take_set_of_le (ql _),d,<-yy,b];simp
     ·dsimp only at n⊢;rw[zY (by omega)];exact p j (by omega)
    ·rw[K]at b;have a:(jG l (i+(k+1))).length=c:=by rw[<-yy,b];simp[U]
     refine⟨(k+1,D),?_,⟨by dsimp only;omega,by dsimp only;omega,G,by dsimp only;rw[a];omega,?_,fun j n=>p j (by dsimp only at n;omega),L⟩,by dsimp only;omega⟩
     ·dsimp only;rw[a,aj _];rfl
     ·dsimp only;rw[a,d,<-yy,b];simp
   ·have S:i+k=l.length:=by omega
    refine⟨⟨by omega,by omega⟩,?_⟩;rw[qp];refine J.rR ac 0 rfl aeP (fun _=>rfl) rfl (by decide) c (by omega) fun h6 Y=>⟨⟨by omega,by omega⟩,⟨s.ptr,c,s.cap⟩,rfl,?_⟩
    rw[d,S]at Y;exact Y
  ·refine⟨i+1,by rw[aj _];rfl,⟨by omega,by omega,fun j n=>?_,W⟩,by omega⟩;by_cases N:j=i
   ·subst N;unfold jF;rw[decide_eq_true (show kU (l.getD j jn) (l.getD (j-1) jn)≠0 by simpa using e2)];simp
   ·exact z j (by omega)
 ·have M:i=l.length:=by
   have e':¬(i:Int)<(s.len:Int):=R;omega
  subst M;rw[m z];exact⟨s,rfl,I⟩
end
def fieldsOf(d:Option TypeDesc):List (Bool×TypeId×Nat):=match d with|some (.struct fs)=>fs.toList.map (fun f=>(f.name== "_",f.type,f.offset))|_=>[]
theorem YA:fieldsOf (Tryz.prog.underlying 25)=[(false,3,0),(false,3,1),(false,3,2)]:=by kernel_rfl
theorem aaW:Tryz.prog.stoodInHeld 25=false:=by kernel_rfl
theorem aaX:Tryz.prog.eqGuardType Tryz.prog.depth 25=false:=by kernel_rfl
theorem Ra{P:Program}{t:TypeId}{a b c:TypeId×Nat}(h:fieldsOf (P.underlying t)=[(false,a.1,a.2),(false,b.1,b.2),(false,c.1,c.2)]):
  ∃f g e:Field,P.underlying t=some (.struct #[f,g,e])/\(f.name≠ "_" /\f.type=a.1/\f.offset=a.2)/\(g.name≠ "_" /\g.type=b.1/\g.offset=b.2)/\(e.name≠ "_" /\e.type=c.1/\e.offset=c.2):=by
 cases hu:P.underlying t with
 |none=>rw[hu]at h;cases h
 |some d=>
  rw[hu]at h;cases d with
  |struct fs=>
   simp only[fieldsOf]at h;obtain⟨l⟩:=fs;have i:l.length=3:=by simpa using congrArg vT h
   obtain⟨f,r,rfl⟩:=yu i;obtain⟨g,j,rfl⟩:=yu (by simpa using i:r.length=1+1);obtain⟨e,k,rfl⟩:=yu (by simpa using i:j.length=0+1);obtain rfl:k=[]:=by simpa using i
   simp at h;exact⟨f,g,e,rfl,⟨h.1.1,h.1.2.1,h.1.2.2⟩,⟨h.2.1.1,h.2.1.2.1,h.2.1.2.2⟩,⟨h.2.2.1,h.2.2.2.1,h.2.2.2.2⟩⟩
  |_=>cases h
theorem iG{P:Program}{d:Nat}{t:TypeId}{k:IntKind}(h:∃c,P.underlying t=some (.int c))(a b:Int):aJ P (Op.equalIn (d+1) t (.int k a) (.int k b)) (a==b):=by
 obtain⟨c,h⟩:=h;unfold Op.equalIn;refine(aI h).bind ?_;simp only[if_true];exact .pure
theorem ly{P:Program}{t:TypeId}{k:IntKind}(h:P.underlying t=some (.int k)){a:Array Value}{i:Nat}{v:Value}(b:a[i]?=some v):aJ P (part t a i) v:=by
 unfold part isAgg;refine aJ.bind (v:=false) ((aI h).bind .pure) ?_;simp only[zf,if_false,b];exact .pure
theorem afJ(p q:Pm):aJ xv (Op.equal 25 (xp #[xk xq p.1,xk xq p.2.1,xk xq p.2.2]) (xp #[xk xq q.1,xk xq q.2.1,xk xq q.2.2])) (decide (p=q)):=by
 obtain⟨f,g,u,H,⟨z,A,I⟩,⟨G,y,D⟩,⟨B,F,u3⟩⟩:=Ra (a:=(3,0)) (b:=(3,1)) (c:=(3,2)) YA;have E:∃k,Tryz.prog.underlying 3=some (.int k):=⟨.i64,by kernel_rfl⟩
 obtain⟨k,d⟩:=E;unfold Op.equal;rw[show Op.maxDepth=9998+1+1 from rfl,Op.equalIn];refine(aI H).bind ?_;refine aJ.bind (v:=xv) (fun w=>rfl) ?_;simp only[aaW,zf,if_false,List.forIn_toArray,List.forIn_cons,List.forIn_nil,ne_eq,z,G,B,not_false_eq_true,if_true,A,I,y,D,F,u3];obtain⟨a,b,c⟩:=p;obtain⟨h,i,j⟩:=q;dsimp only;have n:aJ xv (part 3 #[Value.int xq a,Value.int xq b,Value.int xq c] 0) _:=ly d rfl;have o:aJ xv (part 3 #[Value.int xq h,Value.int xq i,Value.int xq j] 0) _:=ly d rfl;have s:aJ xv (part 3 #[Value.int xq a,Value.int xq b,Value.int xq c] 1) _:=ly d rfl;have r:aJ xv (part 3 #[Value.int xq h,Value.int xq i,Value.int xq j] 1) _:=ly d rfl;have x:aJ xv (part 3 #[Value.int xq a,Value.int xq b,Value.int xq c] 2) _:=ly d rfl;have t:aJ xv (part 3 #[Value.int xq h,Value.int xq i,Value.int xq j] 2) _:=ly d rfl;by_cases l:a=h
 ·by_cases m:b=i
  ·by_cases h3:c=j
   ·have e:decide ((a,b,c)=(h,i,j))=true:=by simp[l,m,h3]
    rw[e];refine aJ.bind (v:=(none,())) (aJ.bind (v:=ForInStep.yield (none,())) (n.bind (o.bind ((iG ⟨k,d⟩ a h).bind ?_))) (aJ.bind (v:=ForInStep.yield (none,())) (s.bind (r.bind ((iG ⟨k,d⟩ b i).bind ?_))) (aJ.bind (v:=ForInStep.yield (none,())) (x.bind (t.bind ((iG ⟨k,d⟩ c j).bind ?_))) .pure))) .pure
    ·simp only[l,beq_self_eq_true,yd,zf,if_false];exact .pure
    ·simp only[m,beq_self_eq_true,yd,zf,if_false];exact .pure
    ·simp only[h3,beq_self_eq_true,yd,zf,if_false];exact .pure
   ·have e:decide ((a,b,c)=(h,i,j))=false:=by simp[h3]
    rw[e];refine aJ.bind (v:=(some false,())) (aJ.bind (v:=ForInStep.yield (none,())) (n.bind (o.bind ((iG ⟨k,d⟩ a h).bind ?_))) (aJ.bind (v:=ForInStep.yield (none,())) (s.bind (r.bind ((iG ⟨k,d⟩ b i).bind ?_))) (aJ.bind (v:=ForInStep.done (some false,())) (x.bind (t.bind ((iG ⟨k,d⟩ c j).bind ?_))) .pure))) .pure
    ·simp only[l,beq_self_eq_true,yd,zf,if_false];exact .pure
    ·simp only[m,beq_self_eq_true,yd,zf,if_false];exact .pure
    ·rw[show(c==j)=false by simpa using h3];simp only[w4,if_true];exact .pure
  ·have e:decide ((a,b,c)=(h,i,j))=false:=by simp[m]
   rw[e];refine aJ.bind (v:=(some false,())) (aJ.bind (v:=ForInStep.yield (none,())) (n.bind (o.bind ((iG ⟨k,d⟩ a h).bind ?_))) (aJ.bind (v:=ForInStep.done (some false,())) (s.bind (r.bind ((iG ⟨k,d⟩ b i).bind ?_))) .pure)) .pure
   ·simp only[l,beq_self_eq_true,yd,zf,if_false];exact .pure
   ·rw[show(b==i)=false by simpa using m];simp only[w4,if_true];exact .pure
 ·have e:decide ((a,b,c)=(h,i,j))=false:=by simp[l]
  rw[e];refine aJ.bind (v:=(some false,())) (aJ.bind (v:=ForInStep.done (some false,())) (n.bind (o.bind ((iG ⟨k,d⟩ a h).bind ?_))) .pure) .pure;rw[show(a==h)=false by simpa using l];simp only[w4,if_true];exact .pure
theorem aeS(x y:Operand)(p q:Pm):jy xv .neq 25 x y (xp #[xk xq p.1,xk xq p.2.1,xk xq p.2.2]) (xp #[xk xq q.1,xk xq q.2.1,xk xq q.2.2]) (xo (!decide (p=q))):=by
 unfold jy eqGuard;refine aJ.bind (v:=()) ?_ ?_
 ·simp only[yd,zf,if_false];refine aJ.bind (v:=xv) (fun w=>rfl) ?_;refine aJ.bind (v:=xv) (fun w=>rfl) ?_;simp only[aaX,w4,if_true];exact .pure
 ·exact(afJ p q).bind .pure
end Go.Qw
namespace Wl
def Wc(P:cm->Bool)(l:List cm)(i:Int):Prop:=(i=-1/\l.any P=false)∨∃n:Nat,∃h:n<l.length,i=n/\P l[n]=true/\(l.take n).any P=false
theorem Rb{P:cm->Bool}{l:List cm}{i:Int}(h:Wc P l i):decide (i>=0)=l.any P:=by
 rcases h with⟨rfl,h⟩|⟨n,hn,rfl,h,_⟩
 ·rw[h];rfl
 ·rw[yb.2 ⟨_,qh hn,h⟩];exact decide_eq_true (by omega)
end Wl
namespace Go.Qw
open Go Go.Vc Go.Proofs Wl
theorem If(f:FuncId)(pre post:Array Value)(P:Wl.cm->Bool)(l:Sl)(a:List Wl.cm)(h:Heap)(y:C.fns[f]?=some true)(m:fg uu h l a)(D:a.length<=2^30)
  (w:∀(u:eC) (E:Wl.cm) (h':Heap),Sp h h' []->fg nw h' u E->E∈a->ab xv f (pre.toList++[Value.agg #[xn u.1,xk xq u.2.1,xk xq u.2.2.1,u.2.2.2]]++post.toList).toArray h' fun v j=>v=xo (P E)/\Sp h' j []):
  ab xv 232 #[l,.func (.func f) pre post] h fun v h'=>(∃i:Int,v=xk xq i/\Wc P a i)/\Sp h h' []:=by
 refine gj l (f,pre,post) ?_;unfold eO;obtain⟨e,z,B,x⟩:=cg.nC m;have t:=cg.len m;refine au (fun i:Nat=>(i:Int)) (fun i h'=>i<=a.length/\(a.take i).any P=false/\Sp h h' []) (fun i=>a.length-i) 0 rfl ⟨by omega,by simp,Sp.refl h⟩ ?_;rintro i n ⟨A,b,d⟩;refine ai (fun k=>?_) (fun k=>?_)
 ·have c:i<a.length:=by
   have s:(i:Int)<(l.len:Int):=k;omega
  have r:fg nw n (e[i]'(by omega)) a[i]:=nw.mono (nw.loc (x i (by omega) c) d.ag) fun _ p=>qL p d.ag.1;refine(Seq.up z d.ag).ea (g:=cl) i rfl (by omega) (e[i]'(by omega)) rfl (eS y ?_);refine(w (e[i]'(by omega)) a[i] n d r (qh c)).mono ?_;rintro _ F ⟨rfl,q⟩;have o:=d.up q.ag;refine⟨_,rfl,bF (fun e2=>⟨⟨i,rfl,.inr ⟨i,c,rfl,e2,b⟩⟩,o⟩) (fun e2=>?_)⟩;refine⟨i+1,by rw[aj _];rfl,⟨by omega,?_,o⟩,by omega⟩;rw[aH _ _ c,y7,b,List.any_cons,List.any_nil,e2];rfl
 ·have s:¬(i:Int)<(l.len:Int):=k;rw[qi (by omega)]at b;exact⟨⟨-1,rfl,.inl ⟨rfl,b⟩⟩,d⟩
theorem Mm(f:FuncId)(pre post:Array Value)(P:Wl.cm->Bool)(l:Sl)(a:List Wl.cm)(h:Heap)(k:C.fns[f]?=some true)(c:fg uu h l a)(e:a.length<=2^30)
  (g:∀(u:eC) (E:Wl.cm) (h':Heap),Sp h h' []->fg nw h' u E->E∈a->ab xv f (pre.toList++[Value.agg #[xn u.1,xk xq u.2.1,xk xq u.2.2.1,u.2.2.2]]++post.toList).toArray h' fun v b=>v=xo (P E)/\Sp h' b []):
  ab xv 258 #[l,.func (.func f) pre post] h fun v h'=>v=xo (a.any P)/\Sp h h' []:=by
 refine fR l (f,pre,post) ?_;unfold dV;refine(If f pre post P l a h k c e g).mono ?_;rintro _ m ⟨⟨i,rfl,d⟩,j⟩;exact⟨i,rfl,by rw[Rb d],j⟩
theorem uf(o b t:Int)(h:Heap):ab xv 160 #[xk xq o,xk xq b,xk xq t] h fun v h'=>v=xk xt (cE o b t)/\h'=h:=by
 refine Oy o b t ?_;unfold HV;refine⟨?_,rfl⟩;have:qc xt ((qc xt ((qc xt ((128:Int)*(qc xt o)))+(qc xt ((16:Int)*(qc xt b)))))+(qc xt t))=cE o b t:=by
  unfold cE qc;simp[qk,yC];omega
 rw[this]
theorem Tk(x:cy)(m:aD)(y:bw)(r:cV)(h:Heap)(q:gn h x m)(hz:dM m)(N:fg eJ h y r):
  ab xv 239 #[gm x,recv y] h fun v h'=>v=xo (dv m r)/\Sp h h' []:=by
 refine Kx x y ?_;unfold Ei;refine(Sp.refl h).boxed fun K h1 H1=>H1.boxed fun d O j=>?_;have j:Sp h O [ar K 136 (bh x),ar d 233 (bI y)]:=j;obtain⟨⟨e1,e2,e3,s,X,e7,e8⟩,e6⟩:=id N;have H:x.2.2.1=m.p.1:=congrArg (·.1) q.p;have G:x.2.2.2.1=m.p.2.1:=congrArg (·.2.1) q.p;have t:x.2.2.2.2.1=m.p.2.2:=congrArg (·.2.2) q.p;have D:y.2.2.2.1=r.p.1:=congrArg (·.1) s;have z:y.2.2.2.2.1=r.p.2.1:=congrArg (·.2.1) s;have w:y.2.2.2.2.2.1=r.p.2.2:=congrArg (·.2.2) s;have Z:=hz.ob;refine aT ⟨y,(j.box 1 rfl).aF _ rfl,(Ic y r O (eJ.mono (eJ.loc N j.ag) fun _ V=>qL V j.ag.1)).mono ?_⟩;rintro _ h3 ⟨rfl,R3⟩;have i:Sp h h3 [ar K 136 (bh x),ar d 233 (bI y)]:=j.up R3.ag;have M:=i.box 0 rfl;have B:=i.box 1 rfl;refine⟨_,rfl,be (fun g=>⟨by unfold dv;rw[g];rfl,.zip i.ag⟩) fun g=>?_⟩;obtain⟨_,g2,_⟩:=(jO r).1 g;refine⟨r.p,by rw[<-D,<-z,<-w];exact B.Ho 3 rfl rfl rfl,m.p,by rw[<-H,<-G,<-t];exact M.Ho 2 rfl rfl rfl,_,aeS _ _ r.p m.p,be (fun A=>⟨?_,.zip i.ag⟩) fun A=>?_⟩
 ·unfold dv;rw[g,A];rfl
 obtain⟨P,S⟩:∃P:Wl.cm->Bool,P=fun x=>decide (x.object=r.object)&&(decide (r.block<(x.tries.length:Int))&&decide (r.seed=cE r.object r.block (x.tries.getD r.block.toNat 0))):=⟨_,rfl⟩
 have F:dv m r=m.aL.any P:=by unfold dv;rw[g,A,S];rfl
 refine⟨x.2.2.2.2.2.2.2,M.cell rfl,?_⟩;refine(Mm 297 #[] #[xm (some d)] P x.2.2.2.2.2.2.2 m.aL h3 (by rfl) (q.up i.ag).aL (by omega) fun u E T Y he _=>?_).mono ?_
 ·obtain⟨⟨y1,y2,y3⟩,L⟩:=he;have U:=Seq.len L;have n:=B.ag Y.ag B.lt;refine Hy u d ?_;unfold Ay;refine(Sp.refl T).boxed fun a5 b a=>?_;have a:Sp T b [ar a5 170 (cl u)]:=a;have J:=a.box 0 rfl;have c:=n.ag a.ag n.lt;have o:cellOf b (a5.add 1)=some (xk xq E.object):=by rw[<-y2];exact J.cell rfl
  have k:cellOf b (a5.add 3)=some (xl u.2.2.2.ptr u.2.2.2.len u.2.2.2.cap):=J.cell rfl;have l:cellOf b d=some (xk xq r.object):=by rw[<-e1];exact c.cell0 rfl
  have e:cellOf b (d.add 1)=some (xk xq r.block):=by rw[<-e2];exact c.cell rfl
  have Q:cellOf b (d.add 6)=some (xk xt r.seed):=by rw[<-X];exact c.cell rfl
  rw[S];refine⟨E.object,o,r.object,l,cz (fun I=>?_) fun I=>⟨⟨l,o,trivial⟩,?_,.zip a.ag⟩⟩
  ·refine⟨u.2.2.2,k,r.block,e,ai (fun q2=>?_) fun q2=>⟨⟨e,k,l,o,trivial⟩,?_,.zip a.ag⟩⟩
   ·have R:r.block.toNat<E.tries.length:=by omega
    refine⟨r.seed,Q,r.object,l,r.block,e,u.2.2.2,k,r.block,e,?_⟩;refine Seq.bt (f:=aC) (Seq.up L a.ag) r.block.toNat (by omega) R (E.tries.getD r.block.toNat 0) (by rw[getD_lt R];rfl) ?_;refine(uf _ _ _ b).mono ?_;rintro _ _ ⟨rfl,rfl⟩;refine⟨_,rfl,⟨e,k,Q,e,k,l,o,trivial⟩,?_,.zip a.ag⟩;dsimp only;rw[decide_eq_true I,decide_eq_true (show r.block<(E.tries.length:Int)by omega),zU,zU];congr 1
   ·dsimp only;rw[decide_eq_false (show¬r.block<(E.tries.length:Int)by omega)];simp
  ·dsimp only;rw[decide_eq_false I];rfl
 ·rintro _ b ⟨rfl,W⟩;exact⟨_,rfl,by rw[F],.zip (aa.up i W.ag).ag⟩
section
variable {α:Type}
def nF(k:Nat)(f:α->aV):iO Sl (List α):=⟨fun h q s l=>Seq h q s k f l/\s.len<=s.cap,fun a b=>⟨a.1.ag b,a.2⟩,fun a c=>⟨a.1.mono c,a.2⟩⟩
theorem aa.acJ{B:aA}{m h:Heap}{As:List HP}{e b k:Nat}{s:Sl}{f:α->aV}{a:List (List α)}(H:aa B m h (lG e s b k f a::As))(o:∀x,(f x).length=k):∃rs,aa B m h (cS (nF k f) 1 bD s rs a::As):=by
 obtain⟨rs,H⟩:=H.CC;obtain⟨H,d⟩:=H.Ix;refine⟨rs,H.ga 0 rfl fun q g=>⟨?_,d,fun i r l n c=>?_⟩⟩
 ·have:=HP.Cc (i:=0) g rfl;exact this.1.seq (fun _=>rfl) this.2
 ·have j:i<a.length:=(qn.1 c).1;have p:=gU (e:=b) (k:=k) (f:=f) d i j;have:=HP.Cc (i:=i+1) g (by simpa using p);have t:rs[i]'(by omega)=r:=by rw[qd (by omega)]at n;simpa using n
  have b:a[i]=l:=by rw[qd j]at c;simpa using c
  rw[t,b]at this;exact⟨this.1.seq o this.2,this.1.cap⟩
end
def rD(T:List (bw×cV)):HP:=⟨fun h q=>∀t∈T,eJ.p h q t.1 t.2,fun a c t b=>eJ.loc (a t b) c,fun a d t b=>eJ.mono (a t b) d⟩
end Go.Qw
namespace Wl
open Go Go.Vc Go.Qw
def Keyed(T:List (bw×cV)):Prop:=∀t∈T,t.1.1=t.2.object/\t.1.2.1=t.2.block/\t.1.2.2.1=t.2.id
def NG(a b:bw×cV):Bool:=oa a.2 b.2
theorem aaY{T:List (bw×cV)}(k:Keyed T):∀a∈T,∀b∈T,NG a b=bX a.1 b.1:=fun a h b e=>by
 obtain⟨i,d,a3⟩:=k a h;obtain⟨f,c,g⟩:=k b e;unfold NG oa bX;rw[decide_eq_decide,Cb,i,d,a3,f,c,g]
theorem Wd{T:List (bw×cV)}(k:Keyed T):(T.mergeSort NG).map qK=(T.map qK).mergeSort bX/\(T.mergeSort NG).map zE=(T.map zE).mergeSort oa/\Keyed (T.mergeSort NG):=
 ⟨vy (aaY k),vy fun a _ b _=>rfl,fun t c=>k t (yB.1 c)⟩
def KI:bw×cV:=(jn,Ai)
def Dn(T:List (bw×cV)):List (bw×cV):=((qy T.length).filter (oV (T.map zE))).map fun i=>T.getD i KI
theorem getD_map{α β:Type}(f:α->β)(l:List α)(i:Nat)(d:α):(l.map f).getD i (f d)=f (l.getD i d):=by
 rw[qe,qe,qO];cases l[i]?<;>rfl
theorem YB{T:List (bw×cV)}(k:Keyed T):(Dn T).map qK=Yz (T.map qK)/\(Dn T).map zE=oW (T.map zE)/\∀t∈Dn T,t∈T:=by
 have q:∀i,i<T.length->jF (T.map qK) i=oV (T.map zE) i:=fun i a=>by
  unfold jF oV;have g:∀j,j<T.length->(T.map qK).getD j jn=(T[j]?.getD KI).1/\(T.map zE).getD j Ai=(T[j]?.getD KI).2:=fun j e=>by
   rw[qe,qe,qO,qO,qd e];exact⟨rfl,rfl⟩
  by_cases h0:i=0
  ·rw[decide_eq_true h0];rfl
  ·rw[decide_eq_false h0,vR,vR,(g i a).1,(g i a).2,(g (i-1) (by omega)).1,(g (i-1) (by omega)).2];rw[qd a,qd (show i-1<T.length by omega)];obtain⟨r,n,a3⟩:=k _ (qh a);obtain⟨f,m,l⟩:=k _ (qh (show i-1<T.length by omega));unfold kc;simp only[Option.getD_some];have c:=Yw T[i].1 (T[i-1]'(by omega)).1;rw[r,n,a3,f,m,l]at c;by_cases b:kU T[i].1 (T[i-1]'(by omega)).1=0
   ·rw[decide_eq_false (fun h=>h b),decide_eq_true (c.1 b)];rfl
   ·rw[decide_eq_true b,decide_eq_false (fun o=>b (c.2 o))];rfl
 have p:(qy T.length).filter (jF (T.map qK))=(qy T.length).filter (oV (T.map zE)):=List.filter_congr fun i a=>q i (qI.1 a);refine⟨?_,?_,fun t d=>?_⟩
 ·unfold Dn Yz jG;rw[qD,p,w5];congr 1;funext i;exact(getD_map qK T i KI).symm
 ·unfold Dn oW;rw[qD,w5];congr 1;funext i;exact(getD_map zE T i KI).symm
 ·unfold Dn at d;obtain⟨i,a,rfl⟩:=qC.1 d;have:=qI.1 (qJ.1 a).1;rw[getD_lt this];exact qh this
end Wl
namespace Go.Qw
open Go Go.Vc Go.Proofs Wl
theorem OF(a pw:Addr)(d:bv)(s b:Sl)(x:cy)(m:aD)(h:Heap)(H:bZ h a 208 (gB pw d s b))(hl:fo h s 1 az d.l)(ok:eM d)(hx:gn h x m)(hz:dM m):
  ab xv 165 #[xm (some a),gm x] h fun v h'=>∃(r:Sl) (T:List (bw×cV)),v=r/\T.map zE=jm m d.l/\Keyed T/\Sp h h' [co r (T.map qK),rD T]:=by
 refine IZ (some a) x ?_;unfold BP;have ad:=ok.len;have X:=ok.room;refine(Sp.refl h).boxed fun u h1 I=>?_;have I:Sp h h1 [ar u 136 (bh x)]:=I;refine(QQ s b (H.ag I.ag H.lt) (hl.up I.ag) ok).mono ?_;rintro _ h2 ⟨E,rfl,R2⟩;have L:=I.cX R2;obtain⟨rs,L⟩:=aa.acJ L fun _=>rfl;refine⟨E,rfl,?_⟩;have F2:=L.fF 0 rfl;have ap:=F2.1.len;have ay:=F2.2.1;have B:Sp h h2 [co ⟨none,0,0⟩ [],rD [],cS (nF 1 az) 1 bD E rs d.l,ar u 136 (bh x)]:=
  ((L.comp (.one (A:=rD []) (aR.refl _ _) (fun t f=>(by cases f)))).nil 233 8 bI).cj [3,2,0,1]
 refine au (fun t:Sl×Nat×List (bw×cV)=>(t.1,(t.2.1:Int)-1)) (fun t h'=>t.2.1<=d.l.length/\t.2.2.length<=t.2.1/\Keyed t.2.2/\t.2.2.map zE=(d.l.take t.2.1).filterMap (dP m)/\Sp h h' [co t.1 (t.2.2.map qK),rD t.2.2,cS (nF 1 az) 1 bD E rs d.l,ar u 136 (bh x)]) (fun t=>d.l.length-t.2.1) (⟨none,0,0⟩,0,[]) rfl ⟨by simp,by simp,(fun t f=>(by cases f)),by simp,B⟩ ?_;rintro⟨o,i,T⟩ h3 ⟨hi,ah,M,k,B⟩;dsimp only at*;have ei:qc xq ((i:Int)-1+1)=(i:Int):=by rw[aj _];omega
 rw[ei];refine ai (fun e=>?_) (fun e=>?_)
 ·have N:i=d.l.length:=by omega
  subst N;rw[qX]at k;refine(KG (T.map qK) (by rw[qD];omega) B).mono ?_;rintro _ h4 ⟨rfl,Z⟩;obtain⟨s1,s2,s3⟩:=Wd M;rw[<-s1]at Z;refine⟨(),rfl,(Jj _ (by rw[qD,List.length_mergeSort];omega) Z).mono ?_⟩;rintro _ h5 ⟨r5,rfl,H5⟩;obtain⟨c1,c2,c3⟩:=YB s3;rw[<-c1]at H5;refine⟨r5,rfl,r5,Dn (T.mergeSort NG),rfl,?_,fun t f=>s3 t (c3 t f),?_⟩
  ·have hr:jm m d.l=(Dn (T.mergeSort NG)).map zE:=by unfold jm;rw[<-k,c2,s2]
   exact hr.symm
  ·exact(H5.ga 1 rfl (D:=rD (Dn (T.mergeSort NG))) fun q z t f=>z t (yB.1 (c3 t f))).cj [0,1]
 ·have F:i<d.l.length:=by omega
  have g:=Vr m d.l i F;have next:∀{h':Heap} {G:Sl} {T':List (bw×cV)},T'.length<=i+1->Keyed T'->T'.map zE=(d.l.take (i+1)).filterMap (dP m)->Sp h h' [co G (T'.map qK),rD T',cS (nF 1 az) 1 bD E rs d.l,ar u 136 (bh x)]->
    ∃j:Sl×Nat×List (bw×cV),((⟨G.ptr,G.len,G.cap⟩:Sl),(i:Int))=(j.1,(j.2.1:Int)-1)/\(j.2.1<=d.l.length/\j.2.2.length<=j.2.1/\Keyed j.2.2/\j.2.2.map zE=(d.l.take j.2.1).filterMap (dP m)/\Sp h h' [co j.1 (j.2.2.map qK),rD j.2.2,cS (nF 1 az) 1 bD E rs d.l,ar u 136 (bh x)])/\d.l.length-j.2.1<d.l.length-i:=fun{h' G T'} q1 q2 q3 q4=>
   ⟨(G,i+1,T'),by dsimp only;congr 1;omega,⟨by dsimp only;omega,q1,q2,q3,q4⟩,by dsimp only;omega⟩
  refine aT ?_;refine(B.fF 2 rfl).1.nM i rfl (by omega) ?_;obtain⟨p,Q⟩:=Fix.row (B.fF 2 rfl) F;obtain⟨c,hc⟩:∃c,c=d.l[i]:=⟨_,rfl⟩
  rw[<-hc]at p g;have am:c.length=64:=by rw[hc];exact ok.cell _ (qh F)
  refine(QW (rs[i]'(by omega)) c h3 p (by omega) Q).mono ?_;rintro _ h6 ⟨y,rfl,Q0,Q1⟩;refine⟨(y,(cP c).isSome),rfl,?_⟩;dsimp only;cases htr:cP c with
  |none=>
   have J:dP m c=none:=by unfold dP;rw[htr]
   rw[J,Option.toList_none,qU]at g;have V:=B.up (Q0 htr).ag;refine V.alloc ac rfl fun a9 h7 U=>?_;refine U.storeAll ac 4 rfl rfl (bI y) rfl rfl rfl rfl fun h8 n=>bF (fun e=>by cases e) fun _=>?_;exact next (by omega) M (by rw[k,g]) (n.cj [0,1,2,3])
  |some r=>
   have V:=B.cX (Q1 r htr);refine V.alloc ac rfl fun a9 h7 U=>?_;refine U.storeAll ac 5 rfl rfl (bI y) rfl rfl rfl rfl fun h8 n=>bF (fun _=>?_) fun e=>by cases e
   have n:Sp h h8 [EA eJ y r,co o (T.map qK),rD T,cS (nF 1 az) 1 bD E rs d.l,ar u 136 (bh x),ar a9 233 (bI y)]:=n;have S:=n.eAt 0 rfl;have W:al h8 u 0 (bh x):=(n.box 4 rfl).aF _ rfl;have P:al h8 a9 0 (bI y):=(n.box 5 rfl).aF _ rfl;have R:=Tk x m y r h8 (hx.up n.ag) hz S;refine⟨x,W,y,P,R.mono ?_⟩;rintro _ h9 ⟨rfl,R9⟩;have Y:Sp h h9 [EA eJ y r,co o (T.map qK),rD T,cS (nF 1 az) 1 bD E rs d.l,ar u 136 (bh x),ar a9 233 (bI y)]:=n.up R9.ag;refine⟨_,rfl,bF (fun e2=>?_) (fun e2=>?_)⟩
   ·have J:dP m c=some r:=by unfold dP;rw[htr];exact if_pos e2
    rw[J,Option.toList_some]at g;refine⟨y,(Y.box 5 rfl).aF _ rfl,?_⟩;refine Y.push ac 1 rfl aeP rfl (by decide) (fun _=>rfl) adw y (by kernel_rfl) (by decide) (by rw[qD];omega) fun G ax K=>?_;have w:=(K.eAt 0 rfl).1;have O:=K.merge 2 0 (by decide) rfl rfl (D:=rD (T++[(y,r)])) (fun q1 q2 _ p1 p2 t f=>by
     rcases qF.1 f with f|f
     ·exact eJ.mono (p1 t f) fun _ H=>.inl H
     ·rw[qG.1 f];exact eJ.mono p2 fun _ H=>.inr H)
    refine next (T':=T++[(y,r)]) (by simp;omega) (fun t f=>?_) (by rw[qW,k,g];rfl) ?_
    ·rcases qF.1 f with f|f
     ·exact M t f
     ·rw[qG.1 f];exact⟨w.1,w.2.1,w.2.2.1⟩
    ·rw[qW];exact O.cj [1,2,3,4]
   ·have J:dP m c=none:=by unfold dP;rw[htr];exact if_neg (by rw[e2];simp)
    rw[J,Option.toList_none,qU]at g;exact next (by omega) M (by rw[k,g]) (Y.cj [1,2,3,4])
theorem Gi(a pw:Addr)(d:bv)(s b:Sl)(x:cy)(m:aD)(h:Heap)(n:bZ h a 208 (gB pw d s b))(k:fo h s 1 az d.l)(ok:eM d)(u:gn h x m)(z:dM m):
  ab xv 165 #[xm (some a),gm x] h fun v h'=>∃(r:Sl) (o:List bw),v=r/\Sp h h' [cS eJ 8 bI r o (jm m d.l)]:=by
 refine(OF a pw d s b x m h n k ok u z).mono ?_;rintro _ h' ⟨r,T,rfl,w,_,H⟩;refine⟨r,T.map qK,rfl,?_⟩;have g:=(H.freeze 0 rfl fun _=>rfl).oO;have i:aa _ _ _ (cS eJ 8 bI r (T.map qK) (jm m d.l)::_):=g.ga 0 rfl fun q ⟨E,D,_,b,c,p,y⟩=>by
  rw[<-w];refine⟨Seq.mono y c,by simp,fun j B A e f=>?_⟩;rw[qO]at e f;cases g3:T[j]? with
  |none=>rw[g3]at e;cases e
  |some t=>
   rw[g3]at e f;simp at e f;subst e;subst f;exact eJ.mono (p t (yn g3)) b
 exact i.cj [0]
end Go.Qw
namespace Go.Vc
open Go Wl
def bi(l:aB)(k:Nat):aB:=((qy k).map fun i:Nat=>(i:Int)).filter fun i=>decide (0<l.getD i.toNat 0)
def fy(l:aB):aB×Bool:=
 if l.all (fh · 0 512)then(bi l l.length,decide (l.length<=64)&&decide (0<(bi l l.length).length))else([],false)
theorem Eo(l:aB)(k:Nat)(a:k<l.length):bi l (k+1)=bi l k++if 0<l[k]then[(k:Int)]else[]:=by
 unfold bi;rw[zt,qW,zg];congr 1;simp only[List.map_cons,List.map_nil,zo,y6,qp,qe,qd a,Option.getD_some];by_cases h:0<l[k]<;>simp[h]
theorem ww(l:aB)(k:Nat):(bi l k).length<=k:=by
 unfold bi;exact zk (zc _ _) (by simp)
end Go.Vc
namespace Go.Qw
open Go Go.Vc Go.Proofs Wl
section
theorem mV(s:Sl)(l:aB)(h:Heap)(m:Rd h s 1 aC l)(B:l.length<=2^20):
  ab xv 79 #[s] h fun v h'=>∃r:Sl,v=.tuple #[r,xo (fy l).2]/\Sp h h' [an 3 r 1 aC (fy l).1]:=by
 refine IW s ?_;unfold BG;have y:=m.len;have q:Sp h h [an 3 ⟨none,0,0⟩ 1 aC (bi l 0)]:=(Sp.refl h).nil 3 1 aC;refine au (fun t:Sl×Nat=>(t.1,(t.2:Int))) (fun t h'=>t.2<=l.length/\(l.take t.2).all (fh · 0 512)=true/\Sp h h' [an 3 t.1 1 aC (bi l t.2)]) (fun t=>l.length-t.2) (⟨none,0,0⟩,0) rfl ⟨by simp,by simp,q⟩ ?_;rintro⟨o,i⟩ E ⟨D,c,d⟩;dsimp only at*;have f:∀(a:i<l.length),fh l[i] 0 512=false->fy l=([],false):=fun a g=>by
  unfold fy;rw[if_neg];intro x;have:=qN.1 x _ (qh a);rw[g]at this;cases this
 refine ai (fun e=>?_) (fun e=>?_)
 ·have a:i<l.length:=by omega
  have p:=ww l i;refine(Seq.up m d.ag).bt i rfl a l[i] rfl ?_;refine aT (ai (fun k=>?_) (fun k=>ai (fun e2=>?_) (fun e2=>?_)))
  ·have g:=f a (by unfold fh;simp;omega);rw[g];exact⟨⟨none,0,0⟩,rfl,(d.cj []).nil 3 1 aC⟩
  ·have g:=f a (by unfold fh;simp;omega);rw[g];exact⟨⟨none,0,0⟩,rfl,(d.cj []).nil 3 1 aC⟩
  ·have b:(l.take (i+1)).all (fh · 0 512)=true:=by
    rw[aH l i a,yL,c,zU,List.all_cons,List.all_nil,Bool.and_true];unfold fh;simp;omega
   refine ai (fun w=>?_) (fun w=>?_)
   ·refine d.push ac 0 rfl lE rfl (by decide) (fun _=>rfl) gJ (i:Int) rfl (by decide) (by omega) fun A F n=>?_;refine⟨(A,i+1),by dsimp only;rw[aj _];rfl,⟨by dsimp only;omega,b,?_⟩,by dsimp only;omega⟩;dsimp only;rw[Eo l i a,if_pos (by omega)];exact n
   ·refine⟨(o,i+1),by dsimp only;rw[aj _];rfl,⟨by dsimp only;omega,b,?_⟩,by dsimp only;omega⟩;dsimp only;rw[Eo l i a,if_neg (by omega),qU];exact d
 ·have j:i=l.length:=by omega
  subst j;rw[qX]at c;have u:=(d.own 0 rfl).len;have z:fy l=(bi l l.length,decide (l.length<=64)&&decide (0<(bi l l.length).length)):=by unfold fy;rw[if_pos c]
  rw[z];refine ai (fun k=>⟨o,?_,d⟩) (fun k=>⟨o,?_,d⟩)
  ·dsimp only;rw[decide_eq_true (show l.length<=64 by omega),zU];congr 4;refine congrArg Value.bool ?_;rw[decide_eq_decide];omega
  ·dsimp only;rw[decide_eq_false (show¬l.length<=64 by omega),Bool.false_and]
end
section
variable {B:aA} {h0 h:Heap} {As:List HP} {a pw:Addr} {offs:Int} {da:List aP} {w:Pow} {ds:aX}
theorem gO(x:cy)(m:aD)(b:gn h x m)(c:dM m)(H:aa B h0 h (bx bS a pw (bh x) offs da w ds::As)):
  ab xv 102 #[xm (some a)] h fun v h'=>∃r:Sl,v=r/\Sp h h' [an 3 r 1 aC (bg ds m.drives)]:=by
 refine Dc (some a) ?_;unfold se;obtain⟨ok,d⟩:=aa.dj H;have f:=c.dr;refine bF (fun e=>by cases e) (fun _=>⟨a,rfl,x.2.2.2.2.2.2.1,d.cell rfl,(VZ _ m.drives b.drives (by omega) H).mono ?_⟩);rintro _ i ⟨r,rfl,g⟩;exact⟨r,rfl,r,rfl,g⟩
end
end Go.Qw
namespace Go.Vc
open Go Wl
def fO(w:Pow)(offs:Int):Bool:=w.off||w.offs !=offs
end Go.Vc
namespace Go.Qw
open Go Go.Vc Go.Proofs Wl
section
variable {B:aA} {h0 h:Heap} {As:List HP} {a pw:Addr} {mc:aV} {offs:Int} {da:List aP} {w:Pow} {ds:aX}
theorem aa.ady(H:aa B h0 h (bx bS a pw mc offs da w ds::As)):∃l,KD w l/\bZ h pw 131 (powC w l):=by
 obtain⟨ok,c⟩:=Go.Vc.aa.wt H;have d:=c.rest;obtain⟨l,b,e⟩:=aa.BZ d;exact⟨l,b,e.box 0 rfl⟩
theorem Mn(H:aa B h0 h (bx bS a pw mc offs da w ds::As)):
  ab xv 90 #[xm (some a)] h fun v h'=>v=xo (fO w offs)/\h'=h:=by
 refine Db (some a) ?_;unfold sa;obtain⟨ok,c⟩:=aa.dj H;obtain⟨l,i,g⟩:=aa.ady H;have f:cellOf h (a.add 8)=some (xm (some pw)):=c.cell (aaU ok.l8);have d:cellOf h (a.add 9)=some (xk xq offs):=c.cell (VY ok.l8);refine bF (fun _=>?_) (fun e=>by cases e);refine⟨a,rfl,some pw,f,(Hm l g).mono ?_⟩;rintro _ _ ⟨rfl,rfl⟩;refine⟨_,rfl,trivial,be (fun e=>⟨trivial,?_⟩) fun e=>?_⟩
 ·have b:w.off=true:=by simpa using e
  exact⟨by unfold fO;rw[b];rfl,rfl⟩
 ·have b:w.off=false:=by simpa using e
  refine⟨a,rfl,some pw,f,a,rfl,offs,d,(NB l g).mono ?_⟩;rintro _ _ ⟨rfl,rfl⟩;exact⟨_,rfl,⟨d,trivial⟩,by unfold fO;rw[b];rfl,rfl⟩
end
end Go.Qw
namespace Go.Vc
open Go Wl
section
variable {k:Kit} {B:aA} {h0 h:Heap} {As:List HP} {a pw:Addr} {mc:aV} {offs:Int} {w:Pow}
theorem aa.aeT(H:aa B h0 h As):∀n,aa B h0 h (qg n emp++As)
 |0=>H
 |n+1=>(((aa.aeT H n).comp (.one (A:=emp) (aR.refl _ _) trivial)).bH:aa B h0 h (emp::(qg n emp++As)))
theorem aa.YC(h8:mc.length=8)(H:aa B h0 h (ar a k.tS (dD mc pw offs (qg 64 none))::ez k.tP pw w::As)):aa B h0 h (bx k a pw mc offs (qg 64 none) w (qg 64 none)::As):=by
 have ok:gG mc (qg 64 none) (qg 64 (none:Option bv)):=⟨h8,by simp,by simp,fun i=>by
  simp only[qe,zT];split<;>rfl⟩
 have g:iF k pw (qg 64 none) (qg 64 (none:Option bv))=qg 64 emp:=by
  simp[iF,aeR]
 refine aa.Az ok ?_;rw[g];have e:=aa.aeT H 64;refine e.pick (fun i=>if i=0 then 64 else if i=1 then 65 else if i<66 then i-2 else i) (fun x y b=>by(try dsimp only at b);split at b<;>split at b<;>(try split at b)<;>(try split at b)<;>(try split at b)<;>(try split at b)<;>omega) fun i A d=>?_;rcases i with _|_|i
 ·simpa using d
 ·simpa using d
 ·by_cases f:i<64
  ·have c:(qg 64 emp++As)[i]?=some A:=d;rw[qm (by simpa using f)]at c
   try dsimp only
   rw[if_neg (by omega),if_neg (by omega),if_pos (by omega),qm (by simp;omega)];simpa using c
  ·have c:(qg 64 emp++As)[i]?=some A:=d;rw[qj (by simp;omega)]at c
   try dsimp only
   rw[if_neg (by omega),if_neg (by omega),if_neg (by omega),qj (by simp;omega)];simp only[List.length_replicate]at c⊢;obtain⟨j,rfl⟩:∃j,i=j+64:=⟨i-64,by omega⟩
   have e2:j+64+1+1-64=j+1+1:=by omega
   rw[e2];simpa using c
end
end Go.Vc
namespace Go.Qw
open Go Go.Vc Go.Proofs Wl
section
theorem YD(x:cy)(pw:Addr)(offs:Int):aJ xv (Instr.build 138 #[(0,gm x),(1,xm (some pw)),(2,xk xq offs)]) (xp (dD (bh x) pw offs (qg 64 none)).toArray):=
 uB ac (i:=_) rfl rfl rfl (vs:=[(0,gm x),(1,xm (some pw)),(2,xk xq offs)]) (cells:=(dD (bh x) pw offs (qg 64 none)).toArray) (by kernel_rfl)
end
end Go.Qw
namespace Go.Vc
open Go Wl
section
variable {k:Kit} {B:aA} {h0 h:Heap} {As:List HP} {a pw b:Addr} {mc:aV} {offs:Int} {da:List aP} {w:Pow} {ds:aX} {d:bv} {n:Nat}
theorem YE(h8:mc.length=8):(dD mc pw offs da).set (10+n) (xm (some b))=dD mc pw offs (da.set n (some b)):=by
 unfold dD;rw[q7 _ _ (by omega),h8,show 10+n-8=n+1+1 by omega,wM,wM,List.map_set]
theorem aa.adz(ok:gG mc da ds)(G:n<64)(x:ds[n]?=some none)(H:aa B h0 h (ar a k.tS (dD mc pw offs (da.set n (some b)))::ez k.tP pw w::(iF k pw da ds++(kT k.tD (k.f pw) b d::As)))):aa B h0 h (bx k a pw mc offs (da.set n (some b)) w (ds.set n (some d))::As):=by
 have q:=ok.Yx G x;have m:=ok.la;have t:=ok.ls;have o:gG mc (da.set n (some b)) (ds.set n (some d)):=⟨ok.l8,by simp[m],by simp[t],fun i=>by
  by_cases c:n=i
  ·subst c;rw[qe,qe,zC (by omega),zC (by omega)];rfl
  ·have:=ok.same i;rw[qe,qe]at this⊢;rw[zY c,zY c];exact this⟩
 have r:=QX (k:=k) (pw:=pw) ok;have u:(iF k pw da ds)[n]?=some emp:=by
  simp only[iF,wY,q,x];rfl
 have l:iF k pw (da.set n (some b)) (ds.set n (some d))=(iF k pw da ds).set n (kT k.tD (k.f pw) b d):=by
  apply zx;intro j;simp only[iF,qV,wY,List.length_zipWith];by_cases g:n=j
  ·subst g;rw[if_pos rfl,if_pos (by omega),if_pos rfl,if_pos (by omega),if_pos rfl,if_pos (by omega)];rfl
  ·simp[g]
 refine aa.Az o ?_;rw[l];obtain⟨L,p⟩:∃L,L=iF k pw da ds:=⟨_,rfl⟩
 rw[<-p]at H u r⊢;have v:=H.cons (L.length+2) (A:=kT k.tD (k.f pw) b d) (by
  rw[qz,qz,qj (ql _),zd];rfl)
 have e:(ar a k.tS (dD mc pw offs (da.set n (some b)))::ez k.tP pw w::(L++(kT k.tD (k.f pw) b d::As))).set (L.length+2) emp=ar a k.tS (dD mc pw offs (da.set n (some b)))::ez k.tP pw w::(L++(emp::As)):=by
  rw[wM,wM,q7 _ _ (ql _),zd];rfl
 rw[e]at v;have I:=v.bo 3 [0,2,1];have s:L.set n emp=L:=by
  obtain⟨D,F⟩:=qn.1 u
  conv=>lhs;rw[<-F]
  exact List.set_getElem_self D
 have z:aa B h0 h (kT k.tD (k.f pw) b d::ez k.tP pw w::ar a k.tS (dD mc pw offs (da.set n (some b)))::(L.set n emp++(emp::As))):=by rw[s];exact I
 have y:=aa.Uz n (by omega) z;have E:=aa.closeAll (ar a k.tS (dD mc pw offs (da.set n (some b)))::ez k.tP pw w::L.set n (kT k.tD (k.f pw) b d)) y;exact aa.Bv (L:=ar a k.tS (dD mc pw offs (da.set n (some b)))::ez k.tP pw w::L.set n (kT k.tD (k.f pw) b d)) E.GX
end
open Go Wl Go.Qw
def de(p:Pm)(extra:Int)(l:aB):aD:=⟨1,0,p,extra,bi l l.length,[]⟩
def gr(l:aB)(k:Nat):aX:=(qy 64).map fun i:Nat=>if(i:Int)∈(bi l l.length).take k then some (bv.new (l.getD i 0).toNat)else none
def cT(p:Pm)(extra:Int)(w:Pow)(l:aB):Int×Pow×aX:=
 if(fy l).2&&(bA p&&fh extra 0 16)then
  if(bi l l.length).any fun i=>decide (l.getD i.toNat 0<((bf (de p extra l)).length:Int))then(7,w,[])
  else layAll (bE (de p extra l) (bi l l.length)) w (gr l (bi l l.length).length)
 else(1,w,[])
theorem Rc(l:aB):gr l 0=qg 64 none:=by
 unfold gr;rw[List.take_zero];apply zx;intro j;simp only[qO,zT,zl,List.not_mem_nil,if_false];by_cases h:j<64
 ·simp[h,zl]
 ·simp[h]
theorem Tl(l:aB)(k:Nat):(gr l k).length=64:=by simp[gr]
theorem Re(l:aB)(k n:Nat)(d:k<(bi l l.length).length)(c:(bi l l.length)[k]=(n:Int))(b:n<64):(gr l k).set n (some (bv.new (l.getD n 0).toNat))=gr l (k+1):=by
 apply zx;intro j;unfold gr;rw[aH _ _ d,c,qV,qD,zy];by_cases e:j<64
 ·simp only[qO,zl e,qR,qF,qG];by_cases a:n=j
  ·subst a;rw[if_pos rfl,if_pos b,if_pos (Or.inr rfl)]
  ·rw[if_neg a];have:¬(j:Int)=(n:Int):=by omega
   simp only[this,or_false]
 ·rw[if_neg (by omega)];rw[za (by simp;omega),za (by simp;omega)]
theorem wT(l:aB)(k:Nat)(x:Int):x∈bi l k↔∃n:Nat,n<k/\x=(n:Int)/\0<l.getD n 0:=by
 unfold bi;rw[qJ,qC];constructor
 ·rintro⟨⟨n,b,rfl⟩,a⟩;exact⟨n,qI.1 b,rfl,by simpa using a⟩
 ·rintro⟨n,b,rfl,a⟩;exact⟨⟨n,qI.2 b,rfl⟩,by simpa using a⟩
theorem Tm(l:aB)(k i:Nat)(a:i<(bi l k).length):∃n:Nat,n<k/\(bi l k)[i]=(n:Int)/\0<l.getD n 0:=(wT l k _).1 (qh a)
end Go.Vc
namespace Wl
open Go
def dp(p:Int×Int×Int):Nat:=(p.1*p.2.2).toNat
def ug(a:Nat)(b:aU)(i:Nat):aU:=(b.drop (i*a)).take a++(qg a 0).drop (b.drop (i*a)).length
theorem Gj(a:Nat)(b:aU)(i:Nat):(ug a b i).length=a:=by unfold ug;simp;omega
def splitB(p:Int×Int×Int)(b:aU):cv:=(qy (countP p b.length).toNat).map (ug (dp p) b)
def Do(p:Int×Int×Int)(o b:Int)(n:Nat):Bool:=dQ p (cE o b n) (dH p)
def lF(p:Int×Int×Int)(o b:Int):Option Nat:=(qy 16).find? (Do p o b)
def ct(p:Int×Int×Int)(o:Int):Nat->Option (aB)
 |0=>some []
 |n+1=>(ct p o n).bind fun l=>(lF p o n).map fun t=>l++[(t:Int)]
theorem iH{p:Int×Int×Int}{o:Int}:∀{n:Nat} {l:aB},ct p o n=some l->l.length=n
 |0,l,h=>by cases h;rfl
 |n+1,l,h=>by
  unfold ct at h;cases h1:ct p o n with
  |none=>rw[h1]at h;cases h
  |some k=>
   rw[h1]at h;cases h2:lF p o n with
   |none=>rw[h2]at h;cases h
   |some t=>
    rw[h2]at h;have h:some (k++[(t:Int)])=some l:=h;injection h with h
    rw[<-h,qw,iH h1];rfl
theorem Gk{p:Int×Int×Int}{o b:Int}{t:Nat}(h:lF p o b=some t):t<16/\Do p o b t=true/\∀k,k<t->Do p o b k=false:=by
 unfold lF at h;obtain⟨e,us,vs,d,h3⟩:=List.find?_eq_some_iff_append.1 h;have c:=congrArg vT d;have g:t=us.length:=by
  have:(qy 16)[us.length]?=some t:=by rw[d,qj (ql _),zd];rfl
  rw[zl (by simp at c;omega)]at this;injection this with this;exact this.symm
 refine⟨by simp at c;omega,e,fun k f=>?_⟩;have a:k∈us:=by
  have:(qy 16)[k]?=us[k]?:=by rw[d,qm (by omega)]
  rw[zl (by simp at c;omega)]at this;exact yn this.symm
 simpa using h3 k a
theorem AA{p:Int×Int×Int}{o:Int}:∀{n:Nat} {l:aB},ct p o n=some l->∀i (b:i<l.length),∃t:Nat,l[i]=(t:Int)/\lF p o i=some t
 |0,l,h=>by cases h;intro i b;simp at b
 |n+1,l,h=>by
  unfold ct at h;cases h1:ct p o n with
  |none=>rw[h1]at h;cases h
  |some k=>
   rw[h1]at h;cases h2:lF p o n with
   |none=>rw[h2]at h;cases h
   |some t=>
    rw[h2]at h;have h:some (k++[(t:Int)])=some l:=h;injection h with h
    subst h;intro i b;have c:=iH h1;by_cases a:i<k.length
    ·rw[List.getElem_append_left a];exact AA h1 i a
    ·have:i=k.length:=by simp at b;omega
     subst this;refine⟨t,by simp,?_⟩;rw[c];exact h2
end Wl
namespace Go.Qw
open Go Go.Vc Go.Proofs Wl
theorem Gl(p:Pm)(h:Heap)(d:bA p=true):ab xv 223 #[ir p] h fun v h'=>v=xk xq (dp p)/\Sp h h' []:=by
 have c:=(bC p).1 d;refine BS p ?_;unfold vD;refine(Sp.refl h).boxed fun e h3 a=>⟨p.1,(a.box 0 rfl).cell0 rfl,p.2.2,(a.box 0 rfl).cell rfl,?_,a.cj []⟩
 have f:p.1*p.2.2<=16*24:=yW (by omega) (by omega) (by omega) (by omega);have b:0<=p.1*p.2.2:=vB (by omega) (by omega);rw[aj _];unfold dp;congr 1;omega
theorem kw{p:Pm}(c:bA p=true):1<=dp p/\dp p<=384/\(dp p:Int)=p.1*p.2.2:=by
 have b:=(bC p).1 c;have d:p.1*p.2.2<=16*24:=yW (by omega) (by omega) (by omega) (by omega);have a:0<p.1*p.2.2:=Int.mul_pos (by omega) (by omega);unfold dp;omega
theorem lj{p:Pm}(a:bA p=true)(n:Nat):0<=countP p n/\countP p n<=n/\∀i:Nat,(i:Int)<countP p n->i*dp p<n:=by
 obtain⟨j,f,c⟩:=kw a;unfold countP;rw[a,zU];by_cases h0:0<(n:Int)
 ·rw[decide_eq_true h0,if_pos rfl,<-c];have h:((n:Int)-1)/(dp p:Int)<=n-1:=Int.ediv_le_self _ (by omega);have e:0<=((n:Int)-1)/(dp p:Int):=Int.ediv_nonneg (by omega) (by omega);refine⟨by omega,by omega,fun i b=>?_⟩;have h3:(i:Int)<=((n:Int)-1)/(dp p:Int):=by omega
  have d:=(Int.le_ediv_iff_mul_le (by omega)).1 h3;have g:((i*dp p:Nat):Int)=(i:Int)*(dp p:Int):=zW i (dp p);omega
 ·rw[decide_eq_false h0,if_neg (by decide)];exact⟨by omega,by omega,fun i b=>by omega⟩
theorem Tn(p:Pm)(s:Sl)(b:aU)(h:Heap)(g:bA p=true)(q:Rd h s 1 az b)(F:s.len<=s.cap)(P:b.length<=2^30):ab xv 224 #[ir p,s] h fun v h'=>∃r:Sl,v=r/\Sp h h' [dR r (splitB p b)]:=by
 refine Kt p s ?_;unfold Ef;have c:=q.len;obtain⟨Y,V,R⟩:=kw g;obtain⟨T,W,B⟩:=lj g b.length;refine(Sp.refl h).boxed fun k D m=>?_;refine⟨p,(m.box 0 rfl).aF _ rfl,?_⟩;refine(ue p s.len D).mono ?_;rintro _ G ⟨rfl,z⟩;have M:=m.up z.ag;refine⟨_,rfl,?_⟩;obtain⟨n,I⟩:∃n:Nat,n=(countP p b.length).toNat:=⟨_,rfl⟩
 have d:(countP p (s.len:Nat))=(n:Int):=by rw[c];omega
 rw[d];have O:(splitB p b).length=n:=by unfold splitB;rw[<-I];simp
 have a:Sp h G [dR ⟨none,0,0⟩ ((splitB p b).take 0),ar k 25 [xk xq p.1,xk xq p.2.1,xk xq p.2.2]]:=M.EX 23 5 1 az;refine au (fun t:Sl×Nat=>(t.1,(t.2:Int))) (fun t h'=>t.2<=n/\Sp h h' [dR t.1 ((splitB p b).take t.2),ar k 25 [xk xq p.1,xk xq p.2.1,xk xq p.2.2]]) (fun t=>n-t.2) (⟨none,0,0⟩,0) rfl ⟨by simp,a⟩ ?_;rintro⟨o,i⟩ h3 ⟨X,a⟩;dsimp only at*;refine ai (fun e=>?_) (fun e=>?_)
 ·have u:i<n:=by omega
  have J:=B i (by rw[<-c,d];omega);refine⟨p,(a.box 1 rfl).aF _ rfl,(Gl p h3 g).mono ?_⟩;rintro _ Z ⟨rfl,A⟩;have w:=a.up A.ag;refine⟨_,rfl,w.OW ac az fi (by decide) (0:UInt8) rfl rfl (dp p) (dp p) rfl rfl (ql _) (by omega) fun v H U Q f=>?_⟩;have f:=f.bH;refine⟨p,(f.box 2 rfl).aF _ rfl,(Gl p H g).mono ?_⟩;rintro _ S ⟨rfl,E⟩;have l:=f.up E.ag;refine⟨_,rfl,?_⟩;have em:qc xq ((i:Int)*(dp p:Int))=((i*dp p:Nat):Int):=by
   rw[<-zW,aj _]
  dsimp only;rw[em,qp];refine⟨⟨by omega,by omega⟩,?_⟩;have K:=(Seq.up q l.ag).drop (i*dp p) F;refine l.ER ac 0 rfl fi (fun _=>rfl) (v:=⟨_,s.len-i*dp p,s.cap-i*dp p⟩) K fT fun _ L j=>?_;have j:Sp h L [an 5 v 1 az (ug (dp p) b i),dR o ((splitB p b).take i),ar k 25 [xk xq p.1,xk xq p.2.1,xk xq p.2.2]]:=by
   simpa[ug]using j
  refine(j.bo 2 [1,0]).GY ac fa (by simp;omega) fun N h8 x=>?_;refine⟨(N,i+1),by dsimp only;rw[aj _];rfl,⟨by dsimp only;omega,?_⟩,by dsimp only;omega⟩;dsimp only;rw[aH _ _ (show i<(splitB p b).length by omega)];have y:(splitB p b)[i]'(by omega)=ug (dp p) b i:=by simp[splitB]
  rw[y];exact x
 ·rw[qi (by omega)]at a;exact⟨o,rfl,a.cj [0]⟩
theorem ny(a b:UInt8):qc xr ((qu (qk xr) (a.toNat:Int)^^^qu (qk xr) (b.toNat:Int)).toNat:Nat)=((a^^^b).toNat:Int):=by
 have e:∀a:UInt8,qu (qk xr) (a.toNat:Int)=a.toBitVec:=fun a=>by
  apply BitVec.eq_of_toNat_eq;have:=zN a;simp[qk]
 rw[e,e];have c:=(a.toBitVec^^^b.toBitVec).isLt;have:((a^^^b).toNat:Int)=((a.toBitVec^^^b.toBitVec).toNat:Int):=rfl;rw[this];show(((a.toBitVec^^^b.toBitVec).toNat:Nat):Int)%256=_;have:(a.toBitVec^^^b.toBitVec).toNat<256:=c;omega
def tri(a:UInt8):Nat->Int×Int×Int
 |0=>((a.toNat:Int),(3:Int),(0:Int))
 |1=>(((Gf.x2 a).toNat:Int),(1:Int),(a.toNat:Int))
 |_=>(((Gf.x2 (Gf.x2 a)).toNat:Int),(0:Int),((Gf.x3 a).toNat:Int))
theorem To(a:UInt8)(h:Heap):ab xv 76 #[xk xr a.toNat,xk xr 3] h fun v h'=>v=xk xr (Gf.x3 a).toNat/\h'=h:=by
 have e:∀n:Nat,n<256->
   ((qc xr ((qu (qk xr) (n:Int)&&&(qu (qk xr) (128:Int))).toNat:Nat)) !=(0:Int))=true->qc xr ((qu (qk xr) (qc xr ((n:Int)*2^min (1:Int).toNat (qk xr)))^^^(qu (qk xr) (27:Int))).toNat:Nat)=((Gf.x2 (zH n)).toNat:Int):=by decide+kernel
 have c:∀n:Nat,n<256->
   ((qc xr ((qu (qk xr) (n:Int)&&&(qu (qk xr) (128:Int))).toNat:Nat)) !=(0:Int))=false->qc xr ((n:Int)*2^min (1:Int).toNat (qk xr))=((Gf.x2 (zH n)).toNat:Int):=by decide+kernel
 refine QE _ _ ?_;unfold Kd;refine au (tri a) (fun t h'=>h'=h/\t<=2) (fun t=>2-t) 0 rfl ⟨rfl,by omega⟩ ?_;rintro t h' ⟨rfl,f⟩;rcases(show t=0∨t=1∨t=2 by omega)with rfl|rfl|rfl
 ·rw[show tri a 0=((a.toNat:Int),(3:Int),(0:Int))from rfl];dsimp only;refine AL (by decide) (aT (Iu (by decide) ?_));refine⟨by decide,aT ?_⟩;refine bF (fun d=>?_) (fun d=>?_)
  ·rw[e _ (zN a) d,wR];refine⟨by decide,1,?_,⟨rfl,by decide⟩,by decide⟩;have:=ny 0 a;simp only[z7]at this;exact yD rfl (yD rfl this)
  ·rw[c _ (zN a) d,wR];refine⟨by decide,1,?_,⟨rfl,by decide⟩,by decide⟩;have:=ny 0 a;simp only[z7]at this;exact yD rfl (yD rfl this)
 ·rw[show tri a 1=(((Gf.x2 a).toNat:Int),(1:Int),(a.toNat:Int))from rfl];dsimp only;refine AL (by decide) (aT (Iu (by decide) ?_));refine⟨by decide,aT ?_⟩;refine bF (fun d=>?_) (fun d=>?_)
  ·rw[e _ (zN (Gf.x2 a)) d,wR];refine⟨by decide,2,?_,⟨rfl,by decide⟩,by decide⟩;refine yD rfl (yD rfl ?_);have:=ny a (Gf.x2 a);rw[vA]at this;exact this
  ·rw[c _ (zN (Gf.x2 a)) d,wR];refine⟨by decide,2,?_,⟨rfl,by decide⟩,by decide⟩;refine yD rfl (yD rfl ?_);have:=ny a (Gf.x2 a);rw[vA]at this;exact this
 ·exact Iu (b:=(0:Int)==0) (by decide) ⟨rfl,rfl⟩
def iI:aB:=(qy 255).map fun i=>((Gf.pw i).toNat:Int)
def rk:aB:=(qy 256).map fun x=>if x=0 then 0 else((Gf.lg (zH x):Nat):Int)
theorem go:iI.length=255:=by simp[iI]
theorem xa:rk.length=256:=by simp[rk]
def dh:aV:=iI.map (Sc.enc (.int .u8))++rk.map (Sc.enc (.int .i64))
abbrev gp(h:Heap)(a:Addr):Prop:=bZ h a 92 dh
theorem Mo(k:IntKind)(l:aB):(l.map (Sc.enc (.int k))).all (·.oneCell')=true:=by
 rw[List.all_map,qN];intro x _;rfl
theorem Tp(h:Heap):ab xv 41 #[] h fun v h'=>v=xp (iI.map (Sc.enc (.int .u8))).toArray/\Sp h h' []:=by
 refine On ?_;unfold HM;refine(Sp.refl h).alloc ac rfl fun a r p=>?_;refine au (fun i:Nat=>(((Gf.pw i).toNat:Int),(i:Int))) (fun i h'=>i<=255/\Sp h h' [ar a 87 (((qy 255).map fun j=>if j<i then((Gf.pw j).toNat:Int)else 0).map (Sc.enc (.int .u8)))]) (fun i=>255-i) 0 rfl ⟨by omega,?_⟩ ?_
 ·have e:((qy 255).map fun j=>if j<0 then((Gf.pw j).toNat:Int)else 0).map (Sc.enc (.int .u8))=qg 255 (xk xr 0):=by simp;rfl
  rw[e];exact p
 ·rintro i s ⟨q,g⟩;refine ai (fun l=>?_) (fun m=>?_)
  ·dsimp only at l;refine⟨⟨by dsimp only;omega,by dsimp only;omega⟩,?_⟩;dsimp only;rw[show((i:Int).toNat*1)=i by omega];refine g.storeAt ac 0 rfl rfl rfl rfl rfl (by simp;omega) fun h3 f=>?_;refine(To (Gf.pw i) h3).mono ?_;rintro v t ⟨rfl,rfl⟩;refine⟨_,rfl,i+1,?_,⟨by omega,?_⟩,by omega⟩
   ·rw[aj _];rfl
   ·have e:((((qy 255).map fun j=>if j<i then((Gf.pw j).toNat:Int)else 0).map (Sc.enc (.int .u8))).set i (xk xr (Gf.pw i).toNat))=(((qy 255).map fun j=>if j<i+1 then((Gf.pw j).toNat:Int)else 0).map (Sc.enc (.int .u8))):=by
     apply zx;intro j;simp only[qV,qO,qD,zy];by_cases b:i=j
     ·subst b;have:i<255:=by omega
      simp[this]
     ·by_cases c:j<255
      ·simp only[b,if_false,zl c,qR];by_cases d:j<i
       ·rw[if_pos d,if_pos (by omega)]
       ·rw[if_neg d,if_neg (by omega)]
      ·simp[b,c]
    rw[<-e];exact f
  ·have n:i=255:=by dsimp only at m;omega
   subst n;have e:((qy 255).map fun j=>if j<255 then((Gf.pw j).toNat:Int)else 0)=iI:=by
    unfold iI;apply List.map_congr_left;intro j b;rw[if_pos (qI.1 b)]
   rw[e]at g;have o:=g.box 0 rfl;refine⟨iI,⟨go,o.aF _ (by rw[qi (ql _)])⟩,?_⟩;refine g.storeAll ac 0 rfl rfl (iI.map (Sc.enc (.int .u8))) rfl (by rw[qD,go]) (Mo _ _) rfl fun h3 f=>?_;have k:=f.box 0 rfl;exact⟨iI,⟨go,k.aF _ (by rw[qi (ql _)])⟩,rfl,.zip f.ag⟩
theorem YF(h:Heap):ab xv 42 #[xp (iI.map (Sc.enc (.int .u8))).toArray] h fun v h'=>v=xp (rk.map (Sc.enc (.int .i64))).toArray/\Sp h h' []:=by
 refine Ta iI ?_;unfold Nx;refine(Sp.refl h).boxed fun a B s=>?_;refine s.alloc ac rfl fun t D r=>?_;have m:=r.box 0 rfl;refine⟨iI,⟨go,m.aF _ (by show List.take _ (iI.map _)=_;rw[qi (ql _)])⟩,?_⟩;let L:Nat->aB:=fun i=>(qy 256).map fun x=>if x≠0/\Gf.lg (zH x)<i then((Gf.lg (zH x):Nat):Int)else 0
 refine au (fun i:Nat=>(i:Int)) (fun i h'=>i<=255/\Sp h h' [emp,ar t 89 ((L i).map (Sc.enc (.int .i64)))]) (fun i=>255-i) 0 rfl ⟨by omega,?_⟩ ?_
 ·have e:(L 0).map (Sc.enc (.int .i64))=qg 256 (xk xq 0):=by simp[L];rfl
  rw[e];exact r.ga 0 rfl fun _ _=>trivial
 ·rintro i h3 ⟨A,k⟩;refine ai (fun u=>?_) (fun y=>?_)
  ·have c:i<255:=by omega
   have q:=zN (Gf.pw i);refine⟨((Gf.pw i).toNat:Int),⟨by omega,by omega,by simp[iI,c]⟩,⟨by omega,by omega⟩,?_⟩;rw[show(((Gf.pw i).toNat:Int).toNat*1)=(Gf.pw i).toNat by omega];refine k.storeAt ac 1 rfl rfl rfl rfl rfl (by simp[L];omega) fun z g=>?_;refine⟨i+1,by rw[aj _];rfl,⟨by omega,?_⟩,by omega⟩;have e:((L i).map (Sc.enc (.int .i64))).set (Gf.pw i).toNat (xk xq i)=(L (i+1)).map (Sc.enc (.int .i64)):=by
    apply zx;intro j;simp only[qV,qO,qD,zy,L];by_cases f:(Gf.pw i).toNat=j
    ·subst f;simp only[if_true,zl q,qR,q];have n:(Gf.pw i).toNat≠0:=fun h0=>Gf.Vi i c (wg.1 h0);rw[wR,Gf.Vh i c,if_pos ⟨n,by omega⟩]
    ·by_cases d:j<256
     ·simp only[f,if_false,zl d,qR];by_cases b:j=0
      ·simp[b]
      ·have E:Gf.lg (zH j)≠i:=fun h0=>by
        apply f;rw[<-h0,Gf.Vg _ (fun w=>b (by have:=congrArg UInt8.toNat w;simpa[zV d]using this))];simp[zV d]
       by_cases l:Gf.lg (zH j)<i
       ·rw[if_pos ⟨b,l⟩,if_pos ⟨b,by omega⟩]
       ·rw[if_neg fun p=>l p.2,if_neg fun p=>l (by omega)]
     ·simp[f,d]
   rw[<-e];exact g
  ·have c:i=255:=by omega
   subst c;have e:L 255=rk:=by
    unfold rk;apply List.map_congr_left;intro j f;by_cases b:j=0
    ·simp[b]
    ·rw[if_pos ⟨b,Gf.JG _⟩,if_neg b]
   rw[e]at k;have m:=k.box 1 rfl;refine⟨rk,⟨xa,m.aF _ (by rw[qi (ql _)])⟩,?_⟩;refine k.storeAll ac 1 rfl rfl (rk.map (Sc.enc (.int .i64))) rfl (by rw[qD,xa]) (Mo _ _) rfl fun z g=>?_;have o:=g.box 1 rfl;exact⟨rk,⟨xa,o.aF _ (by rw[qi (ql _)])⟩,rfl,.zip g.ag⟩
theorem uh(h:Heap):ab xv 20 #[] h fun v h'=>∃a:Addr,v=xm (some a)/\Sp h h' [ar a 92 dh]:=by
 refine VQ ?_;unfold Qv;refine(Tp h).mono ?_;rintro v r ⟨rfl,m⟩;refine⟨iI,rfl,?_⟩;refine m.alloc ac rfl fun a s q=>?_;refine q.storeAll ac 0 rfl rfl (iI.map (Sc.enc (.int .u8))) rfl (by rw[qD,go]) (Mo _ _) (by rw[qD,go];rfl) fun h3 k=>?_;have f:=k.box 0 rfl;have c:al h3 a 0 (iI.map (Sc.enc (.int .u8))):=f.aF _ (by rw[qi (ql _)]);refine⟨iI,⟨go,c⟩,iI,⟨go,c⟩,?_⟩;refine(YF h3).mono ?_;rintro v u ⟨rfl,g⟩;refine⟨rk,rfl,mW.2 ⟨(g.ag).cells f.lt c,trivial⟩,_,uB ac (i:=_) rfl rfl rfl (cells:=dh.toArray) ?_,?_⟩
 ·have b:∀z:aV,z.length=511->wC (fun n=>[(0,255),(255,256)][n]?) z.toArray [(0,xp (iI.map (Sc.enc (.int .u8))).toArray),(1,xp (rk.map (Sc.enc (.int .i64))).toArray)]=some dh.toArray:=by
   intro z b;have e:z=[]++z.take 255++z.drop 255:=by simp
   conv=>lhs;rw[e]
   rw[PC (vs:=iI.map (Sc.enc (.int .u8))) rfl (by simp[go]) (by simp[go,b])];have e2:[]++iI.map (Sc.enc (.int .u8))++z.drop 255=iI.map (Sc.enc (.int .u8))++z.drop 255++[]:=by simp
   rw[e2,PC (vs:=rk.map (Sc.enc (.int .i64))) rfl (by simp[go,xa]) (by simp[xa,b])];simp[wC,dh]
  exact b _ rfl
 ·have p:(Value.agg dh.toArray).cells.toList=dh:=rfl;refine(k.comp g).boxed fun o t l=>?_;have d:=l.box 0 rfl;exact⟨mW.2 ⟨d.aF _ (by rw[qi (ql _)]),trivial⟩,o,rfl,l.take 1 (fun i A j=>by cases i with|zero=>exact j|succ i=>simp at j)⟩
theorem Gm{h:Heap}{a:Addr}(c:gp h a)(n:Nat)(b:n<255):cellOf h (a.add n)=some (xk xr (Gf.pw n).toNat):=
 c.cell (by rw[dh,qm (by simp[go,b])];simp[iI,b])
theorem Gn{h:Heap}{a:Addr}(c:gp h a)(x:UInt8)(d:x≠0):cellOf h ((a.add 255).add x.toNat)=some (xk xq (Gf.lg x)):=by
 have f:=c.addr;have e:(a.add 255).add x.toNat=a.add (255+x.toNat):=by rw[f,add_eq,add_eq,add_eq];congr 1;omega
 rw[e];refine c.cell ?_;have b:=zN x;have h0:x.toNat≠0:=fun h0=>d (wg.1 h0);rw[dh,qj (by simp[go])];simp[go,rk,b,h0]
theorem rl(a:Addr)(h:Heap):ab xv 142 #[xm (some a)] h fun v h'=>v=xm (some a)/\h'=h:=by
 refine IY (some a) ?_;unfold BL;exact AL rfl ⟨rfl,rfl⟩
theorem sX(a:Addr)(h:Heap):ab xv 39 #[xm (some a)] h fun v h'=>v=xm (some a)/\h'=h:=by
 refine Qy (some a) ?_;unfold JX;exact AL rfl ⟨rfl,rfl⟩
theorem OG(a:Addr)(h:Heap):ab xv 140 #[xm (some a)] h fun v h'=>v=xm (some a)/\h'=h:=by
 refine QG (some a) ?_;unfold Kf;exact AL rfl ⟨rfl,rfl⟩
theorem xw{x:UInt8}:((x.toNat:Int)=0)↔x=0:=⟨fun h=>wg.1 (by simpa using h),fun h=>by rw[h];rfl⟩
theorem Jk(a:Addr)(x y:UInt8)(h:Heap)(f:gp h a):ab xv 141 #[xm (some a),xk xr x.toNat,xk xr y.toNat] h fun v h'=>v=xk xr (Gf.mul x y).toNat/\h'=h:=by
 refine IX (some a) _ _ ?_;unfold BJ;refine aT ?_;refine cz (fun h0=>⟨by rw[Gf.mul,if_pos (.inl (xw.1 h0))];rfl,rfl⟩) (fun i=>?_);refine cz (fun h0=>⟨by rw[Gf.mul,if_pos (.inr (xw.1 h0))];rfl,rfl⟩) (fun g=>?_);have c:x≠0:=fun h0=>i (xw.2 h0);have b:y≠0:=fun h0=>g (xw.2 h0);refine(rl a h).mono ?_;rintro v l ⟨rfl,rfl⟩;have j:=zN x;have k:=zN y;have l1:=Gf.JG x;have l2:=Gf.JG y;refine⟨some a,rfl,a,rfl,⟨by omega,by omega⟩,(Gf.lg x:Int),?_,a,rfl,⟨by omega,by omega⟩,(Gf.lg y:Int),?_,by decide,a,rfl,?_⟩
 ·rw[show((x.toNat:Int).toNat*1)=x.toNat by omega];exact Gn f x c
 ·rw[show((y.toNat:Int).toNat*1)=y.toNat by omega];exact Gn f y b
 rw[aj _];have e:zZ ((Gf.lg x:Int)+(Gf.lg y:Int)) 255=(((Gf.lg x+Gf.lg y)%255:Nat):Int):=by
  rw[yE (by omega)];rfl
 rw[e];have d:=wJ (Gf.lg x+Gf.lg y) (show 255>0 by decide);refine⟨⟨by omega,by omega⟩,_,?_,by rw[Gf.mul,if_neg (by simp[c,b])],rfl⟩;rw[show((((Gf.lg x+Gf.lg y)%255:Nat):Int).toNat*1)=(Gf.lg x+Gf.lg y)%255 by omega];exact Gm f _ d
theorem aaZ(a:Addr)(x:UInt8)(h:Heap)(d:gp h a):ab xv 72 #[xm (some a),xk xr x.toNat] h fun v h'=>v=xk xr (Gf.inv x).toNat/\h'=h:=by
 refine IU (some a) _ ?_;unfold BE;refine cz (fun h0=>⟨by rw[Gf.inv,if_pos (xw.1 h0)];rfl,rfl⟩) (fun f=>?_);have b:x≠0:=fun h0=>f (xw.2 h0);refine(rl a h).mono ?_;rintro v i ⟨rfl,rfl⟩;have g:=zN x;have l1:=Gf.JG x;refine⟨some a,rfl,a,rfl,⟨by omega,by omega⟩,(Gf.lg x:Int),?_,by decide,a,rfl,?_⟩
 ·rw[show((x.toNat:Int).toNat*1)=x.toNat by omega];exact Gn d x b
 rw[aj _];have e:zZ (255-(Gf.lg x:Int)) 255=(((255-Gf.lg x)%255:Nat):Int):=by
  rw[yE (by omega)];omega
 rw[e];have c:=wJ (255-Gf.lg x) (show 255>0 by decide);refine⟨⟨by omega,by omega⟩,_,?_,by rw[Gf.inv,if_neg b],rfl⟩;rw[show((((255-Gf.lg x)%255:Nat):Int).toNat*1)=(255-Gf.lg x)%255 by omega];exact Gm d _ c
theorem aba(a:Addr)(n:Int)(h:Heap)(g:gp h a):ab xv 78 #[xm (some a),xk xq n] h fun v h'=>v=xk xr (Gf.pw (n%255).toNat).toNat/\h'=h:=by
 refine IV (some a) n ?_;unfold BF;have j:=yZ n (show(0:Int)<255 by decide);have i:-255<n.tmod 255:=vt n (by decide);have b:=Iw n 255;have c:=Int.emod_nonneg n (show(255:Int)≠0 by decide);have f:=Int.emod_lt_of_pos n (show(0:Int)<255 by decide);refine⟨by decide,bO (fun s h'=>s=n%255/\h'=h) ?_ ?_⟩
 ·refine ai (fun d=>?_) (fun e=>?_)
  ·rw[if_pos d]at b;exact⟨by rw[aj _,b],rfl⟩
  ·rw[if_neg e]at b;exact⟨b.symm,rfl⟩
 ·rintro s h' ⟨rfl,rfl⟩;refine(rl a h').mono ?_;rintro v i ⟨rfl,rfl⟩;refine⟨some a,rfl,a,rfl,⟨c,f⟩,_,?_,rfl,rfl⟩;rw[wc];exact Gm g _ (by omega)
theorem jw(p:Pm)(h:Heap):ab xv 25 #[ir p] h fun v h'=>v=xk xq (bn p)/\Sp h h' []:=by
 refine Qx p ?_;unfold JT;refine(Sp.refl h).boxed fun a g d=>?_;refine⟨p,(d.box 0 rfl).aF _ rfl,?_⟩;refine(dz p g).mono ?_;rintro v i ⟨rfl,f⟩;have b:=d.comp f;have c:=b.box 0 rfl;refine⟨_,rfl,be (fun e=>⟨by simp[bn,e],.zip b.ag⟩) (fun e=>?_)⟩;refine⟨_,c.cell0 rfl,_,c.cell rfl,?_,.zip b.ag⟩;have:=(bC p).1 e;rw[aj _,bn,if_pos e]
theorem YG(n i:Int)(h:Heap):ab xv 77 #[xk xq n,xk xq i] h fun v h'=>∃s:Sl,v=s/\
  Sp h h' [an 5 s 1 az (if 1<=n/\n<=64/\0<=i/\i<n then(qg n.toNat (0:UInt8)).set i.toNat 1 else[])]:=by
 refine QF n i ?_;unfold Ke;have a:∀c:Prop,¬c->[Decidable c]->Sp h h [an 5 ⟨none,0,0⟩ 1 az (if c then(qg n.toNat (0:UInt8)).set i.toNat 1 else[])]:=fun c b _=>by
  rw[if_neg b];exact(Sp.refl h).nil 5 1 az
 refine aT ?_;refine ai (fun e=>⟨⟨none,0,0⟩,rfl,a _ (by omega)⟩) (fun o=>?_);refine ai (fun e=>⟨⟨none,0,0⟩,rfl,a _ (by omega)⟩) (fun e2=>?_);refine ai (fun e=>⟨⟨none,0,0⟩,rfl,a _ (by omega)⟩) (fun k=>?_);refine ai (fun e=>⟨⟨none,0,0⟩,rfl,a _ (by omega)⟩) (fun j=>?_);refine(Sp.refl h).make ac az ⟨_,_,rfl,rfl,rfl,rfl,rfl,rfl⟩ (by decide) 0 rfl rfl n.toNat n.toNat (by omega) (by omega) (ql _) (by omega) fun s l g b d=>?_;refine d.set ac 0 rfl (fun _=>rfl) rfl i.toNat (by omega) (by simp;omega) 1 rfl rfl rfl fun m f=>?_;refine⟨s,rfl,?_⟩;rw[if_pos (by omega)];exact f
theorem OH(s:Int)(h:Heap):ab xv 60 #[xk xt s] h fun v h'=>∃a:Addr,v=xm (some a)/\Sp h h' [ar a 200 [xk xu (qc xu s)]]:=by
 refine QD s ?_;unfold Kb;exact(Sp.refl h).boxed fun a c b=>⟨a,rfl,b⟩
theorem Ce(a:Addr)(s:Int)(h:Heap)(d:bZ h a 200 [xk xu s]):ab xv 61 #[xm (some a)] h fun v h'=>v=xk xt (told s)/\bZ h' a 200 [xk xu (oP s)]/\aR (·≠a.block) h h':=by
 refine FE (some a) ?_;unfold uT;refine AL rfl ⟨a,rfl,s,d.cell0 rfl,a,rfl,?_⟩;refine tz ac d rfl _ rfl rfl rfl (ql _) fun e b c _=>?_;exact⟨a,rfl,_,b.cell0 rfl,by decide,rfl,b,c⟩
theorem KJ(a:Addr)(s n:Int)(h:Heap)(d:bZ h a 200 [xk xu s])(g:0<n:=by omega)(f:n<=2^62:=by omega):ab xv 130 #[xm (some a),xk xq n] h fun v h'=>v=xk xq (iw s n)/\bZ h' a 200 [xk xu (oP s)]/\aR (·≠a.block) h h':=by
 refine Ew (some a) n ?_;unfold tj;refine aT (AL rfl (ai (fun e=>by omega) fun _=>?_));refine(Ce a s h d).mono ?_;rintro v i ⟨rfl,c,b⟩;exact⟨_,rfl,by rw[wrap_u64];omega,rfl,c,b⟩
theorem Hr(a b:Nat)(d:a<=2^40)(c:b<=2^40):qc xq ((a:Int)+(b:Int))=((a+b:Nat):Int):=by
 rw[aj _];rfl
theorem YH(l:Nat)(h:Heap)(f:l<=20):ab xv 210 #[xk xq l] h fun v h'=>v=xk xq (bW l)/\h'=h:=by
 have g:∀l:Nat,l<=20->∀r:Nat,r<=5->(∀j,j<r->j*j<l)->r*r<l->r<5:=by decide
 have m:∀l:Nat,l<=20->∀r:Nat,r<=5->(∀j,j<r->j*j<l)->¬r*r<l->r=bW l:=by decide
 refine Ja l ?_;unfold BR;refine au (fun r:Nat=>(r:Int)) (fun r h'=>h'=h/\r<=5/\∀j,j<r->j*j<l) (fun r=>5-r) 0 rfl ⟨rfl,by omega,fun j c=>by omega⟩ ?_;rintro r h' ⟨rfl,d,c⟩;have k:r*r<=25:=Nat.mul_le_mul d d;have e:qc xq ((r:Int)*(r:Int))=((r*r:Nat):Int):=by rw[<-zW];exact kJ _
 rw[e];refine ai (fun i=>?_) (fun n=>?_)
 ·have a:r*r<l:=by omega
  have o:=g l f r d c a;refine⟨r+1,by rw[aj _];rfl,⟨rfl,by omega,fun j b=>?_⟩,by omega⟩;rcases Nat.lt_succ_iff_lt_or_eq.1 b with b|rfl
  ·exact c j b
  ·exact a
 ·exact⟨by rw[m l f r d c (by omega)],rfl⟩
theorem YI(r:Nat)(h:Heap)(b:r<=5):ab xv 168 #[xk xu r] h fun v h'=>v=xk xq (ry r)/\h'=h:=by
 intro w a;refine(Tryz.bits_Len (r:Int) w (by omega) (by omega)).mono ?_;rintro e w' ⟨rfl,rfl⟩;have k:∀r:Nat,r<=5->Lib.bitLen r=ry r:=by decide+kernel
 exact⟨_,rfl,cM.refl _,by rw[qp,k r b],a⟩
theorem Tq(l k:Nat)(h:Heap)(b:l<=20)(a:1<=l)(g:k<=20)(d:1<=k):ab xv 131 #[xk xq l,xk xq k] h fun v h'=>v=xk xq (kh l k)/\h'=h:=by
 have m:∀k:Nat,k<=20->1<k->qc xq ((k:Int)*qc xq ((k:Int)-1))=((k*(k-1):Nat):Int)/\k*(k-1)≠0:=by decide
 have n:∀l:Nat,l<=20->1<=l->1<=bW l/\bW l<=5:=by decide
 have p:∀l:Nat,l<=20->1<=l->qc xq (z8 (l:Int) (bW l))=((l/bW l:Nat):Int):=by decide
 have r:∀l:Nat,l<=20->1<=l->∀k:Nat,k<=20->1<=k->qc xq ((l:Int)*k)≠0:=by decide+kernel
 have c5:∀k:Nat,k<=20->1<k->qc xq (z8 (1048576:Int) (qc xq ((k:Int)*qc xq ((k:Int)-1))))=((1048576/(k*(k-1)):Nat):Int):=by decide+kernel
 have x:∀l:Nat,l<=20->1<=l->qc xq (z8 (1048576:Int) (l:Int))=((1048576/l:Nat):Int):=by decide+kernel
 have t:∀l:Nat,l<=20->1<=l->∀k:Nat,k<=20->1<=k->qc xq (z8 (qc xq ((1048576:Int)*bW l)) (qc xq ((l:Int)*k)))=((1048576*bW l/(l*k):Nat):Int):=by decide+kernel
 have u:∀l:Nat,l<=20->1<=l->qc xq (z8 (qc xq ((qc xq ((1048576:Int)*bW l))*ry (bW l))) (l:Int))=((1048576*bW l*ry (bW l)/l:Nat):Int):=by decide+kernel
 have j:∀l:Nat,l<=20->∀k:Nat,k<=20->1048576*bW l/(l*k)<=2^30/\1048576*bW l*ry (bW l)/l<=2^30/\1048576/(k*(k-1))<=2^30/\1048576/l<=2^30:=by decide+kernel
 refine FM l k ?_;unfold uW;have i:=j l b k g;refine(YH l h b).mono ?_;rintro v q ⟨rfl,rfl⟩;have y:=n l b a;refine⟨_,rfl,by omega,bO (fun s h'=>s=(((if k>1 then 1048576/(k*(k-1))else 1048576/l):Nat):Int)/\h'=q) ?_ ?_⟩
 ·refine ai (fun e=>?_) (fun e=>?_)
  ·have:=m k g (by omega);refine⟨by rw[this.1];omega,by rw[c5 k g (by omega),if_pos (by omega)],rfl⟩
  ·refine⟨by rw[x l b a,if_neg (by omega)],rfl⟩
 ·rintro s w ⟨rfl,rfl⟩;have z:(if k>1 then 1048576/(k*(k-1))else 1048576/l)<=2^30:=by split<;>first|exact i.2.2.1|exact i.2.2.2
  refine aT ?_;dsimp only;refine⟨show((bW l:Nat):Int)≠0 by omega,?_⟩;rw[p l b a];refine ai (fun e=>⟨r l b a k g d,?_,rfl⟩) (fun e=>?_)
  ·rw[t l b a k g d,Hr _ _ (by omega) (zk i.1 (by decide)),kh,if_pos (c:=k<l/bW l) (vX.1 e)]
  ·refine cz (fun e2=>?_) (fun e2=>?_)
   ·have o:qc xu (bW l:Int)=(bW l:Int):=by rw[wrap_u64];omega
    rw[o];refine(YI (bW l) w y.2).mono ?_;rintro v h3 ⟨rfl,rfl⟩;refine⟨_,rfl,by omega,?_,rfl⟩;rw[u l b a,Hr _ _ (by omega) (zk i.2.1 (by decide)),kh,if_neg (c:=k<l/bW l) (fun f=>e (vX.2 f)),if_pos (c:=k=l/bW l) (vb.1 e2)]
   ·exact⟨by rw[kh,if_neg (c:=k<l/bW l) (fun f=>e (vX.2 f)),if_neg (c:=k=l/bW l) (fun f=>e2 (vb.2 f)),Nat.add_zero],rfl⟩
theorem We(l:Nat)(h:Heap)(a:l<=20)(b:1<=l):ab xv 63 #[xk xq l] h fun v h'=>∃s:Sl,v=s/\Sp h h' [an 3 s 1 aC (eT l)]:=by
 refine Hv l ?_;unfold Av;refine aT (ai (fun e=>by omega) fun _=>ai (fun e=>by omega) fun _=>?_);refine(Sp.refl h).make ac aC lE (by decide) 0 rfl rfl 0 l rfl rfl (by omega) (by omega) fun s o d q i=>?_;refine au (fun t:Sl×Nat=>(t.1,((iA l t.2:Nat):Int),((t.2+1:Nat):Int))) (fun t h'=>t.2<=l/\Sp h h' [an 3 t.1 1 aC ((eT l).take t.2)]) (fun t=>l-t.2) (s,0) rfl ⟨by simp,by simpa using i⟩ ?_;rintro⟨s,k⟩ j ⟨r,c⟩;dsimp only at*;refine ai (fun e=>?_) (fun e=>?_)
 ·refine(Tq l (k+1) j a b (by omega) (by omega)).mono ?_;rintro v h3 ⟨rfl,rfl⟩;refine⟨_,rfl,?_⟩;have n:=um l a k (by omega);have p:=CE l a (k+1) (by omega);have e2:qc xq ((iA l k:Int)+(kh l (k+1):Int))=((iA l (k+1):Nat):Int):=by rw[aj _,iA];rfl
  dsimp only;rw[e2];refine c.push ac 0 rfl lE rfl (by decide) (fun _=>rfl) gJ _ rfl (by decide) (by rw[qM];omega) fun m u f=>?_;refine⟨(m,k+1),by dsimp only;rw[aj _];rfl,⟨by dsimp only;omega,?_⟩,by dsimp only;omega⟩;have g:(eT l).take (k+1)=(eT l).take k++[((iA l (k+1):Nat):Int)]:=by
   rw[aH _ _ (by rw[fu];omega)];simp[eT]
  dsimp only;rw[g];exact f
 ·refine⟨s,rfl,?_⟩;rw[qi (by rw[fu];omega)]at c;exact c
theorem Tr{p:aA}(t:Sl)(lt:aB)(x b:Int)(h:Heap)(l:Seq h p t 1 aC lt)(r:0<=x)(a:lt.getLast?=some b)(f:x<b)(s:lt.length<=2^40):
  ab xv 129 #[t,xk xq x] h fun v h'=>v=xk xq (LB lt x)/\h'=h:=by
 refine FL t x ?_;unfold uV;have q:=l.len;have c:lt≠[]:=fun e=>by rw[e]at a;cases a
 have n:0<lt.length:=List.length_pos_iff.2 c;have d:lt[lt.length-1]=b:=by rw[List.getLast?_eq_getElem?,qd (by omega)]at a;simpa using a
 refine aT (cz (fun e=>by omega) fun _=>ai (fun e=>by omega) fun _=>?_);rw[aj _];refine l.bt (lt.length-1) (by omega) (by omega) _ rfl ?_;rw[d];refine ai (fun e=>by omega) fun _=>?_;have g:(lt.findIdx fun y=>decide (y>x))<lt.length:=List.findIdx_lt_length_of_exists ⟨b,List.mem_of_getLast? a,by simpa using f⟩;refine au (fun k:Nat=>(k:Int)) (fun k h'=>h'=h/\k<=(lt.findIdx fun y=>decide (y>x))) (fun k=>lt.length-k) 0 rfl ⟨rfl,by omega⟩ ?_;rintro k h' ⟨rfl,m⟩;refine ai (fun e=>?_) (fun e=>by omega);have i:k<lt.length:=by omega
 refine l.bt k rfl i _ rfl ?_;rw[aj _];refine ai (fun e2=>?_) (fun e2=>?_)
 ·have:(lt.findIdx fun y=>decide (y>x))=k:=Nat.le_antisymm (Nat.le_of_not_lt fun j=>by have:=List.not_of_lt_findIdx j;simp at this;omega) m;exact⟨by rw[LB,this];rfl,rfl⟩
 ·refine⟨k+1,rfl,⟨rfl,?_⟩,by omega⟩;refine Nat.lt_of_le_of_ne m fun o=>?_;have:=List.findIdx_getElem (xs:=lt) (p:=fun y=>decide (y>x)) (w:=g);simp only[<-o]at this;simp at this;omega
theorem Hz(t:Sl)(n:Nat)(a:Addr)(s:Int)(h:Heap)(i:Seq h (·≠a.block) t 1 aC (eT n))(k:bZ h a 200 [xk xu s])(d:1<=n)(g:n<=20):
  ab xv 62 #[t,xm (some a)] h fun v h'=>v=xk xq (tE s n)/\bZ h' a 200 [xk xu (oP s)]/\aR (·≠a.block) h h':=by
 refine IT t (some a) ?_;unfold BD;have j:=i.len;rw[fu]at j;refine cz (fun e=>by omega) fun _=>?_;rw[aj _];refine i.bt (n-1) (by omega) (by rw[fu];omega) _ rfl ?_;have o:(eT n)[n-1]'(by rw[fu];omega)=((iA n n:Nat):Int):=by simp only[eT,List.getElem_map,List.getElem_range];rw[show n-1+1=n by omega]
 rw[o];have q:=IB n g d;have m:=um n g n g;refine(KJ a s _ h k).mono ?_;rintro v l ⟨rfl,f,c⟩;have b:=nN s (iA n n);refine⟨_,rfl,(Tr t (eT n) _ _ l (i.ag c) b.1 (CF n d) b.2 (by rw[fu];omega)).mono ?_⟩;rintro v p ⟨rfl,rfl⟩;exact⟨_,rfl,rfl,f,c⟩
theorem YJ(a:Addr)(s:Int)(n k:Nat)(h:Heap)(E:bZ h a 200 [xk xu s])(U:n<=64)(V:k<=n):
  ab xv 64 #[xm (some a),xk xq n,xk xq k] h fun v h'=>∃r:Sl,v=r/\aa (fun b=>b<h.size/\¬b=a.block) h h' [ar a 200 [xk xu (dm n s (upto n) k).1],an 3 r 1 aC (Ae s n k)]:=by
 refine Kc (some a) n k ?_;unfold DV;refine aT (ai (fun e=>by omega) fun _=>ai (fun e=>by omega) fun _=>ai (fun e=>by omega) fun _=>ai (fun e=>by omega) fun _=>?_);have H:aa (fun b=>b<h.size/\¬b=a.block) h h [ar a 200 [xk xu s]]:=.PB (fun b=>b=a.block) (fun b p=>by rw[p];exact E.lt) ⟨E,rfl⟩;refine H.make ac aC lE (by decide) 0 rfl rfl n n rfl rfl (ql _) (by omega) fun v R N S J=>?_;refine au (fun i:Nat=>(i:Int)) (fun i h'=>i<=n/\aa (fun b=>b<h.size/\¬b=a.block) h h' [ar a 200 [xk xu s],an 3 v 1 aC ((upto n).take i++qg (n-i) 0)]) (fun i=>n-i) 0 rfl ⟨by omega,by simpa using J⟩ ?_;rintro i T ⟨Q,D⟩;refine ai (fun e=>?_) (fun e=>?_)
 ·have m:i<n:=by omega
  refine D.set ac 1 rfl (fun _=>rfl) rfl i rfl (by simp[fB];omega) (i:Int) rfl rfl rfl fun h3 f=>?_;refine⟨i+1,by rw[aj _];rfl,⟨by omega,?_⟩,by omega⟩;have e2:((upto n).take i++qg (n-i) 0).set i (i:Int)=(upto n).take (i+1)++qg (n-(i+1)) 0:=by
   have o:((upto n).take i).length=i:=by rw[qM,fB];omega
   rw[aH _ _ (by rw[fB];omega),q7 _ _ (by omega),o,zd,show n-i=n-(i+1)+1 by omega,yi,zu];simp[upto]
  rw[<-e2];exact f
 ·have m:i=n:=by omega
  subst m;have e2:(upto i).take i++qg (i-i) 0=upto i:=by rw[qi (by rw[fB];omega)];simp
  rw[e2]at D;refine au (fun j:Nat=>(j:Int)) (fun j h'=>j<=k/\aa (fun b=>b<h.size/\¬b=a.block) h h' [ar a 200 [xk xu (dm i s (upto i) j).1],an 3 v 1 aC (dm i s (upto i) j).2]) (fun j=>k-j) 0 rfl ⟨by omega,D⟩ ?_;rintro j h3 ⟨O,f⟩;have z:=pY i s (upto i) j;rw[fB]at z;refine ai (fun I=>?_) (fun I=>?_)
  ·rw[aj _];have c:((i:Int)-(j:Int))=((i-j:Nat):Int):=by omega
   rw[c];refine(KJ a _ _ h3 (f.box 0 rfl)).mono ?_;rintro w F ⟨rfl,A,t⟩;have g:=f.nW 0 rfl t A;have L:=nN (dm i s (upto i) j).1 ((i-j:Nat):Int);refine⟨_,rfl,?_⟩;dsimp only;rw[aj _,aj _];have K:(j:Int)+iw (dm i s (upto i) j).1 ((i-j:Nat):Int)=((j+(iw (dm i s (upto i) j).1 ((i-j:Nat):Int)).toNat:Nat):Int):=by omega
   have d:j+(iw (dm i s (upto i) j).1 ((i-j:Nat):Int)).toNat<(dm i s (upto i) j).2.length:=by omega
   rw[K];have l:=g.seq 1 rfl (fun _=>rfl);refine l.bt _ rfl d _ rfl ?_;refine l.bt j rfl (by omega) _ rfl ?_;refine g.set ac 1 rfl (fun _=>rfl) rfl j rfl (by omega) _ rfl rfl rfl fun M x=>⟨trivial,?_⟩
   refine x.set ac 1 rfl (fun _=>rfl) rfl _ rfl (by simpa using d) _ rfl rfl rfl fun P G=>⟨trivial,?_⟩
   refine⟨j+1,rfl,⟨by omega,?_⟩,by omega⟩;rw[dm,ik,dN,dN,Go.Vc.getD_lt d,Go.Vc.getD_lt (show j<(dm i s (upto i) j).2.length by omega)];exact G
  ·have y:j=k:=by omega
   subst y;refine⟨⟨by omega,by omega⟩,?_⟩;have u:=f.seq 1 rfl (fun _=>rfl);refine(mE ⟨v.ptr,j,v.cap⟩ ((dm i s (upto i) j).2.take j) h3 (u.take j (by omega)) (by rw[qM];omega)).mono ?_;rintro w F ⟨r,rfl,g⟩;refine⟨r,rfl,?_⟩;refine(NC r _ F (g.own 0 rfl) (by rw[qM];omega)).mono ?_;rintro w M ⟨rfl,B,q⟩;have x:=(f.comp g).lp 2 rfl q B;exact⟨(),rfl,r,rfl,x.del 1⟩
theorem AB(p:Pm)(seed id:Int)(h:Heap):ab xv 31 #[ir p,xk xt seed,xk xq id] h fun v h'=>∃r:Sl,v=r/\Sp h h' [an 3 r 1 aC (if bA p&&bp id then cA (bn p).toNat seed id else[])]:=by
 refine SX p seed id ?_;unfold Nu;refine(Sp.refl h).boxed fun a F D=>?_;refine aT ?_;refine⟨p,(D.box 0 rfl).aF _ rfl,(dz p F).mono ?_⟩;rintro v s ⟨rfl,J⟩;have k:=D.comp J;have g:(bA p&&bp id)=false->Sp h s [an 3 ⟨none,0,0⟩ 1 aC (if bA p&&bp id then cA (bn p).toNat seed id else[])]:=fun O=>by
  rw[O];exact(k.nil 3 1 aC).take 1 (fun i A c=>by cases i with|zero=>exact c|succ i=>simp at c)
 refine⟨_,rfl,be (fun e=>⟨⟨none,0,0⟩,rfl,g (by rw[e];rfl)⟩) fun w=>?_⟩;refine ai (fun e=>⟨⟨none,0,0⟩,rfl,g (by simp[bp];omega)⟩) fun V=>?_;refine ai (fun e=>⟨⟨none,0,0⟩,rfl,g (by simp[bp];omega)⟩) fun e2=>?_;have hid:bp id=true:=by simp[bp];omega
 rw[w,hid];refine⟨p,(k.box 0 rfl).aF _ rfl,(jw p s).mono ?_⟩;rintro v h3 ⟨rfl,P⟩;have K:=k.comp P;have H:=(bC p).1 w;have U:bn p=p.1+p.2.1:=by rw[bn,if_pos w]
 obtain⟨n,N⟩:∃n:Nat,bn p=n:=⟨(bn p).toNat,by omega⟩
 refine⟨_,rfl,?_⟩;dsimp only;rw[N,qp];refine(OH _ h3).mono ?_;rintro v S ⟨d,rfl,E⟩;refine⟨some d,rfl,?_⟩;refine(Ce d _ S (E.box 0 rfl)).mono ?_;rintro v M ⟨rfl,u,l⟩;have z:=E.nW 0 rfl l u;refine⟨_,rfl,?_⟩;refine(We n M (by omega) (by omega)).mono ?_;rintro v I ⟨t,rfl,o⟩;have f:=z.comp o;refine⟨t,rfl,?_⟩;have x:∀b,t.on b->b≠d.block:=fun b j T=>by
  have F:=(o.fresh 0 rfl).2 b j;have s:=(z.box 0 rfl).lt;omega
 refine(Hz t n d _ I ((o.own 0 rfl).seq (fun _=>rfl) x) (f.box 0 rfl) (by omega) (by omega)).mono ?_;rintro v Q ⟨rfl,m,y⟩;have B:=f.nW 0 rfl y m;refine⟨_,rfl,?_⟩;refine(YJ d _ n _ Q (B.box 0 rfl) (by omega) (pZ _ n)).mono ?_;rintro v h8 ⟨r,rfl,L⟩;have R:=B.call 0 rfl (fun b=>b=d.block) (fun q G b j=>by rw[j];exact G.2) L;exact⟨r,rfl,r,rfl,((K.comp R).take 3 (fun i A c=>by cases i with|zero=>exact c|succ i=>simp at c))⟩
end Go.Qw
