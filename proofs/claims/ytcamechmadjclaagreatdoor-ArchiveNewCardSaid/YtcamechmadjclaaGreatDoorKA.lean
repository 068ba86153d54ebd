/- Part of the proofs that the laws of this seat answer true whatever the input reads, and leave it as it was; no condition. -/
import Derived.Test.YtcamechmadjclaaGreatDoorTabS
import Derived.Test.YtcamechmadjclaaGreatDoorPlA
import Derived.Test.YtcamechmadjclaaGreatDoorPlB
import Derived.Test.YtcamechmadjclaaGreatDoorShelfA
import Derived.Test.YtcamechmadjclaaGreatDoorPlC
import Derived.Test.YtcamechmadjclaaGreatDoorPlD
import Derived.Test.YtcamechmadjclaaGreatDoorPlE
import Derived.Test.YtcamechmadjclaaGreatDoorPlF
set_option linter.unusedVariables false
set_option linter.unusedSimpArgs false
open Go.Proofs.Tryz renaming prog -> wS
open Go.Value renaming agg -> wN, bool -> wM, int -> wI, pointer -> wK, slice -> wJ, string -> wL
open Go.IntKind renaming bits -> ql, i64 -> wO, u32 -> wQ, u8 -> wP, wrap -> qa
open Option renaming isSome_iff_exists -> wb, map_some -> qQ, some -> zQ
open List renaming all_eq_false -> wu, all_eq_true -> qH, append_assoc -> qp, append_nil -> qU, drop_drop -> wq, drop_eq_getElem_cons -> qY, drop_of_length_le -> q9, exists_cons_of_length_eq_add_one -> zt, ext_getElem? -> zW, filter_cons -> wz, flatMap_append -> qy, flatMap_cons -> qF, flatMap_nil -> zC, getD_eq_getElem?_getD -> qj, getElem?_append_left -> qk, getElem?_append_right -> qf, getElem?_cons_succ -> qe, getElem?_eq_getElem -> qc, getElem?_eq_none -> qO, getElem?_eq_some_iff -> qn, getElem?_map -> qE, getElem?_range -> zi, getElem?_replicate -> wk, getElem?_set -> qN, getElem?_set_ne -> zL, getElem?_set_self -> zU, getElem?_zipWith -> zG, getElem_mem -> qt, length_append -> qu, length_cons -> qV, length_drop -> qG, length_filter_le -> zH, length_map -> qT, length_nil -> wg, length_set -> q8, length_take -> qx, map_append -> ze, map_cons -> zO, mem_append -> qZ, mem_cons -> zA, mem_cons_of_mem -> qX, mem_cons_self -> zg, mem_flatMap -> zB, mem_map -> zx, mem_of_getElem? -> zZ, mem_range -> q5, mem_singleton -> qz, range -> zf, replicate -> qd, set_append_right -> zb, set_cons_succ -> zF, take_length -> qK, take_of_length_le -> qi
open Nat renaming add_assoc -> z8, add_sub_cancel_left -> qW, le_refl -> qM, le_trans -> zw, lt_of_lt_of_le -> qv, min_eq_left -> zu, mul_le_mul -> wo, mul_le_mul_right -> qR, mul_one -> za, sub_self -> zT, succ_mul -> zS, zero_le -> zj
open BitVec renaming ofInt -> qq, ofInt_natCast -> zp, ofNat -> zK
open Int renaming fdiv -> qI, mul_le_mul -> wx, tdiv -> wC, tdiv_eq_ediv_of_nonneg -> zE, toNat_natCast -> qm
open Go.Instr renaming build -> zy, buildSlice -> qg, storeAt -> qb
open Go.Builtin renaming append_ -> qh
open Bool renaming and_eq_true -> qB, false_eq_true -> qJ, not_false -> zP, not_true -> zM, or_false -> wG, true_and -> wa
open Prod renaming fst -> qL, snd -> wE
open UInt8 renaming lt_iff_toNat_lt -> zc
open Array renaming getElem?_toList -> wy
set_option maxRecDepth 100000
namespace Go.Vc
open Go Wl
abbrev Cells:=List (List UInt8)
abbrev powC(w:Pow)(l:Int):List Value:=[wM w.off,wM w.fuse.isSome,wI wO l,wI wO w.offs]
def mN(w:Pow)(l:Int):Prop:=∀k,w.fuse=some k->l=k/\k<2^62
def bT(t:Nat)(a:Addr)(w:Pow):HP:=HP.ex fun l:Int=>(ao a t (powC w l)).and (mN w l)
section
variable {B:am} {h0 h h':Heap} {As:List HP} {t:Nat} {a:Addr} {w:Pow}
theorem aa.eJ(H:aa B h0 h (bT t a w::As)):∃l,mN w l/\aa B h0 h (ao a t (powC w l)::As):=by
 obtain⟨l,H⟩:=H.rl;obtain⟨H,b⟩:=H.oQ;exact⟨l,b,H⟩
theorem aa.gE{l:Int}(b:mN w l)(H:aa B h0 h (ao a t (powC w l)::As)):aa B h0 h (bT t a w::As):=
 (H.tooQ b).rQ (F:=fun l:Int=>(ao a t (powC w l)).and (mN w l)) l
end
end Go.Vc
namespace Go.Proofs.YtcamechmadjclaaGreatDoor
open Go Go.Vc Go.Proofs Wl
section
variable {B:am} {h0 h h':Heap} {As:List HP} {t:Nat} {a:Addr} {w:Pow}
theorem mO(l:Int)(b:bE h a aS (powC w l)):ac wS mT #[wK (some a)] h fun v h'=>v=wM (!w.off)/\h'=h:=by
 refine mo (some a) ?_;unfold jg;exact aN (fun _=>⟨a,rfl,w.off,b.cell0 rfl,rfl,rfl⟩) fun e=>by cases e
theorem mw(l:Int)(b:bE h a aS (powC w l)):ac wS lD #[wK (some a)] h fun v h'=>v=wI wO w.offs/\h'=h:=by
 refine kQ (some a) ?_;unfold gZ;exact aN (fun e=>by cases e) fun _=>⟨a,rfl,w.offs,b.cell rfl,rfl,rfl⟩
theorem uR(h:Heap):ac wS sg #[] h fun v h'=>∃a,v=wK (some a)/\Sp h h' [bT aS a Pow.new]:=by
 refine pR ?_;unfold nd;refine(Sp.refl h).boxed fun a c b=>⟨a,rfl,aa.gE (l:=0) (w:=Pow.new) (fun k e=>by cases e) b⟩
theorem pH(H:aa B h0 h (bT aS a w::As)):ac wS lN #[wK (some a)] h fun v h'=>v=wM w.step.1/\aa B h0 h' (bT aS a w.step.2::As):=by
 obtain⟨l,s,b⟩:=H.eJ;refine kY (some a) ?_;unfold ig;refine(mO l (b.box 0 rfl)).mono ?_;rintro _ u ⟨rfl,rfl⟩;refine⟨_,rfl,aK (fun e=>?_) (fun e=>?_)⟩
 ·have:w.step=(false,w):=by unfold Pow.step;rw[if_pos (by simpa using e)]
  rw[this];exact⟨rfl,H⟩
 have g:w.off=false:=by simpa using e
 refine⟨a,rfl,_,(b.box 0 rfl).cell rfl,aK (fun e2=>?_) (fun e2=>?_)⟩
 ·have:w.step=(true,w):=by
   unfold Pow.step;rw[if_neg (by simp[g])];cases d:w.fuse with
   |none=>rfl
   |some k=>rw[d]at e2;cases e2
  rw[this];exact⟨rfl,H⟩
 obtain⟨k,d⟩:∃k,w.fuse=some k:=wb.1 e2;obtain⟨rfl,x⟩:=s k d;have p:powC w (k:Int)=[wM false,wM true,wI wO k,wI wO w.offs]:=by simp[powC,g,d]
 rw[p]at b;refine⟨a,rfl,_,(b.box 0 rfl).cell rfl,bp (fun o=>?_) (fun o=>?_)⟩
 ·have m:k=0:=by omega
  subst m;have i:w.step=(false,⟨true,some 0,qa wO (w.offs+1)⟩):=by unfold Pow.step;rw[if_neg (by simp[g]),d]
  rw[i];refine⟨a,rfl,b.md ae 0 rfl rfl [wM true] rfl rfl rfl (by simp) fun y n=>?_⟩;refine⟨a,rfl,w.offs,(n.box 0 rfl).cell rfl,a,rfl,n.store ae 0 rfl rfl 3 [wI wO (qa wO (w.offs+1))] rfl rfl rfl (by simp[powC]) fun r f=>⟨rfl,?_⟩⟩;refine aa.gE (l:=((0:Nat):Int)) (fun t c=>by cases c;exact⟨rfl,by decide⟩) ?_;exact f
 ·obtain⟨j,rfl⟩:∃j,k=j+1:=⟨k-1,by omega⟩
  have i:w.step=(true,⟨false,some j,w.offs⟩):=by unfold Pow.step;rw[if_neg (by simp[g]),d]
  rw[i];refine⟨a,rfl,_,(b.box 0 rfl).cell rfl,a,rfl,b.store ae 0 rfl rfl 2 [wI wO (qa wO (((j+1:Nat):Int)-1))] rfl rfl rfl (by simp[powC]) fun r f=>⟨rfl,?_⟩⟩;refine aa.gE (l:=(j:Int)) (fun t c=>by cases c;exact⟨rfl,by omega⟩) ?_;rw[Go.Vc.wrap_small _ (by omega) (by omega)]at f;have q:((j+1:Nat):Int)-1=(j:Int):=by omega
  rw[q]at f;exact f
end
abbrev Pm:=Int×Int×Int
abbrev kC(p:Pm):Value:=wN #[wI wO p.1,wI wO p.2.1,wI wO p.2.2]
theorem jo(p:Pm)(h:Heap):ac wS tX #[kC p] h fun v h'=>v=wM (cV p)/\Sp h h' []:=by
 refine sK p ?_;unfold pE;refine(Sp.refl h).boxed fun a d g=>?_;have e:=g.box 0 rfl;have c:Sp h d []:=.zip g.ai;have j:cellOf d a=some (wI wO p.1):=e.cell0 rfl;have f:cellOf d (a.add 1)=some (wI wO p.2.1):=e.cell rfl;have i:cellOf d (a.add 2)=some (wI wO p.2.2):=e.cell rfl;unfold cV;refine⟨_,j,af (fun b=>?_) (fun b=>⟨by rw[decide_eq_false b];rfl,c⟩)⟩;rw[decide_eq_true b];refine⟨_,j,af (fun b=>?_) (fun b=>⟨by rw[decide_eq_false b];rfl,c⟩)⟩;rw[decide_eq_true b];refine⟨_,f,af (fun b=>?_) (fun b=>⟨by rw[decide_eq_false b];rfl,c⟩)⟩;rw[decide_eq_true b];refine⟨_,f,af (fun b=>?_) (fun b=>⟨by rw[decide_eq_false b];rfl,c⟩)⟩;rw[decide_eq_true b];refine⟨_,i,af (fun b=>?_) (fun b=>⟨by rw[decide_eq_false b];rfl,c⟩)⟩;rw[decide_eq_true b];exact⟨_,i,rfl,c⟩
abbrev jp:bk C.tokp vI aL 1 [wI wO 0] 8:=⟨_,_,rfl,rfl,rfl,rfl,rfl,rfl⟩
abbrev cJ:bk C.tokp bw aA 1 [wI wP 0] 1:=⟨_,_,rfl,rfl,rfl,rfl,rfl,rfl⟩
abbrev jL:bk C.tokp pQ bw 1 [wJ none 0 0] 24:=⟨_,_,rfl,rfl,rfl,rfl,rfl,rfl⟩
theorem gF(s:Sl)(l:List Int)(h:Heap)(a:Rd h s 1 ay l)(c:l.length<=2^30):ac wS jC #[wJ s.ptr s.len s.cap] h fun v h'=>∃r:Sl,v=wJ r.ptr r.len r.cap/\Sp h h' [au aL r 1 ay l]:=by
 refine ji s ?_;unfold fb;refine aN (fun e=>?_) (fun e=>?_)
 ·have:=a.isNil e;subst this;exact⟨⟨none,0,0⟩,rfl,(Sp.refl h).nil aL 1 ay⟩
 ·refine(Sp.refl h).lit ae ay jp rfl [] rfl (by decide) rfl fun g j b=>?_;refine b.append ae 0 rfl jp ⟨_,_,rfl,rfl⟩ rfl (by decide) (fun _=>rfl) (a.up b.ai) gq (by simp;omega) fun d i f=>⟨d,rfl,f⟩
theorem kg(s:Sl)(l:List UInt8)(h:Heap)(a:Rd h s 1 aF l)(c:l.length<=2^30):ac wS oW #[wJ s.ptr s.len s.cap] h fun v h'=>∃r:Sl,v=wJ r.ptr r.len r.cap/\Sp h h' [au aA r 1 aF l]:=by
 refine oh s ?_;unfold lu;refine aN (fun e=>?_) (fun e=>?_)
 ·have:=a.isNil e;subst this;exact⟨⟨none,0,0⟩,rfl,(Sp.refl h).nil aA 1 aF⟩
 ·refine(Sp.refl h).lit ae aF cJ rfl [] rfl (by decide) rfl fun g j b=>?_;refine b.append ae 0 rfl cJ ⟨_,_,rfl,rfl⟩ rfl (by decide) (fun _=>rfl) (a.up b.ai) cg (by simp;omega) fun d i f=>⟨d,rfl,f⟩
theorem uS{e:TypeId}(s:Sl)(l:List Int)(h:Heap)(c:Own h e s 1 ay l)(a:l.length<2^40):ac wS kd #[wJ s.ptr s.len s.cap] h fun v h'=>v=.tuple #[]/\Own h' e s 1 ay (fh l)/\ax (fun b=>¬s.on b) h h':=
 rU Tryz.slices_Sort_int Tryz.slices_Sort_int_none c a
theorem cm(x n:Int)(h:Heap)(a:0<n)(e:n<=2^62):ac wS jb #[wI wO x,wI wO n] h fun v h'=>v=wI wO (x%n)/\h'=h:=by
 refine iG x n ?_;unfold eM;have g:=Int.tmod_lt_of_pos x a;have f:-n<x.tmod n:=Int.lt_tmod_of_pos x a;have d:=vE x n a;refine⟨by omega,aG ?_⟩;refine af (fun c=>?_) (fun b=>?_)
 ·rw[wrap_small _ (by omega) (by omega)];exact⟨by rw[d,if_pos c],rfl⟩
 ·exact⟨by rw[d,if_neg b],rfl⟩
theorem ou{p q:am}(a b:Sl)(c g:Row)(h:Heap)(o:Seq h p a 1 aF c)(r:Seq h q b 1 aF g)(w:c.length<=2^40):
  ac wS hY #[wJ a.ptr a.len a.cap,wJ b.ptr b.len b.cap] h fun v h'=>v=wM (decide (c=g))/\h'=h:=by
 refine gz a b ?_;unfold dX;have n:=o.len;have j:=r.len;refine bq (fun d=>⟨?_,rfl⟩) (fun l=>?_)
 ·rw[decide_eq_false (fun e=>d (by rw[n,j,e]))]
 ·refine aB (fun k:Nat=>(k:Int)) (fun k h'=>h'=h/\k<=c.length/\c.take k=g.take k) (fun k=>c.length-k) 0 rfl ⟨rfl,by omega,by simp⟩ ?_;rintro k h' ⟨rfl,x,m⟩;refine af (fun u=>?_) (fun t=>?_)
  ·have i:k<c.length:=by omega
   have f:k<g.length:=by omega
   refine o.cd k rfl i _ rfl ?_;refine r.cd k rfl f _ rfl ?_;refine bq (fun d=>⟨?_,rfl⟩) (fun l=>?_)
   ·rw[decide_eq_false];intro e;subst e;exact d rfl
   ·rw[wrap_small _ (by omega) (by omega)];have s:c[k]=g[k]:=UInt8.toNat_inj.1 (by omega);exact⟨k+1,by simp,⟨rfl,by omega,by rw[aD _ _ i,aD _ _ f,m,s]⟩,by omega⟩
  ·have:k=c.length:=by omega
   subst this;rw[qi (by omega),qi (by omega)]at m;exact⟨by rw[decide_eq_true m],rfl⟩
theorem eT.take{α:Type}{h:Heap}{s:Sl}{k:Nat}{f:α->List Value}{c:List (List α)}(a:eT h s k f c)(n:Nat)(g:n<=c.length):eT h ⟨s.ptr,n,s.cap⟩ k f (c.take n):=by
 obtain⟨rs,a⟩:=a;have j:=a.len;refine⟨rs.take n,a.top.take n (by omega),by simp;omega,fun i r l b d=>?_⟩;rw[List.getElem?_take]at b d;split at b
 ·rename_i e;rw[if_pos e]at d;exact a.row i r l b d
 ·cases b
end Go.Proofs.YtcamechmadjclaaGreatDoor
namespace Wl
structure cr (d:aU):Prop where
 wait:d.wait<=d.l.length
 len:d.l.length<=d.room
 room:d.room<=512
 cell:∀c∈d.l,c.length=64
 laid:d.laid.length<=d.room
 cellL:∀c∈d.laid,c.length=64
section
variable {d:aU} {w:Pow} {b:List UInt8}
theorem cr.new{n:Nat}(h:n<=512):cr (aU.new n):=⟨qM _,zj _,h,by simp[aU.new],zj _,by simp[aU.new]⟩
theorem cr.append(h:cr d):cr (d.append w b).2.2:=by
 obtain⟨k,j,e,i,g,f⟩:=h;unfold aU.append;split
 ·exact⟨k,j,e,i,g,f⟩
 ·rename_i n;split
  ·exact⟨k,j,e,i,g,f⟩
  ·split
   ·exact⟨k,j,e,i,g,f⟩
   ·rename_i m;split
    ·exact⟨k,j,e,i,g,f⟩
    ·have a:∀c∈d.l++[b],c.length=64:=fun c a=>by
      rcases qZ.1 a with a|a
      ·exact i c a
      ·rw[qz.1 a];omega
     split
     ·exact⟨by simp;omega,by simp;omega,e,a,zj _,by simp⟩
     ·exact⟨by simp;omega,by simp;omega,e,a,g,f⟩
theorem cr.sync(h:cr d):cr (d.sync w).2.2:=by
 obtain⟨g,a,b,c,f,e⟩:=h;unfold aU.sync;split
 ·exact⟨g,a,b,c,f,e⟩
 ·split
  ·exact⟨zj _,a,b,c,zj _,by simp⟩
  ·exact⟨g,a,b,c,f,e⟩
theorem cr.rewrite{l:List (List UInt8)}(h:cr d):cr (d.rewrite w l).2.2:=by
 obtain⟨f,e,a,b,i,g⟩:=h;unfold aU.rewrite;split
 ·exact⟨f,e,a,b,i,g⟩
 ·rename_i j;have j:∀c∈l,c.length=64:=by simpa using j
  split
  ·exact⟨f,e,a,b,i,g⟩
  ·split
   ·exact⟨f,e,a,b,i,g⟩
   ·split
    ·exact⟨f,e,a,b,i,g⟩
    ·split
     ·exact⟨zj _,by dsimp only;omega,a,j,zj _,by simp⟩
     ·exact⟨f,e,a,b,by dsimp only;omega,j⟩
end
end Wl
namespace Go.Vc
open Go Wl Go.Proofs.YtcamechmadjclaaGreatDoor
abbrev bH(s:Sl)(l:Cells):HP:=iC bw s aA 1 aF l
def dF(t:Nat)(f:aU->Sl->Sl->List Value)(a:Addr)(d:aU):HP:=
 (HP.ex fun b:Sl×Sl=>(ao a t (f d b.1 b.2)).sep ((bH b.1 d.l).sep (bH b.2 d.laid))).and (cr d)
section
variable {B:am} {h0 h h':Heap} {As:List HP} {t:Nat} {f:aU->Sl->Sl->List Value} {a:Addr} {d:aU}
theorem aa.mP(H:aa B h0 h (dF t f a d::As)):cr d/\∃s b:Sl,aa B h0 h (ao a t (f d s b)::bH s d.l::bH b d.laid::As):=by
 obtain⟨H,ok⟩:=H.oQ;obtain⟨c,H⟩:=H.rl;exact⟨ok,c.1,c.2,H.rR.rR.aV 3 [2,1,0]⟩
theorem aa.ff{s b:Sl}(ok:cr d)(H:aa B h0 h (ao a t (f d s b)::bH s d.l::bH b d.laid::As)):aa B h0 h (dF t f a d::As):=
 ((((H.aV 3 [2,1,0]).jK).jK).rQ (F:=fun c:Sl×Sl=>(ao a t (f d c.1 c.2)).sep ((bH c.1 d.l).sep (bH c.2 d.laid))) (s,b)).tooQ ok
end
end Go.Vc
namespace Go.Proofs.YtcamechmadjclaaGreatDoor
open Go Go.Vc Go.Proofs Wl
abbrev eb(pw:Addr)(d:aU)(s b:Sl):List Value:=[wK (some pw),wI wO d.room,wJ s.ptr s.len s.cap,wI wO d.wait,wJ b.ptr b.len b.cap,wM d.has,wM d.lost]
abbrev gG(pw a:Addr)(d:aU):HP:=dF bL (eb pw) a d
section
variable {B:am} {h0 h h':Heap} {As:List HP} {a pw:Addr} {d:aU} {w:Pow}
theorem ua(n:Int)(pw:Addr)(h:Heap):ac wS sh #[wI wO n,wK (some pw)] h fun v h'=>
  (1<=n/\n<=512->∃a,v=wK (some a)/\Sp h h' [gG pw a (aU.new n.toNat)])/\(¬(1<=n/\n<=512)->v=wK none/\Sp h h' []):=by
 refine pT n (some pw) ?_;unfold ne;refine aG (af (fun e=>⟨fun c=>absurd c (by omega),fun _=>⟨rfl,Sp.refl h⟩⟩) fun g=>af (fun e=>⟨fun c=>absurd c (by omega),fun _=>⟨rfl,Sp.refl h⟩⟩) fun e2=>aN (fun e=>by cases e) fun _=>?_);refine(Sp.refl h).boxed fun a i d=>⟨fun _=>⟨a,rfl,?_⟩,fun c=>absurd (by omega) c⟩
 refine aa.ff (s:=⟨none,0,0⟩) (b:=⟨none,0,0⟩) (cr.new (by omega)) ?_;have e:((n.toNat:Nat):Int)=n:=by omega
 have f:=((d.jX bw aA 1 aF).jX bw aA 1 aF).aV 3 [2,1,0];have e2:eb pw (aU.new n.toNat) ⟨none,0,0⟩ ⟨none,0,0⟩=[wK (some pw),wI wO n,wJ none 0 0,wI wO 0,wJ none 0 0,wM false,wM false]:=by
  simp only[eb,aU.new,e];rfl
 rw[e2];exact f
theorem pI(s b:Sl)(c:aU)(H:aa B h0 h (ao a bL (eb pw d s b)::bH s d.l::bH b d.laid::bT aS pw w::As))(ok:cr d)(e:c={d with laid:=[],has:=false}):
  ac wS lO #[wK (some a)] h fun v h'=>v=wI wO 0/\aa B h0 h' (gG pw a c::bT aS pw w::As):=by
 refine kZ (some a) ?_;unfold ij;refine⟨a,rfl,H.store ae 0 rfl rfl 4 [wJ none 0 0] rfl rfl rfl (by simp[eb]) fun i g=>?_⟩;refine⟨a,rfl,g.store ae 0 rfl rfl 5 [wM false] rfl rfl rfl (by simp[eb]) fun j f=>⟨rfl,?_⟩⟩;subst e;refine aa.ff (s:=s) (b:=⟨none,0,0⟩) ⟨ok.wait,ok.len,ok.room,ok.cell,zj _,by simp⟩ ?_;exact((f.jX bw aA 1 aF).aV 5 [1,2,0,4])
theorem sS(x:Sl)(row:List UInt8)(H:aa B h0 h (gG pw a d::bT aS pw w::As))(N:Rd h x 1 aF row)(hr:row.length<=2^20):
  ac wS fx #[wK (some a),wJ x.ptr x.len x.cap] h fun v h'=>v=wI wO (d.append w row).1/\aa B h0 h' (gG pw a (d.append w row).2.2::bT aS pw (d.append w row).2.1::As):=by
 refine fa (some a) x ?_;unfold dQ;have U:=N.len;obtain⟨ok,s,b,D⟩:=H.mP;have z:=D.box 0 rfl;obtain⟨R,_⟩:=aa.oR (D.aV 4 [1]);have L:=ok.room;have P:=ok.len;have M:=ok.wait;have g:∀(e:Int),d.append w row=(e,w,d)->(Value.int .i64 e=wI wO (d.append w row).1/\aa B h0 h (gG pw a (d.append w row).2.2::bT aS pw (d.append w row).2.1::As)):=fun e Q=>by
  rw[Q];exact⟨rfl,H⟩
 refine aG (bq (fun e=>g 1 (by unfold aU.append;rw[if_pos (by omega)])) fun X=>?_);have n:row.length=64:=by omega
 refine aG (aN (fun e=>by cases e) fun _=>⟨a,rfl,d.lost,z.cell rfl,aN (fun e=>g 5 ?_) fun f=>?_⟩)
 ·unfold aU.append;rw[if_neg (by omega),if_pos e]
 refine⟨a,rfl,s,z.cell rfl,a,rfl,(d.room:Int),z.cell rfl,af (fun e=>g 7 ?_) fun J=>?_⟩
 ·unfold aU.append;rw[if_neg (by omega),if_neg (by simp[f]),if_pos (by omega)]
 obtain⟨l,hl,K⟩:=(D.aV 4 [3,0,1,2]).eJ;refine⟨a,rfl,some pw,z.cell0 rfl,(mO l (K.box 0 rfl)).mono ?_⟩;rintro _ Y ⟨rfl,rfl⟩;refine⟨_,rfl,aK (fun e=>g 14 ?_) fun t=>?_⟩
 ·unfold aU.append;rw[if_neg (by omega),if_neg (by simp[f]),if_neg (by omega),if_pos (by simpa using e)]
 have j:w.off=false:=by simpa using t
 refine aG ⟨a,rfl,s,z.cell rfl,(kg x row Y N (by omega)).mono ?_⟩;rintro _ h4 ⟨r,rfl,T⟩;have E:=(D.dO T).aV 5 [2,0,1,3,4];have p:=E.box 2 rfl;refine⟨r,rfl,⟨p.cell rfl,trivial⟩,?_⟩;have W:=E;refine E.iN ae dU jL rfl [r] rfl (show 1*1<=2^20 by decide) rfl ⟨p.cell rfl,trivial⟩ ?_;refine E.nV ae jL (by omega) fun m h6 F=>⟨trivial,?_⟩
 have F:=F.aV 4 [1,0,2,3];refine⟨a,rfl,F.store ae 0 rfl rfl 2 [wJ m.ptr m.len m.cap] rfl rfl rfl (by simp[eb]) fun Z O=>⟨trivial,?_⟩⟩;have I:=O.box 0 rfl;refine⟨a,rfl,(d.wait:Int),I.cell rfl,a,rfl,?_⟩;rw[Go.Vc.wrap_small ((d.wait:Int)+1) (by omega) (by omega)];refine O.store ae 0 rfl rfl 3 [wI wO ((d.wait:Int)+1)] rfl rfl rfl (by simp[eb]) fun h8 S=>?_;obtain⟨i,k⟩:∃i:aU,i={d with l:=d.l++[row],wait:=d.wait+1}:=⟨_,rfl⟩
 have y:cr i:=by
  subst k;refine⟨by simp;omega,by simp;omega,ok.room,fun c u=>?_,ok.laid,ok.cellL⟩;rcases qZ.1 u with u|u
  ·exact ok.cell c u
  ·rw[qz.1 u];exact n
 have o:aa B h0 h8 (ao a bL (eb pw i m b)::bH m i.l::bH b i.laid::bT aS pw w::As):=by rw[k];exact S
 refine⟨a,rfl,some pw,(o.box 0 rfl).cell0 rfl,(pH (o.aV 4 [3,0,1,2])).mono ?_⟩;rintro _ h9 ⟨rfl,A⟩;have A:=A.aV 4 [1,2,3,0];have q:d.append w row=if w.step.1 then(0,w.step.2,{i with laid:=[],has:=false})else(14,w.step.2,i):=by
  rw[k];unfold aU.append;rw[if_neg (by omega),if_neg (by simp[f]),if_neg (by omega),if_neg (by simp[j])]
 rw[q];refine⟨_,rfl,aK (fun e=>?_) (fun e=>?_)⟩
 ·rw[e];exact⟨rfl,A.ff y⟩
 ·rw[e];refine(pI m b _ A y rfl).mono ?_;rintro _ V ⟨rfl,G⟩;exact⟨0,rfl,rfl,G⟩
theorem pd(x:Sl)(row:List UInt8)(h:Heap)(a:Rd h x 1 aF row):ac wS fx #[wK none,wJ x.ptr x.len x.cap] h fun v h'=>v=wI wO (if row.length≠64 then 1 else 5)/\h'=h:=by
 refine fa none x ?_;unfold dQ;have b:=a.len;refine aG (bq (fun e=>⟨by rw[if_pos (by omega)],rfl⟩) fun e=>?_);exact aG (aN (fun _=>⟨by rw[if_neg (by omega)],rfl⟩) fun e=>by cases e)
theorem uT(H:aa B h0 h (gG pw a d::bT aS pw w::As)):
  ac wS gj #[wK (some a)] h fun v h'=>v=wI wO (d.sync w).1/\aa B h0 h' (gG pw a (d.sync w).2.2::bT aS pw (d.sync w).2.1::As):=by
 refine fQ (some a) ?_;unfold eD;obtain⟨ok,s,b,i⟩:=H.mP;have j:=i.box 0 rfl;refine aG (aN (fun e=>by cases e) fun _=>⟨a,rfl,d.lost,j.cell rfl,aN (fun e=>?_) fun c=>?_⟩)
 ·have:d.sync w=(5,w,d):=by unfold aU.sync;rw[if_pos e]
  rw[this];exact⟨rfl,H⟩
 refine⟨a,rfl,some pw,j.cell0 rfl,(pH (i.aV 4 [3,0,1,2])).mono ?_⟩;rintro _ n ⟨rfl,g⟩;have g:=g.aV 4 [1,2,3,0];have f:d.sync w=if w.step.1 then(0,w.step.2,{{d with wait:=0}with laid:=[],has:=false})else(14,w.step.2,d):=by
  unfold aU.sync;rw[if_neg (by simp[c])]
 rw[f];refine⟨_,rfl,aK (fun e=>?_) (fun e=>?_)⟩
 ·rw[e];exact⟨rfl,g.ff ok⟩
 ·rw[e];refine⟨a,rfl,g.store ae 0 rfl rfl 3 [wI wO 0] rfl rfl rfl (by simp[eb]) fun m k=>?_⟩;refine(pI (d:={d with wait:=0}) s b _ k ⟨zj _,ok.len,ok.room,ok.cell,ok.laid,ok.cellL⟩ rfl).mono ?_;rintro _ o ⟨rfl,l⟩;exact⟨0,rfl,rfl,l⟩
theorem su(h:Heap):ac wS gj #[wK none] h fun v h'=>v=wI wO 5/\h'=h:=by
 refine fQ none ?_;unfold eD;exact aG (aN (fun _=>⟨rfl,rfl⟩) fun e=>by cases e)
theorem gG.box(H:aa B h0 h (gG pw a d::As)):∃s b:Sl,bE h a bL (eb pw d s b)/\eT h s 1 aF d.l/\s.len=d.l.length:=by
 obtain⟨ok,s,b,c⟩:=H.mP;exact⟨s,b,c.box 0 rfl,(c.aV 3 [1]).xA fun _=>rfl,(aa.oR (c.aV 3 [1])).1⟩
theorem uU(s b:Sl)(c:bE h a bL (eb pw d s b)):ac wS lI #[wK (some a)] h fun v h'=>v=wI wO d.room/\h'=h:=by
 refine kV (some a) ?_;unfold ia;exact aN (fun e=>by cases e) fun _=>⟨a,rfl,_,c.cell rfl,rfl,rfl⟩
theorem uV(s b:Sl)(f:bE h a bL (eb pw d s b))(c:s.len=d.l.length):ac wS mq #[wK (some a)] h fun v h'=>v=wI wO (d.l.length:Int)/\h'=h:=by
 refine lH (some a) ?_;unfold iz;exact aN (fun e=>by cases e) fun _=>⟨a,rfl,_,f.cell rfl,by rw[c],rfl⟩
theorem uW(s b:Sl)(c:bE h a bL (eb pw d s b)):ac wS ka #[wK (some a)] h fun v h'=>v=wI wO d.wait/\h'=h:=by
 refine jA (some a) ?_;unfold fw;exact aN (fun e=>by cases e) fun _=>⟨a,rfl,_,c.cell rfl,rfl,rfl⟩
theorem pJ(s b:Sl)(c:bE h a bL (eb pw d s b)):ac wS lK #[wK (some a)] h fun v h'=>v=wM d.lost/\h'=h:=by
 refine kW (some a) ?_;unfold ib;exact aN (fun _=>⟨a,rfl,_,c.cell rfl,rfl,rfl⟩) fun e=>by cases e
theorem uX(s b:Sl)(i:Int)(m:bE h a bL (eb pw d s b))(k:eT h s 1 aF d.l)(p:∀c∈d.l,c.length=64):ac wS lG #[wK (some a),wI wO i] h fun v h'=>∃r:Sl,v=wJ r.ptr r.len r.cap/\Sp h h' [au aA r 1 aF (if 0<=i then d.l.getD i.toNat []else[])]:=by
 refine kU (some a) i ?_;unfold hZ;have n:=k.len;have f:(if 0<=i then d.l.getD i.toNat []else[])=[]->∃r:Sl,Value.slice none 0 0=wJ r.ptr r.len r.cap/\Sp h h [au aA r 1 aF (if 0<=i then d.l.getD i.toNat []else[])]:=fun e=>by
  rw[e];exact⟨⟨none,0,0⟩,rfl,(Sp.refl h).nil aA 1 aF⟩
 refine aG (aN (fun e=>by cases e) fun _=>af (fun e=>f (by rw[if_neg (by omega)])) fun t=>⟨a,rfl,s,m.cell rfl,af (fun e=>f ?_) fun e2=>?_⟩)
 ·rw[if_pos (by omega),qj,qO (by omega)];rfl
 ·refine⟨a,rfl,s,m.cell rfl,k.get i.toNat (by omega) (by omega) fun r q=>?_⟩;have g:i.toNat<d.l.length:=by omega
  have:=p _ (qt g);refine(kg r _ h q (by omega)).mono ?_;rintro _ u ⟨j,rfl,o⟩;rw[if_pos (by omega),getD_lt g];exact⟨j,rfl,j,rfl,o⟩
theorem vK(l:Sl)(a:Cells)(h:Heap)(f:eT h l 1 aF a)(u:a.length<=2^20)(o:∀c∈a,c.length<=2^20):ac wS so #[wJ l.ptr l.len l.cap] h fun v h'=>∃r:Sl,v=wJ r.ptr r.len r.cap/\Sp h h' [bH r a]:=by
 refine pW l ?_;unfold ni;have q:=f.len;refine aB (fun t:Sl×Nat=>(t.1,(t.2:Int))) (fun t h'=>t.2<=a.length/\Sp h h' [bH t.1 (a.take t.2)]) (fun t=>a.length-t.2) (⟨none,0,0⟩,0) rfl ⟨by simp,by simpa using(Sp.refl h).jX bw aA 1 aF⟩ ?_;rintro⟨s,i⟩ m ⟨x,d⟩;dsimp only at*;refine af (fun e=>?_) (fun e=>?_)
 ·have b:i<a.length:=by omega
  refine(f.up d.ai).get i rfl b fun r p=>?_;have:=o _ (qt b);refine(kg r _ m p (by omega)).mono ?_;rintro _ y ⟨j,rfl,n⟩;refine⟨j,rfl,?_⟩;refine aa.nV ae (d.comp n) jL (by simp;omega) fun k w g=>?_;refine⟨(k,i+1),by dsimp only;rw[Go.Vc.wrap_small _ (by omega) (by omega)];rfl,⟨by dsimp only;omega,?_⟩,by dsimp only;omega⟩;dsimp only;rw[aD _ _ b];exact g
 ·rw[qi (by omega)]at d;exact⟨s,rfl,d⟩
theorem vL(s b:Sl)(g:bE h a bL (eb pw d s b))(i:eT h s 1 aF d.l)(ok:cr d):ac wS mr #[wK (some a)] h fun v h'=>∃r:Sl,v=wJ r.ptr r.len r.cap/\Sp h h' [bH r d.l]:=by
 refine lJ (some a) ?_;unfold iA;have:=ok.len;have:=ok.room;refine aN (fun e=>by cases e) fun _=>⟨a,rfl,s,g.cell rfl,(vK s d.l h i (by omega) fun c j=>by rw[ok.cell c j];decide).mono ?_⟩
 rintro _ k ⟨r,rfl,f⟩;exact⟨r,rfl,r,rfl,f⟩
end
theorem vM(b:Sl)(l:List UInt8)(h:Heap)(p:Rd h b 1 aF l)(A:l.length<=2^40):ac wS tZ #[wJ b.ptr b.len b.cap] h fun v h'=>v=wI wQ (mj l).toNat/\h'=h:=by
 refine sR b ?_;unfold pG;have B:=p.len;refine aB (fun t:Nat=>(((ee (l.take t)).toNat:Int),(t:Int))) (fun t h'=>t<=l.length/\h'=h) (fun t=>l.length-t) 0 rfl ⟨by omega,rfl⟩ ?_;rintro i y ⟨E,rfl⟩;refine af (fun e=>?_) (fun e=>?_)
 ·have d:i<l.length:=by
   have z:(i:Int)<(b.len:Int):=e;omega
  refine p.cd i rfl d (l[i].toNat:Int) rfl ?_;have u:qa wQ (l[i].toNat:Int)=((zK 32 l[i].toNat).toNat:Int):=by rw[pB,zp]
  rw[u,mL];refine aB (fun k:Nat=>(((ft k (ee (l.take i)^^^zK 32 l[i].toNat)).toNat:Int),(k:Int))) (fun k h'=>k<=8/\h'=y) (fun k=>8-k) 0 rfl ⟨by omega,rfl⟩ ?_;rintro k q ⟨D,rfl⟩;obtain⟨c,j⟩:∃c,c=ft k (ee (l.take i)^^^zK 32 l[i].toNat):=⟨_,rfl⟩
  dsimp only;rw[<-j];refine af (fun e2=>⟨by decide,?_⟩) (fun e2=>?_)
  ·have a:∀n:gg,n=iU c->∃f:Nat,(((n.toNat:Nat):Int),qa wO ((k:Int)+1))=(((ft f (ee (l.take i)^^^zK 32 l[i].toNat)).toNat:Int),(f:Int))/\(f<=8/\q=q)/\8-f<8-k:=fun n w=>
    ⟨k+1,by rw[Go.Vc.wrap_small _ (by omega) (by omega),w,j];rfl,⟨by omega,rfl⟩,by omega⟩
   have r:qa wQ ((qq (ql wQ) (c.toNat:Int)&&&qq (ql wQ) (1:Int)).toNat:Nat)=((c&&&1#32).toNat:Int):=wn c 1#32;have x:qa wQ ((qq (ql wQ) ((c>>>1).toNat:Int)^^^qq (ql wQ) (3988292384:Int)).toNat:Nat)=(((c>>>1)^^^3988292384#32).toNat:Int):=mL (c>>>1) 3988292384#32;rw[r,tw,x];refine bp (fun m=>a _ ?_) (fun m=>a _ ?_)
   ·unfold iU;rw[if_pos ((mM c).1 m)]
   ·unfold iU;rw[if_neg (fun s=>m ((mM c).2 s))]
  ·have o:k=8:=by omega
   subst o;refine⟨i+1,?_,⟨by omega,rfl⟩,by omega⟩;rw[Go.Vc.wrap_small _ (by omega) (by omega),aD _ _ d,nX,j];rfl
 ·have g:i=l.length:=by
   have z:¬(i:Int)<(b.len:Int):=e;omega
  subst g;refine⟨?_,rfl⟩;rw[qK];exact congrArg (Value.int .u32) (mL 4294967295#32 (ee l))
theorem uY(a:Int)(b:Sl)(l:List UInt8)(h:Heap)(B:Rd h b 1 aF l)(Q:l.length<=2^40):ac wS sQ #[wI wO a,wJ b.ptr b.len b.cap] h fun v h'=>∃r:Sl,v=wJ r.ptr r.len r.cap/\Sp h h' [au aA r 1 aF (cw a l)]:=by
 refine sq a b ?_;unfold oo;have R:=B.len;have g:¬(1<=a/\a<=255/\l.length<=55)->∃r:Sl,Value.slice none 0 0=wJ r.ptr r.len r.cap/\Sp h h [au aA r 1 aF (cw a l)]:=fun e=>by
  unfold cw;rw[if_neg e];exact⟨⟨none,0,0⟩,rfl,(Sp.refl h).nil aA 1 aF⟩
 refine aG (af (fun e=>g (by omega)) fun P=>af (fun e=>g (by omega)) fun e2=>af (fun e=>g (by omega)) fun N=>?_);refine(Sp.refl h).make ae aF cJ (by decide) 0 rfl rfl 64 64 rfl rfl (qM _) (by decide) fun o D s p F=>?_;rw[aT];refine F.lit ae aF cJ rfl [87,115,1,b8 a] rfl (show 4*1<=2^20 by decide) rfl fun v3 y w=>?_;refine w.rO ae 0 rfl cJ (fun _=>rfl) (w.seq 1 rfl fun _=>rfl) cg fun _ u k=>⟨⟨by decide,by rw[s];decide⟩,?_⟩
 have k:Sp h u [au aA o 1 aF ([87,115,1,b8 a]++qd 60 0)]:=by
  have:=k.cH [0];simpa using this
 refine k.rV ae 0 rfl cJ (fun _=>rfl) (Seq.up B k.ai) cg 4 (by simp) rfl rfl fun _ x m=>⟨⟨by decide,by rw[p];decide⟩,?_⟩
 have J:([87,115,1,b8 a]++qd 60 0).take 4++(l.take (([87,115,1,b8 a]++qd 60 (0:UInt8)).length-4)++([87,115,1,b8 a]++qd 60 0).drop (4+l.length))=bF a l++qd 5 0:=by
  have H:([87,115,1,b8 a]++qd 60 (0:UInt8)).length=64:=by simp
  rw[H,qi (l:=l) (by omega),<-wq];have D:([87,115,1,b8 a]++qd 60 (0:UInt8)).drop 4=qd 60 0:=rfl;have y:([87,115,1,b8 a]++qd 60 (0:UInt8)).take 4=[87,115,1,b8 a]:=rfl;rw[D,y,List.drop_replicate];unfold bF;have u:qd (60-l.length) (0:UInt8)=qd (55-l.length) 0++qd 5 0:=by rw[List.replicate_append_replicate];congr 1;omega
  rw[u];simp[qp]
 rw[J]at m;have d:(bF a l).length=59:=iV (by omega);have I:Rd x ⟨o.ptr,59,o.cap⟩ 1 aF (bF a l):=by
  have:=(m.seq 0 rfl fun _=>rfl).take 59 (by simp[d]);rw[List.take_append_of_le_length (by omega),qi (by omega)]at this;exact this
 refine(vM ⟨o.ptr,59,o.cap⟩ (bF a l) x I (by omega)).mono ?_;rintro _ S ⟨rfl,rfl⟩;obtain⟨c,z⟩:∃c,c=mj (bF a l):=⟨_,rfl⟩
 rw[<-z];refine⟨_,rfl,?_⟩;refine aB (fun i:Nat=>(i:Int)) (fun i h'=>i<=4/\Sp h h' [au aA o 1 aF (bF a l++((gu c).take i++qd (5-i) 0))]) (fun i=>4-i) 0 rfl ⟨by omega,by simpa using m⟩ ?_;rintro i O ⟨T,A⟩;have f:=rX c;refine af (fun e=>?_) (fun e=>?_)
 ·have M:i<4:=by
   have K:(i:Int)<4:=e;omega
  rw[Go.Vc.wrap_small ((8:Int)*i) (by omega) (by omega),Go.Vc.wrap_small ((59:Int)+i) (by omega) (by omega)];refine⟨by omega,?_⟩;have E:((8:Int)*(i:Int)).toNat=8*i:=by omega
  have G:min (8*i) (ql wQ)=8*i:=by
   have:ql wQ=32:=rfl;omega
  rw[E,G,aT];have L:b8 (qI (c.toNat:Int) (2^(8*i)))=(gu c)[i]'(by omega):=by simp[gu]
  rw[L];refine A.set ae 0 rfl (fun _=>rfl) rfl (59+i) (by omega) (by simp[d];omega) ((gu c)[i]'(by omega)) rfl rfl rfl fun h8 j=>?_;refine⟨i+1,by rw[Go.Vc.wrap_small _ (by omega) (by omega)];rfl,⟨by omega,?_⟩,by omega⟩;have q:(bF a l++((gu c).take i++qd (5-i) 0)).set (59+i) ((gu c)[i]'(by omega))=bF a l++((gu c).take (i+1)++qd (5-(i+1)) 0):=by
   rw[zb _ _ (by omega),d,qW,zb _ _ (by simp;omega),aD _ _ (by omega)];have:5-i=(5-(i+1))+1:=by omega
   rw[this,List.replicate_succ];simp[f,zu (show i<=4 by omega)];rw[aD _ _ (show i<(gu c).length by omega),qp];rfl
  rw[q]at j;exact j
 ·have n:i=4:=by
   have K:¬(i:Int)<4:=e;omega
  subst n;refine A.set ae 0 rfl (fun _=>rfl) rfl 63 rfl (by simp[d,f]) 165 rfl rfl rfl fun h8 j=>⟨o,rfl,?_⟩
  have t:(bF a l++((gu c).take 4++qd (5-4) 0)).set 63 165=cw a l:=by
   unfold cw;rw[if_pos ⟨by omega,by omega,by omega⟩,<-z,qi (by omega),zb _ _ (by omega),d,zb _ _ (by simp[f])];simp[f]
  rw[t]at j;exact j
end Go.Proofs.YtcamechmadjclaaGreatDoor
namespace Go.Vc
open Go Wl
abbrev kh:=ByteArray×Int×Int×Sl
abbrev bn:=Int×Int×Int×Int×Int×Int×Sl×Sl
abbrev bD(x:kh):List Value:=[wL x.1,wI wO x.2.1,wI wO x.2.2.1,wJ x.2.2.2.ptr x.2.2.2.len x.2.2.2.cap]
abbrev aE(x:bn):List Value:=[wI wO x.1,wI wO x.2.1,wI wO x.2.2.1,wI wO x.2.2.2.1,wI wO x.2.2.2.2.1,wI wO x.2.2.2.2.2.1,wJ x.2.2.2.2.2.2.1.ptr x.2.2.2.2.2.2.1.len x.2.2.2.2.2.2.1.cap,wJ x.2.2.2.2.2.2.2.ptr x.2.2.2.2.2.2.2.len x.2.2.2.2.2.2.2.cap]
abbrev cE(x:bn):Value:=wN #[wI wO x.1,wI wO x.2.1,wI wO x.2.2.1,wI wO x.2.2.2.1,wI wO x.2.2.2.2.1,wI wO x.2.2.2.2.2.1,wJ x.2.2.2.2.2.2.1.ptr x.2.2.2.2.2.2.1.len x.2.2.2.2.2.2.1.cap,wJ x.2.2.2.2.2.2.2.ptr x.2.2.2.2.2.2.2.len x.2.2.2.2.2.2.2.cap]
def uZ:iy kh Wl.dd:=⟨fun h q a b=>(a.1=b.name/\a.2.1=b.object/\a.2.2.1=b.length)/\Seq h q a.2.2.2 1 ay b.tries,fun a c=>⟨a.1,a.2.ai c⟩,fun a d=>⟨a.1,a.2.mono d⟩⟩
abbrev mQ:iy Sl (List Wl.dd):=bt uZ 4 bD
structure fU (h:Heap) (q:am) (x:bn) (m:ba):Prop where
 seq:x.1=m.seq
 next:x.2.1=m.next
 p:(x.2.2.1,x.2.2.2.1,x.2.2.2.2.1)=m.p
 extra:x.2.2.2.2.2.1=m.extra
 drives:Seq h q x.2.2.2.2.2.2.1 1 ay m.drives
 objs:mQ.p h q x.2.2.2.2.2.2.2 m.objs
 dcap:x.2.2.2.2.2.2.1.len<=x.2.2.2.2.2.2.1.cap
 ocap:x.2.2.2.2.2.2.2.len<=x.2.2.2.2.2.2.2.cap
abbrev cK(h:Heap)(x:bn)(m:ba):Prop:=fU h (fun b=>b<h.size) x m
theorem fU.ai{h b:Heap}{q:am}{x:bn}{m:ba}(a:fU h q x m)(c:ax q h b):fU b q x m:=⟨a.seq,a.next,a.p,a.extra,a.drives.ai c,mQ.loc a.objs c,a.dcap,a.ocap⟩
theorem fU.mono{h:Heap}{q c:am}{x:bn}{m:ba}(a:fU h q x m)(d:∀b,q b->c b):fU h c x m:=⟨a.seq,a.next,a.p,a.extra,a.drives.mono d,mQ.mono a.objs d,a.dcap,a.ocap⟩
theorem cK.up{h c:Heap}{x:bn}{m:ba}(a:cK h x m)(d:ax (fun b=>b<h.size) h c):cK c x m:=(fU.ai a d).mono fun _ e=>qv e d.1
def dG(x:bn)(m:ba):HP:=⟨fun h q=>fU h q x m,fun a b=>a.ai b,fun a c=>a.mono c⟩
theorem xl:∀x,∀c∈bD x,c.oneCell'=true:=by intro x c a;simp[bD]at a;rcases a with rfl|rfl|rfl|rfl<;>rfl
end Go.Vc
namespace Go.Proofs.YtcamechmadjclaaGreatDoor
open Go Go.Vc Go.Proofs Wl
theorem gH(n a b:Int)(h:Heap):ac wS pa #[wI wO n,wI wO a,wI wO b] h fun v h'=>v=wM (bz n a b)/\h'=h:=by
 refine ot n a b ?_;unfold ly bz;refine af (fun e=>⟨?_,rfl⟩) (fun e=>⟨?_,rfl⟩)
 ·rw[decide_eq_true (show a<=n from e)];rfl
 ·rw[decide_eq_false (show¬a<=n from e)];rfl
theorem va(s:ByteArray)(h:Heap)(F:s.size<=2^40):ac wS sr #[wL s] h fun v h'=>v=wM (dP s)/\Sp h h' []:=by
 refine pX s ?_;unfold nj;refine xj ae ⟨_,rfl,rfl⟩ ⟨_,rfl,rfl⟩ ⟨_,rfl,rfl⟩ s fun r A o=>?_;have y:=o.rd 0 rfl;have E:=y.len;have z:=gv s;refine aB (fun i:Nat=>(i:Int)) (fun i h'=>i<=s.size/\h'=A/\∀c∈(cq s).take i,bV c=true) (fun i=>s.size-i) 0 rfl ⟨by omega,rfl,by simp⟩ ?_;rintro i u ⟨G,rfl,d⟩;refine af (fun e=>?_) (fun e=>?_)
 ·have j:i<(cq s).length:=by
   have D:(i:Int)<(r.len:Int):=e;omega
  refine y.cd i rfl j ((cq s)[i].toNat:Int) rfl ?_;obtain⟨c,q⟩:∃c,c=(cq s)[i]:=⟨_,rfl⟩
  rw[<-q];have a:bV c=true->∃n:Nat,qa wO ((i:Int)+1)=(n:Int)/\(n<=s.size/\u=u/\∀c∈(cq s).take n,bV c=true)/\s.size-n<s.size-i:=fun t=>
   ⟨i+1,by rw[Go.Vc.wrap_small _ (by omega) (by omega)];rfl,⟨by omega,rfl,fun x k=>by
    rw[aD _ _ j]at k;rcases qZ.1 k with k|k
    ·exact d x k
    ·rw[qz.1 k,<-q];exact t⟩,by omega⟩
  have g:bV c=false->Value.bool false=wM (dP s)/\Sp h u []:=fun t=>by
   refine⟨?_,o.cH []⟩;unfold dP;have:s.data.toList.all bV=false:=wu.2 ⟨c,by rw[q];exact qt j,by rw[t];simp⟩;rw[this];rfl
  have b:bV c=true↔((97<=(c.toNat:Int)/\(c.toNat:Int)<=122)∨(48<=(c.toNat:Int)/\(c.toNat:Int)<=57)∨(c.toNat:Int)=45):=by
   unfold bV;simp[or_assoc];omega
  have f:bV c=false↔¬((97<=(c.toNat:Int)/\(c.toNat:Int)<=122)∨(48<=(c.toNat:Int)/\(c.toNat:Int)<=57)∨(c.toNat:Int)=45):=by
   rw[<-b];cases bV c<;>simp
  refine af (fun p=>af (fun e2=>bq (fun l=>g (f.2 (by omega))) fun l=>a (b.2 (by omega))) fun e2=>af (fun l=>bq (fun m=>g (f.2 (by omega))) fun m=>a (b.2 (by omega))) fun l=>a (b.2 (by omega))) fun p=>af (fun e2=>af (fun l=>bq (fun m=>g (f.2 (by omega))) fun m=>a (b.2 (by omega))) fun l=>af (fun m=>bq (fun B=>g (f.2 (by omega))) fun B=>a (b.2 (by omega))) fun m=>a (b.2 (by omega))) fun e2=>a (b.2 (by omega))
 ·have D:¬(i:Int)<(r.len:Int):=e;rw[qi (by omega)]at d;have w:s.data.toList.all bV=true:=qH.2 d;refine af (fun p=>⟨?_,o.cH []⟩) (fun p=>⟨?_,o.cH []⟩)
  ·unfold dP;rw[w,decide_eq_true (show 1<=s.size by omega)];congr 1;simp;omega
  ·unfold dP;rw[w,decide_eq_false (show¬1<=s.size by omega)];rfl
theorem vb(s:Sl)(l:List Int)(a:Int)(h:Heap)(q:Rd h s 1 ay l)(y:l.length<=2^40):ac wS ss #[wJ s.ptr s.len s.cap,wI wO a] h fun v h'=>v=wM (kP l a)/\h'=h:=by
 refine pY s a ?_;unfold nk;have t:=q.len;refine aB (fun i:Nat=>(i:Int)) (fun i h'=>i<=l.length/\h'=h/\∀j,j<i->cj l a j=true) (fun i=>l.length-i) 0 rfl ⟨by omega,rfl,by omega⟩ ?_;rintro i m ⟨z,rfl,c⟩;refine af (fun e=>?_) (fun e=>?_)
 ·have d:i<l.length:=by
   have w:(i:Int)<(s.len:Int):=e;omega
  refine q.cd i rfl d l[i] rfl ?_;have o:l.getD i 0=l[i]:=getD_lt d;have g:cj l a i=false->Value.bool false=wM (kP l a)/\m=m:=fun r=>⟨by unfold kP;rw[ml d r],rfl⟩
  have b:cj l a i=true->∃n:Nat,qa wO ((i:Int)+1)=(n:Int)/\(n<=l.length/\m=m/\∀j,j<n->cj l a j=true)/\l.length-n<l.length-i:=fun r=>
   ⟨i+1,by rw[Go.Vc.wrap_small _ (by omega) (by omega)];rfl,⟨by omega,rfl,fun j x=>by
    by_cases p:j=i
    ·rw[p];exact r
    ·exact c j (by omega)⟩,by omega⟩
  refine(gH l[i] 0 a m).mono ?_;rintro _ _ ⟨rfl,rfl⟩;refine⟨_,rfl,aK (fun f=>g (by unfold cj;rw[o,f];rfl)) fun f=>af (fun e2=>?_) fun e2=>b (by unfold cj;rw[o,f,decide_eq_true (show i=0 by omega)];rfl)⟩;rw[Go.Vc.wrap_small ((i:Int)-1) (by omega) (by omega)];refine q.cd (i-1) (by omega) (by omega) (l[i-1]'(by omega)) rfl ?_;have k:l.getD (i-1) 0=l[i-1]'(by omega):=getD_lt (by omega);refine af (fun u=>g ?_) (fun u=>b ?_)
  ·unfold cj;rw[o,k,f,decide_eq_false (show¬i=0 by omega),decide_eq_false (by omega)];rfl
  ·unfold cj;rw[o,k,f,decide_eq_true (show l[i-1]'(by omega)<l[i]by omega)];simp
 ·have w:¬(i:Int)<(s.len:Int):=e;exact⟨by unfold kP;rw[lm fun j x=>c j (by omega)],rfl⟩
theorem ub(p:Pm)(n:Int)(h:Heap)(q:n<=2^40):ac wS oX #[kC p,wI wO n] h fun v h'=>v=wI wO (countP p n)/\Sp h h' []:=by
 refine ol p n ?_;unfold lv;refine(Sp.refl h).boxed fun o f d=>?_;refine aG ⟨p,(d.box 0 rfl).aO _ rfl,(jo p f).mono ?_⟩;rintro _ m ⟨rfl,k⟩;have b:=d.up k.ai;refine⟨_,rfl,aK (fun e=>⟨?_,b.cH []⟩) fun g=>af (fun e=>⟨?_,b.cH []⟩) fun e=>?_⟩
 ·unfold countP;rw[e];rfl
 ·unfold countP;rw[decide_eq_false (show¬0<n by omega),Bool.and_false];rfl
 ·have l:=(iT p).1 g;refine⟨p,(b.box 0 rfl).aO _ rfl,?_⟩;refine(oZ p (R:=fun v h'=>v=wI wO (p.1*p.2.2)/\Sp h h' []) ?_).mono ?_
  ·unfold ms;refine b.boxed fun a2 j c=>⟨p.1,(c.box 1 rfl).cell0 rfl,p.2.2,(c.box 1 rfl).cell rfl,?_,c.cH []⟩
   have r:p.1*p.2.2<=16*24:=wx (by omega) (by omega) (by omega) (by omega);have a:0<=p.1*p.2.2:=Int.mul_nonneg (by omega) (by omega);rw[Go.Vc.wrap_small _ (by omega) (by omega)]
  ·rintro _ j ⟨rfl,i⟩;have a:0<p.1*p.2.2:=Int.mul_pos (by omega) (by omega);refine⟨_,rfl,Int.ne_of_gt a,?_,i⟩;have f:(n-1)/(p.1*p.2.2)<=n-1:=Int.ediv_le_self _ (by omega);have m:0<=(n-1)/(p.1*p.2.2):=Int.ediv_nonneg (by omega) (by omega);rw[Go.Vc.wrap_small (n-1) (by omega) (by omega),zE (by omega),Go.Vc.wrap_small ((n-1)/(p.1*p.2.2)) (by omega) (by omega),Go.Vc.wrap_small _ (by omega) (by omega)];unfold countP;rw[g,decide_eq_true (show 0<n by omega)];rfl
theorem sT(s:Sl)(l:List Int)(h:Heap)(d:Rd h s 1 ay l)(k:l.length<=2^40):ac wS fP #[wJ s.ptr s.len s.cap,.func (.func fT) #[] #[]] h fun v h'=>v=wM (!l.all (bz · 0 15))/\h'=h:=by
 refine fB s (fT,#[],#[]) ?_;unfold dt;have g:=d.len;refine(gD s (fT,#[],#[]) (R:=fun v h'=>(∃i:Int,v=wI wO i/\(decide (i>=0)=!l.all (bz · 0 15)))/\h'=h) ?_).mono ?_
 ·unfold dZ;refine aB (fun i:Nat=>(i:Int)) (fun i h'=>i<=l.length/\(l.take i).all (bz · 0 15)=true/\h'=h) (fun i=>l.length-i) 0 rfl ⟨by omega,by simp,rfl⟩ ?_;rintro i c ⟨f,a,rfl⟩;refine af (fun e=>?_) (fun e=>?_)
  ·have b:i<l.length:=by
    have j:(i:Int)<(s.len:Int):=e;omega
   refine d.cd i rfl b l[i] rfl (lZ (by rfl) ?_);refine(nH l[i] (R:=fun v h'=>v=wM (!bz l[i] 0 15)/\h'=c) ?_).mono ?_
   ·unfold kB;refine(gH l[i] 0 15 c).mono ?_;rintro _ _ ⟨rfl,rfl⟩;exact⟨_,rfl,rfl,rfl⟩
   ·rintro _ _ ⟨rfl,rfl⟩;refine⟨_,rfl,aK (fun e2=>?_) (fun e2=>?_)⟩
    ·refine⟨⟨i,rfl,?_⟩,rfl⟩;rw[decide_eq_true (show(i:Int)>=0 by omega)];have:l.all (bz · 0 15)=false:=wu.2 ⟨_,qt b,by rw[e2];simp⟩;rw[this];rfl
    ·refine⟨i+1,by rw[Go.Vc.wrap_small _ (by omega) (by omega)];rfl,⟨by omega,?_,rfl⟩,by omega⟩;rw[aD _ _ b,List.all_append,a];simp[e2]
  ·have j:¬(i:Int)<(s.len:Int):=e;refine⟨⟨-1,rfl,?_⟩,rfl⟩;rw[qi (by omega)]at a;rw[a];rfl
 ·rintro _ c ⟨⟨i,rfl,f⟩,rfl⟩;exact⟨i,rfl,by rw[f],rfl⟩
end Go.Proofs.YtcamechmadjclaaGreatDoor
namespace Wl
structure co (m:ba):Prop where
 dr:m.drives.length<=2^30
 ob:m.objs.length<=2^30
 nm:∀e∈m.objs,e.name.size<=2^30/\e.tries.length<=2^30
end Wl
namespace Go.Vc
open Go
theorem addr_add(a:Addr)(i j:Nat):(a.add i).add j=a.add (i+j):=by
 unfold Addr.add;by_cases b:i=0<;>by_cases c:j=0<;>simp[b,c,z8]
theorem bE.lA{h:Heap}{a:Addr}{e:TypeId}{b:List Value}{v:Value}(d:bE h a e b)(i j:Nat)(c:b[i+j]?=some v):cellOf h ((a.add i).add j)=some v:=by
 rw[addr_add];exact d.cell c
theorem bE.mR{h:Heap}{a:Addr}{e:TypeId}{b:List Value}{u v w:Value}(c:bE h a e b)(i:Nat)(f:b[i]?=some u)(g:b[i+1]?=some v)(d:b[i+2]?=some w):ap h (a.add i) 0 [u,v,w]:=
 ⟨c.lA i 0 f,c.lA i 1 g,c.lA i 2 d,trivial⟩
end Go.Vc
namespace Go.Proofs.YtcamechmadjclaaGreatDoor
open Go Go.Vc Go.Proofs Wl
abbrev xI:bk C.tokp oS bs 4 [wL ⟨#[]⟩,wI wO 0,wI wO 0,wJ none 0 0] 56:=⟨_,_,rfl,rfl,rfl,rfl,rfl,rfl⟩
theorem uc(x:bn)(m:ba)(e:kh)(E:Wl.dd)(h:Heap)(j:cK h x m)(w:uE uZ h e E)(A:fi m=true)(M:E.name.size<=2^30)(P:E.tries.length<=2^30):
  ac wS pZ #[cE x,wN #[wL e.1,wI wO e.2.1,wI wO e.2.2.1,wJ e.2.2.2.ptr e.2.2.2.len e.2.2.2.cap]] h fun v h'=>v=wM (cP m E)/\Sp h h' []:=by
 refine pb x e ?_;unfold mu;obtain⟨_,I,c,_⟩:=nE A;have H:=(iT m.p).1 c;obtain⟨⟨z,e2,q⟩,s⟩:=w;have f:x.2.2.1=m.p.1:=congrArg (·.1) j.p;have o:x.2.2.2.1=m.p.2.1:=congrArg (·.2.1) j.p;have d:x.2.2.2.2.1=m.p.2.2:=congrArg (·.2.2) j.p;have O:m.p.1*m.p.2.2<=16*24:=wx (by omega) (by omega) (by omega) (by omega);have J:0<=m.p.1*m.p.2.2:=Int.mul_nonneg (by omega) (by omega);refine(Sp.refl h).boxed fun L N D=>?_;refine D.boxed fun a2 K r=>?_;have k:∀{h':Heap} {As:List HP},Sp h h' As->cP m E=false->Value.bool false=wM (cP m E)/\Sp h h' []:=fun{h' As} H' g=>⟨by rw[g],.zip H'.ai⟩
 refine aG ⟨E.name,by rw[<-z];exact(r.box 1 rfl).cell0 rfl,(va E.name K (by omega)).mono ?_⟩;rintro _ G ⟨rfl,B⟩;have a:=r.up B.ai;refine⟨_,rfl,aK (fun b=>k a (by unfold cP;rw[b];rfl)) fun i=>?_⟩;refine⟨E.object,by rw[<-e2];exact(a.box 1 rfl).cell rfl,m.next,by rw[<-j.next];exact(a.box 0 rfl).cell rfl,?_⟩;rw[Go.Vc.wrap_small (m.next-1) (by omega) (by omega)];refine(gH E.object 0 (m.next-1) G).mono ?_;rintro _ _ ⟨rfl,rfl⟩;refine⟨_,rfl,aK (fun b=>k a (by unfold cP;rw[i,b];rfl)) fun b2=>?_⟩;have g:=a.box 0 rfl;refine⟨E.length,by rw[<-q];exact(a.box 1 rfl).cell rfl,m.p.1,by rw[<-f];exact g.cell rfl,m.p.2.2,by rw[<-d];exact g.lA 2 2 rfl,?_⟩;rw[Go.Vc.wrap_small (m.p.1*m.p.2.2) (by omega) (by omega),Go.Vc.wrap_small (m.p.1*m.p.2.2*8) (by omega) (by omega)];refine(gH E.length 0 (m.p.1*m.p.2.2*8) _).mono ?_;rintro _ _ ⟨rfl,rfl⟩;refine⟨_,rfl,aK (fun b=>k a (by unfold cP;rw[i,b2,b];rfl)) fun l=>?_⟩;have u:0<=E.length/\E.length<=m.p.1*m.p.2.2*8:=by unfold bz at l;simpa using l
 refine⟨e.2.2.2,(a.box 1 rfl).cell rfl,?_⟩;refine(sT e.2.2.2 E.tries _ (Seq.up s a.ai) (by omega)).mono ?_;rintro _ _ ⟨rfl,rfl⟩;refine⟨_,rfl,aK (fun b=>?_) (fun b=>⟨trivial,k a ?_⟩)⟩
 ·have n:E.tries.all (bz · 0 15)=true:=by simpa using b
  refine⟨e.2.2.2,(a.box 1 rfl).cell rfl,m.p,?_,E.length,by rw[<-q];exact(a.box 1 rfl).cell rfl,?_⟩
  ·rw[<-f,<-o,<-d];exact g.mR 2 rfl rfl rfl
  ·refine(ub m.p E.length _ (by omega)).mono ?_;rintro _ Q ⟨rfl,y⟩;have t:=a.up y.ai;refine⟨_,rfl,⟨(t.box 1 rfl).cell rfl,trivial⟩,?_,.zip t.ai⟩;unfold cP;have F:=s.len;rw[i,b2,l,n,F];simp;rfl
 ·have n:E.tries.all (bz · 0 15)=false:=by simpa using b
  unfold cP;rw[i,b2,l,n];rfl
theorem sU(a:Addr)(e:kh)(l:Sl)(b:List Wl.dd)(h:Heap)(r:bE h a bs (bD e))(o:uE mQ h l b)(D:b.length<=2^30):
  ac wS dD #[wJ l.ptr l.len l.cap,.func (.func it) #[] #[wK (some a)]] h fun v h'=>v=wM (b.any fun y=>decide (y.object=e.2.1))/\Sp h h' []:=by
 refine du l (it,#[],#[wK (some a)]) ?_;unfold cl;refine(dR l (it,#[],#[wK (some a)]) (R:=fun v h'=>(∃i:Int,v=wI wO i/\(decide (i>=0)=b.any fun y=>decide (y.object=e.2.1)))/\Sp h h' []) ?_).mono ?_
 ·unfold ct;obtain⟨p,A,E,s⟩:=bt.tR o;have z:=bt.len o;refine aB (fun i:Nat=>(i:Int)) (fun i h'=>i<=b.length/\(b.take i).any (fun y=>decide (y.object=e.2.1))=false/\Sp h h' []) (fun i=>b.length-i) 0 rfl ⟨by omega,by simp,Sp.refl h⟩ ?_;rintro i n ⟨q,c,j⟩;refine af (fun k=>?_) (fun k=>?_)
  ·have d:i<b.length:=by
    have x:(i:Int)<(l.len:Int):=k;omega
   obtain⟨⟨_,u,_⟩,_⟩:=s i (by omega) d;refine(Seq.up A j.ai).gp (g:=bD) i rfl (by omega) (p[i]'(by omega)) rfl (lZ (by rfl) ?_);refine(pc (p[i]'(by omega)) a (R:=fun v h'=>v=wM (b[i].object==e.2.1)/\Sp n h' []) ?_).mono ?_
   ·unfold mv;refine(Sp.refl n).boxed fun a2 B f=>?_;have m:=r.ai (up j.ai f.ai) r.lt;exact⟨b[i].object,by rw[<-u];exact(f.box 0 rfl).cell rfl,e.2.1,m.cell rfl,rfl,.zip f.ai⟩
   ·rintro _ B ⟨rfl,w⟩;have f:=j.up w.ai;refine⟨_,rfl,bp (fun e2=>?_) (fun e2=>?_)⟩
    ·refine⟨⟨i,rfl,?_⟩,f⟩;rw[decide_eq_true (show(i:Int)>=0 by omega)];exact(List.any_eq_true.2 ⟨_,qt d,by simpa using e2⟩).symm
    ·refine⟨i+1,by rw[Go.Vc.wrap_small _ (by omega) (by omega)];rfl,⟨by omega,?_,f⟩,by omega⟩;rw[aD _ _ d,List.any_append,c];simpa using e2
  ·have x:¬(i:Int)<(l.len:Int):=k;refine⟨⟨-1,rfl,?_⟩,j⟩;rw[qi (by omega)]at c;rw[c];rfl
 ·rintro _ n ⟨⟨i,rfl,q⟩,t⟩;exact⟨i,rfl,by rw[q],t⟩
theorem vN(x:bn)(m:ba)(h:Heap)(k:cK h x m)(S:co m):ac wS sP #[cE x] h fun v h'=>v=wM (ce m)/\Sp h h' []:=by
 refine sp x ?_;unfold om;refine(Sp.refl h).boxed fun O h1 G=>?_;have A:=G.box 0 rfl;have R:x.2.2.1=m.p.1:=congrArg (·.1) k.p;have T:x.2.2.2.1=m.p.2.1:=congrArg (·.2.1) k.p;have N:x.2.2.2.2.1=m.p.2.2:=congrArg (·.2.2) k.p;have y:∀{h':Heap} {As:List HP},Sp h h' As->ce m=false->Value.bool false=wM (ce m)/\Sp h h' []:=fun{h' As} H' A=>⟨by rw[A],.zip H'.ai⟩
 refine aG ⟨m.seq,by rw[<-k.seq];exact A.cell0 rfl,(gH m.seq 1 2147483647 h1).mono ?_⟩;rintro _ _ ⟨rfl,rfl⟩;refine⟨_,rfl,aK (fun b=>y G (by unfold ce fi;rw[b];rfl)) fun F=>?_⟩;refine⟨m.next,by rw[<-k.next];exact A.cell rfl,(gH m.next 0 16777216 _).mono ?_⟩;rintro _ _ ⟨rfl,rfl⟩;refine⟨_,rfl,aK (fun b=>y G (by unfold ce fi;rw[F,b];rfl)) fun b2=>?_⟩;refine⟨m.p,by rw[<-R,<-T,<-N];exact A.mR 2 rfl rfl rfl,(jo m.p _).mono ?_⟩;rintro _ h2 ⟨rfl,R2⟩;have o:=G.up R2.ai;refine⟨_,rfl,aK (fun b=>y o (by unfold ce fi;rw[F,b2,b];rfl)) fun Y=>?_⟩;refine⟨m.extra,by rw[<-k.extra];exact(o.box 0 rfl).cell rfl,(gH m.extra 0 16 _).mono ?_⟩;rintro _ _ ⟨rfl,rfl⟩;refine⟨_,rfl,aK (fun b=>y o (by unfold ce fi;rw[F,b2,Y,b];rfl)) fun b4=>?_⟩;have E:fi m=true:=by unfold fi;rw[F,b2,Y,b4];rfl
 have Q:=k.up o.ai;have r:=o.box 0 rfl;have a2:=S.dr;have a3:=S.ob;refine aG ⟨_,r.cell rfl,(vb _ m.drives 63 _ Q.drives (by omega)).mono ?_⟩;rintro _ _ ⟨rfl,rfl⟩;refine⟨_,rfl,aK (fun b=>y o (by unfold ce;rw[E,b];rfl)) fun b5=>?_⟩;have W:=bt.len k.objs;refine⟨x.2.2.2.2.2.2.2,r.cell rfl,af (fun e=>y o ?_) fun a0=>?_⟩
 ·unfold ce;rw[E,b5,decide_eq_false (by omega)];rfl
 have P:m.objs.length<=12:=by omega
 refine⟨x.2.2.2.2.2.2.2,r.cell rfl,?_⟩;obtain⟨l,D⟩:=bt.fix k.objs;have ad:=D.2.1;refine aB (fun i:Nat=>(i:Int)) (fun i h'=>i<=m.objs.length/\(∀j,j<i->eg m j=true)/\Sp h h' [ao O al (aE x)]) (fun i=>m.objs.length-i) 0 rfl ⟨by omega,by omega,o⟩ ?_;rintro i h3 ⟨hi,q,M⟩;refine af (fun e=>?_) (fun e=>?_)
 ·have f:i<m.objs.length:=by
   have e':(i:Int)<(x.2.2.2.2.2.2.2.len:Int):=e;omega
  have B:=S.nm _ (qt f);have d:cT m.objs i=m.objs[i]:=iW f;have u:∀{h':Heap} {As:List HP},Sp h h' As->eg m i=false->Value.bool false=wM (ce m)/\Sp h h' []:=fun{h' As} H' A=>y H' (by unfold ce;rw[ml f A];simp);have F3:=eU.up D M.ai;refine F3.1.gp (g:=bD) i rfl (by omega) (l[i]'(by omega)) rfl ?_;refine M.alloc ae rfl fun z h4 H4=>?_;refine H4.storeAll ae 1 rfl rfl (bD (l[i]'(by omega))) rfl rfl rfl rfl fun U w=>?_;have w:Sp h U [ao O al (aE x),ao z bs (bD (l[i]'(by omega)))]:=w;have Z:=eU.up D w.ai;obtain⟨⟨y1,y2,y3⟩,y4⟩:=Fix.row Z f;obtain⟨b6,c⟩:∃b,b=(decide (i=0)||gX (cT m.objs (i-1)).name (cT m.objs i).name):=⟨_,rfl⟩
  refine dN (fun _ h'=>cP m m.objs[i]=true/\b6=true/\Sp h h' [ao O al (aE x),ao z bs (bD (l[i]'(by omega)))]) ?_ ?_
  ·refine⟨x,(w.box 0 rfl).aO _ rfl,l[i]'(by omega),(w.box 1 rfl).aO _ rfl,?_⟩;refine(uc x m (l[i]'(by omega)) m.objs[i] U (k.up w.ai) (Fix.row Z f) E B.1 B.2).mono ?_;rintro _ X ⟨rfl,R6⟩;have a:=w.up R6.ai;have H:=eU.up D a.ai;refine⟨_,rfl,trivial,aK (fun b=>u a (by unfold eg;rw[d,b];rfl)) fun b=>af (fun e2=>?_) fun e2=>⟨b,by rw[c,decide_eq_true (show i=0 by omega)];rfl,a⟩⟩;rw[Go.Vc.wrap_small ((i:Int)-1) (by omega) (by omega)];obtain⟨I,ha,zz,hc,rfl⟩:=H.1.gp (g:=bD) (i:=(i:Int)-1) (i-1) (by omega) (by omega) (l[i-1]'(by omega)) rfl (K:=fun t=>t=l[i-1]'(by omega)) rfl;refine⟨x.2.2.2.2.2.2.2,(a.box 0 rfl).cell rfl,I,ha,m.objs[i-1].name,?_,m.objs[i].name,?_,?_⟩
   ·rw[<-(Fix.row H (show i-1<m.objs.length by omega)).1.1];exact hc.1
   ·rw[<-y1];exact(a.box 1 rfl).cell0 rfl
   ·have n:cT m.objs (i-1)=m.objs[i-1]:=iW (by omega);rw[d,n]at c;refine aK (fun s=>u a ?_) (fun s=>⟨b,?_,a⟩)
    ·unfold eg;rw[d,n,b,decide_eq_false (show¬i=0 by omega)];unfold gX;rw[s];rfl
    ·rw[c];unfold gX;rw[s];simp
  ·rintro _ X ⟨b,J,a⟩;have H:=eU.up D a.ai;refine⟨x.2.2.2.2.2.2.2,(a.box 0 rfl).cell rfl,⟨by omega,by have:=k.ocap;omega⟩,?_⟩;rw[qm];refine(sU z (l[i]'(by omega)) ⟨x.2.2.2.2.2.2.2.ptr,i,x.2.2.2.2.2.2.2.cap⟩ (m.objs.take i) X (a.box 1 rfl) (bt.take H.yo i (by omega)) (by simp;omega)).mono ?_;rintro _ h7 ⟨rfl,R7⟩;have V:=a.up R7.ai;rw[y2];refine⟨_,rfl,aN (fun s=>u V ?_) fun s=>?_⟩
   ·unfold eg;rw[d,s];simp
   ·refine⟨i+1,by rw[Go.Vc.wrap_small _ (by omega) (by omega)];rfl,⟨by omega,fun j hj=>?_,V.cH [0]⟩,by omega⟩;by_cases L:j=i
    ·subst L;rw[J]at c;unfold eg;rw[<-c,d,b,s];rfl
    ·exact q j (by omega)
 ·have e':¬(i:Int)<(x.2.2.2.2.2.2.2.len:Int):=e;refine⟨?_,.zip M.ai⟩;unfold ce;rw[E,b5,decide_eq_true P,lm fun j hj=>q j (by omega)];rfl
section
variable {B:am} {h0 h:Heap} {As:List HP}
theorem gN(s:Sl)(l:List UInt8)(n:Int)(k:Nat)(u:k<=4)(r:l.length<=2^20)(H:aa B h0 h (au aA s 1 aF l::As)):
  ac wS oY #[wJ s.ptr s.len s.cap,wI wO n,wI wO k] h fun v h'=>∃a:Sl,v=wJ a.ptr a.len a.cap/\aa B h0 h' (au aA a 1 aF (l++bx n k)::As):=by
 refine oq s n k ?_;unfold lx;have c:=aW n k;refine aB (fun t:Sl×Nat=>(t.1,(k:Int)-1-t.2)) (fun t h'=>t.2<=k/\aa B h0 h' (au aA t.1 1 aF (l++(bx n k).take t.2)::As)) (fun t=>k-t.2) (s,0) (by rw[Go.Vc.wrap_small _ (by omega) (by omega)];simp) ⟨by simp,by simpa using H⟩ ?_;rintro⟨o,j⟩ q ⟨w,b⟩;dsimp only at*;refine af (fun e=>?_) (fun e=>?_)
 ·have d:j<k:=by omega
  rw[Go.Vc.wrap_small ((8:Int)*((k:Int)-1-j)) (by omega) (by omega)];refine⟨by omega,?_⟩;have f:((8:Int)*((k:Int)-1-j)).toNat=8*(k-1-j):=by omega
  have i:min (8*(k-1-j)) (ql wO)=8*(k-1-j):=by
   have:ql wO=64:=rfl;omega
  rw[f,i,aT];have p:b8 (qI n (2^(8*(k-1-j))))=(bx n k)[j]'(by omega):=by simp[bx]
  rw[p];refine b.push ae 0 rfl cJ rfl (by decide) (fun _=>rfl) cg ((bx n k)[j]'(by omega)) rfl (by decide) (by simp;omega) fun m x g=>?_;refine⟨(m,j+1),by dsimp only;rw[Go.Vc.wrap_small _ (by omega) (by omega)];congr 1;omega,⟨by dsimp only;omega,?_⟩,by dsimp only;omega⟩;dsimp only;rw[aD _ _ (show j<(bx n k).length by omega),<-qp];exact g
 ·rw[qi (by omega)]at b;exact⟨o,rfl,b⟩
theorem iL(b:Sl)(l:List Int)(o:Sl)(c:List UInt8)(H:aa B h0 h (au aA o 1 aF c::As))(r:St B h0 As fun h=>Rd h b 1 ay l)(E:c.length<=2^30)(D:l.length<=2^30){K:Sl×Int->Heap->Prop}
  (z:∀q h',aa B h0 h' (au aA q 1 aF (c++l.map b8)::As)->K (q,(l.length:Int)) h'):
  aM (σ:=Sl×Int) (fun a A h8=>
 Br (decide (a.2<((b.len:Nat):Int)))
 (∃j:Addr,(b.ptr=some j/\0<=a.2/\a.2<((b.len:Nat):Int))/\
 ∃g:Int,cellOf h8 (j.add (a.2.toNat*1))=some (wI wO g)/\
 ar wS (qg bw 1 #[(0,(wI wP (qa wP g)))]) (.one (.sc .slc)) h8 fun d x=>
 ar wS (qh #[bw,bw] bw #[(wJ a.1.ptr a.1.len a.1.cap),(wJ d.ptr d.len d.cap)]) (.one (.sc .slc)) x fun f n=>
 A ((⟨f.ptr,f.len,f.cap⟩:Sl),qa wO (a.2+(1:Int))) n)
 (K a h8)) (o,(0:Int)) h:=by
 have s:b.len=l.length:=(r.at [_] H).len;refine aB (fun t:Sl×Nat=>(t.1,(t.2:Int))) (fun t h'=>t.2<=l.length/\aa B h0 h' (au aA t.1 1 aF (c++(l.take t.2).map b8)::As)) (fun t=>l.length-t.2) (o,0) rfl ⟨by simp,by simpa using H⟩ ?_;rintro⟨u,i⟩ y ⟨F,m⟩;dsimp only at*;refine af (fun e=>?_) (fun e=>?_)
 ·have k:i<l.length:=by omega
  refine(r.at [_] m).cd i rfl k l[i] rfl ?_;rw[aT];refine m.push ae 0 rfl cJ rfl (by decide) (fun _=>rfl) cg (b8 l[i]) rfl (by decide) (by simp;omega) fun v G w=>?_;refine⟨(v,i+1),by dsimp only;rw[Go.Vc.wrap_small _ (by omega) (by omega)];rfl,⟨by dsimp only;omega,?_⟩,by dsimp only;omega⟩;dsimp only;rw[aD _ _ k,ze,<-qp];exact w
 ·have p:i=l.length:=by omega
  subst p;rw[qK]at m;exact z u y m
end
theorem xm{m:ba}(a:ce m=true){i:Nat}(b:i<m.objs.length):cP m m.objs[i]=true:=by
 unfold ce at a;simp only[qB]at a;have:=qH.1 a.2.2.2 i (q5.2 b);unfold eg at this;simp only[qB]at this;have c:=this.1
 rwa [iW b]at c
theorem sv{m:ba}(c:ce m=true){i:Nat}(f:i<m.objs.length):m.objs[i].name.size<=12/\m.objs[i].tries.length<=3073:=by
 have b:=xm c f;unfold cP dP at b;simp only[qB,decide_eq_true_eq]at b;obtain⟨⟨_,_,g⟩,_,d,_,e⟩:=b;refine⟨g,?_⟩;obtain⟨_,_,a,_⟩:=nE (uN c);have h:=(iT m.p).1 a;unfold bz at d;simp only[qB,decide_eq_true_eq]at d;have k:m.p.1*m.p.2.2<=16*24:=wx (by omega) (by omega) (by omega) (by omega);unfold countP at e;split at e
 ·have:(m.objs[i].length-1)/(m.p.1*m.p.2.2)<=m.objs[i].length-1:=Int.ediv_le_self _ (by rename_i j;simp at j;omega);omega
 ·omega
theorem vd{m:ba}(a:ce m=true){i:Nat}(b:i<m.objs.length):(cx m.objs[i]).length<=4000:=by
 have:=sv a b;unfold cx;simp[aW];have:m.objs[i].name.data.size=m.objs[i].name.size:=rfl;omega
theorem jM{m:ba}(a:ce m=true):∀n,n<=m.objs.length->((m.objs.take n).flatMap cx).length<=n*4000
 |0,_=>by simp
 |n+1,hn=>by
  rw[aD _ _ (show n<m.objs.length by omega),qy,qu];have c:=jM a n (by omega);have b:=vd a (show n<m.objs.length by omega);have d:([m.objs[n]].flatMap cx).length=(cx m.objs[n]).length:=by rw[qF,zC,qU]
  omega
theorem jq{m:ba}(a:ce m=true):m.objs.length<=12:=by
 unfold ce at a;simp only[qB,decide_eq_true_eq]at a;exact a.2.2.1
theorem jr(m:ba)(j:co m):(de m).length<=100000:=by
 unfold de;split
 ·rename_i d;have e:=d;unfold ce at e;simp only[qB,decide_eq_true_eq]at e;have k:m.drives.length<=64:=by
   have a:=e.2.1;unfold kP at a;rw[qH]at a;by_cases h:m.drives.length<=64
   ·exact h
   ·exfalso;have c:∀i,i<m.drives.length->(i:Int)<=m.drives.getD i 0:=fun i=>by
     induction i with
     |zero=>
      intro b;have:=a 0 (q5.2 b);unfold cj bz at this;simp at this;simpa using this.1
     |succ i ih=>
      intro b;have:=a (i+1) (q5.2 b);have f:=ih (by omega);unfold cj bz at this;simp at this;have g:=this.2;simp only[qj]at f⊢;omega
    have f:=c 64 (by omega);have g:=a 64 (q5.2 (by omega));unfold cj bz at g;simp at g;simp only[qj]at f;omega
  have l:(m.objs.flatMap cx).length<=12*4000:=by
   have a:=jM d m.objs.length (qM _);rw[qK]at a;have:=qR 4000 (jq d);omega
  simp only[qu,qV,wg,qT,aW];omega
 ·simp
theorem ve(x:bn)(m:ba)(h:Heap)(d:cK h x m)(hz:co m):ac wS sj #[cE x] h fun v h'=>∃r:Sl,v=wJ r.ptr r.len r.cap/\Sp h h' [au aA r 1 aF (de m)]:=by
 refine pV x ?_;unfold ng;refine(Sp.refl h).boxed fun a1 h1 H1=>?_;refine⟨x,(H1.box 0 rfl).aO _ rfl,(vN x m h1 (d.up H1.ai) hz).mono ?_⟩;rintro _ h2 ⟨rfl,R2⟩;have H2:=H1.up R2.ai;refine⟨_,rfl,aK (fun e=>?_) fun z=>?_⟩
 ·unfold de;rw[e];exact⟨⟨none,0,0⟩,rfl,((H2.nil aA 1 aF).cH [1])⟩
 have a7:x.2.2.1=m.p.1:=congrArg (·.1) d.p;have bb:x.2.2.2.1=m.p.2.1:=congrArg (·.2.1) d.p;have ad:x.2.2.2.2.1=m.p.2.2:=congrArg (·.2.2) d.p;have A:=H2.box 0 rfl;have b:=jr m hz;unfold de at b;rw[z,if_pos rfl]at b;have hM:∀{h':Heap} {As:List HP},Sp h h' As->cK h' x m:=fun{h' As} J=>d.up J.ai;refine aG ⟨m.seq,by rw[<-d.seq];exact A.cell0 rfl,m.next,by rw[<-d.next];exact A.cell rfl,?_⟩;have H3:=(H2.nil aA 1 aF).bv;refine(gN ⟨none,0,0⟩ [] m.seq 4 (by decide) (by simp) H3).mono ?_;rintro _ h4 ⟨s4,rfl,H4⟩;refine⟨s4,rfl,⟨by rw[<-d.next];exact(H4.box 1 rfl).cell rfl,trivial⟩,?_⟩;refine(gN s4 _ m.next 4 (by decide) (by simp[aW]) H4).mono ?_;rintro _ h5 ⟨s5,rfl,H5⟩;refine⟨s5,rfl,trivial,?_⟩;have j:=H5.box 1 rfl;refine⟨m.p.1,by rw[<-a7];exact j.cell rfl,m.p.2.1,by rw[<-bb];exact j.lA 2 1 rfl,m.p.2.2,by rw[<-ad];exact j.lA 2 2 rfl,m.extra,by rw[<-d.extra];exact j.cell rfl,x.2.2.2.2.2.2.1,j.cell rfl,?_⟩;have X:=d.drives.len;have a9:=bt.len d.objs;rw[aT,aT,aT,aT,aT,X];refine H5.lit ae aF cJ rfl [b8 m.p.1,b8 m.p.2.1,b8 m.p.2.2,b8 m.extra,b8 (m.drives.length:Nat)] rfl (show 5*1<=2^20 by decide) rfl fun b3 h6 H6=>?_;refine H6.append ae 0 rfl cJ ⟨_,_,rfl,rfl⟩ rfl (by decide) (fun _=>rfl) (H6.seq 2 rfl fun _=>rfl) cg (by simp[aW]) fun s7 h7 Q=>?_;have Q:=Q.cH [0,1];refine⟨x.2.2.2.2.2.2.1,(Q.box 1 rfl).cell rfl,?_⟩;have bd:(([]++bx m.seq 4)++bx m.next 4++[b8 m.p.1,b8 m.p.2.1,b8 m.p.2.2,b8 m.extra,b8 (m.drives.length:Nat)]).length=13:=by simp[aW]
 have b7:=hz.dr;refine iL x.2.2.2.2.2.2.1 m.drives s7 _ Q (St.mk' fun h' J=>(hM J).drives) (by omega) (by omega) fun s8 h8 Z=>?_;dsimp only;refine⟨x.2.2.2.2.2.2.2,(Z.box 1 rfl).cell rfl,?_⟩;rw[aT,a9];obtain⟨a,c⟩:∃a,a=([]++bx m.seq 4)++bx m.next 4++[b8 m.p.1,b8 m.p.2.1,b8 m.p.2.2,b8 m.extra,b8 (m.drives.length:Nat)]++m.drives.map b8:=⟨_,rfl⟩
 rw[<-c]at Z;have a4:a.length=13+m.drives.length:=by rw[c];simp[aW];omega
 simp only[qu,qV,wg,qT,aW]at b;refine Z.push ae 0 rfl cJ rfl (by decide) (fun _=>rfl) cg (b8 (m.objs.length:Nat)) rfl (by decide) (by omega) fun s9 h9 P=>?_;have P:Sp h h9 [au aA s9 1 aF (a++[b8 (m.objs.length:Nat)]),ao a1 al (aE x)]:=P;refine⟨x.2.2.2.2.2.2.2,(P.box 1 rfl).cell rfl,?_⟩;obtain⟨L,R⟩:=bt.fix d.objs;have br:=R.2.1;refine aB (fun t:Sl×Nat=>(t.1,(t.2:Int))) (fun t h'=>t.2<=m.objs.length/\Sp h h' [au aA t.1 1 aF (a++[b8 (m.objs.length:Nat)]++(m.objs.take t.2).flatMap cx),ao a1 al (aE x)]) (fun t=>m.objs.length-t.2) (s9,0) rfl ⟨by simp,by simpa using P⟩ ?_;rintro⟨o,i⟩ b6 ⟨hi,f⟩;dsimp only at*;refine af (fun e=>?_) (fun e=>?_)
 ·have q:i<m.objs.length:=by omega
  have a6:=eU.up R f.ai;have a0:=sv z q;have n:((m.objs.take i).flatMap cx).length<=50000:=by
   have h1:=jM z i hi;have:=jq z;have:i*4000<=12*4000:=qR _ (by omega);omega
  refine a6.1.gp (g:=bD) i rfl (by omega) (L[i]'(by omega)) rfl ?_;refine f.alloc ae rfl fun a2 b0 a8=>?_;refine a8.storeAll ae 2 rfl rfl (bD (L[i]'(by omega))) rfl rfl rfl rfl fun a3 l=>?_;have a5:=eU.up R l.ai;obtain⟨⟨w,y2,T⟩,y4⟩:=Fix.row a5 q;obtain⟨E,S⟩:∃E,E=m.objs[i]:=⟨_,rfl⟩
  rw[<-S]at w y2 T y4 a0;have s:=l.box 2 rfl;refine aG ⟨E.name,by rw[<-w];exact s.cell0 rfl,E.name,by rw[<-w];exact s.cell0 rfl,?_⟩;rw[aT];refine l.iN ae aF cJ rfl [b8 (E.name.size:Nat)] rfl (show 1*1<=2^20 by decide) rfl ⟨by rw[<-w];exact s.cell0 rfl,by rw[<-w];exact s.cell0 rfl,trivial⟩ ?_;have H:(a++[b8 (m.objs.length:Nat)]++(m.objs.take i).flatMap cx).length<=160000:=by rw[qu,qu,a4];simp;simp at n;omega
  obtain⟨k,M⟩:∃k,k=a++[b8 (m.objs.length:Nat)]++(m.objs.take i).flatMap cx:=⟨_,rfl⟩
  rw[<-M]at l H;refine l.push ae 0 rfl cJ rfl (by decide) (fun _=>rfl) cg (b8 (E.name.size:Nat)) rfl (by decide) (by omega) fun b2 b9 O=>?_;have K:=O.box 2 rfl;refine⟨⟨by rw[<-w];exact K.cell0 rfl,by rw[<-w];exact K.cell0 rfl,trivial⟩,?_⟩;refine O.pC ae 0 rfl cJ ⟨_,rfl,rfl⟩ rfl (by decide) E.name (by simp;omega) fun I U u=>?_;have y:=u.box 2 rfl;refine⟨⟨by rw[<-w];exact y.cell0 rfl,trivial⟩,?_⟩;have u:Sp h U [au aA I 1 aF (k++[b8 (E.name.size:Nat)]++cq E.name),ao a1 al (aE x),ao a2 bs (bD (L[i]'(by omega)))]:=u;refine aG ⟨E.object,by rw[<-y2];exact y.cell rfl,E.length,by rw[<-T];exact y.cell rfl,?_⟩;have b1:=gv E.name;refine(gN I _ E.object 3 (by decide) (by simp;omega) u).mono ?_;rintro _ cc ⟨F,rfl,G⟩;have W:=G.box 2 rfl;refine⟨F,rfl,⟨by rw[<-T];exact W.cell rfl,trivial⟩,?_⟩;refine(gN F _ E.length 2 (by decide) (by simp[aW];omega) G).mono ?_;rintro _ b4 ⟨B,rfl,N⟩;have V:=N.box 2 rfl;refine⟨B,rfl,trivial,(L[i]'(by omega)).2.2.2,V.cell rfl,?_⟩;refine iL (L[i]'(by omega)).2.2.2 E.tries B _ N (St.mk' fun h' J=>by rw[S];exact(Fix.row (eU.up R J.ai) q).2) (by simp[aW];omega) (by omega) fun Y b5 D=>?_;dsimp only;have a3:=jq z;refine⟨(Y,i+1),by dsimp only;rw[Go.Vc.wrap_small _ (by omega) (by omega)];rfl,⟨by dsimp only;omega,?_⟩,by dsimp only;omega⟩;dsimp only;rw[aD _ _ q,qy,<-qp,<-M,qF,zC,qU,<-S];have e3:k++[b8 (E.name.size:Nat)]++cq E.name++bx E.object 3++bx E.length 2++E.tries.map b8=k++cx E:=by
   unfold cx cq;simp[qp]
  rw[e3]at D;exact D.cH [0,1]
 ·rw[qi (by omega)]at f;refine⟨o,rfl,?_⟩;have e2:a++[b8 (m.objs.length:Nat)]++m.objs.flatMap cx=de m:=by
   rw[c];unfold de;rw[z,if_pos rfl];simp[qp]
  rw[e2]at f;exact f.cH [0]
end Go.Proofs.YtcamechmadjclaaGreatDoor
namespace Go.Vc
open Go Wl
def jN{α:Type}(k:Nat)(f:α->List Value)(L:List (Sl×List α)):HP:=⟨fun h q=>∀y∈L,Seq h q y.1 k f y.2,fun a c y b=>(a y b).ai c,fun a d y b=>(a y b).mono d⟩
section
variable {α:Type} {B:am} {h0 h:Heap} {As:List HP} {k:Nat} {f:α->List Value} {L:List (Sl×List α)} {s:Sl} {l:List α}
theorem aa.xn(H:aa B h0 h As)(k:Nat)(f:α->List Value):aa B h0 h (jN k f []::As):=
 (H.comp (.one (A:=jN k f []) (ax.refl _ _) (fun y a=>by cases a))).bv
theorem aa.xo(H:aa B h0 h (jN k f L::rL s k f l::As)):aa B h0 h (jN k f ((s,l)::L)::As):=by
 have g:aa B h0 h ((rL s k f l).sep (jN k f L)::As):=H.jK;refine g.io 0 rfl fun q ⟨j,i,_,b,c,d,e⟩ y a=>?_;rcases zA.1 a with rfl|a
 ·exact d.mono b
 ·exact(e y a).mono c
end
end Go.Vc
namespace Go.Proofs.YtcamechmadjclaaGreatDoor
open Go Go.Vc Go.Proofs Wl
theorem xJ(n:Int):bx n 4=[b8 (qI n (2^24)),b8 (qI n (2^16)),b8 (qI n (2^8)),b8 n]:=by
 have e:qI n (2^0)=n:=by simp
 show[b8 (qI n (2^24)),b8 (qI n (2^16)),b8 (qI n (2^8)),b8 (qI n (2^0))]=_;rw[e]
theorem vf(seq a c:Int)(b:Sl)(l:List UInt8)(h:Heap)(p:Rd h b 1 aF l)(x:l.length<=2^20):ac wS sM #[wI wO seq,wI wO a,wI wO c,wJ b.ptr b.len b.cap] h fun v h'=>∃r:Sl,v=wJ r.ptr r.len r.cap/\Sp h h' [au aA r 1 aF (fu seq a c l)]:=by
 refine sk seq a c b ?_;unfold od;refine⟨by decide,by decide,by decide,?_⟩;have i:min (24:Int).toNat (ql wO)=24:=rfl;have g:min (16:Int).toNat (ql wO)=16:=rfl;have s:min (8:Int).toNat (ql wO)=8:=rfl;rw[i,g,s,aT,aT,aT,aT,aT,aT,aT];have d:=xJ seq;generalize b8 (qI seq (2^24))=c1 at d⊢;generalize b8 (qI seq (2^16))=c2 at d⊢;generalize b8 (qI seq (2^8))=c3 at d⊢;generalize b8 seq=c4 at d⊢;have e:fu seq a c l=cw 2 ([c1,c2,c3,c4]++([b8 a,b8 c,b8 (b.len:Nat)]++l)):=by unfold fu;rw[d,p.len]
 generalize b8 a=c5 at e⊢;generalize b8 c=c6 at e⊢;generalize b8 (b.len:Nat)=c7 at e⊢;refine(Sp.refl h).lit ae aF cJ rfl [c1,c2,c3,c4,c5,c6,c7] rfl (show 7*1<=2^20 by decide) (by kernel_rfl) fun y u n=>?_;refine n.append ae 0 rfl cJ ⟨_,_,rfl,rfl⟩ rfl (by decide) (fun _=>rfl) (Seq.up p n.ai) cg (by simp;omega) fun o q k=>?_;have m:Rd q o 1 aF ([c1,c2,c3,c4,c5,c6,c7]++l):=k.seq 0 rfl fun _=>rfl;have f:([c1,c2,c3,c4,c5,c6,c7]++l).length<=2^40:=by simp;omega
 rw[e];have j:[c1,c2,c3,c4,c5,c6,c7]++l=[c1,c2,c3,c4]++([c5,c6,c7]++l):=rfl;rw[<-j];generalize [c1,c2,c3,c4,c5,c6,c7]++l=ll at m f⊢;refine(uY 2 o ll q m f).mono ?_;rintro _ w ⟨r,rfl,t⟩;exact⟨r,rfl,r,rfl,(aa.comp (Sp.zip k.ai) t)⟩
theorem ov(x:bn)(m:ba)(h:Heap)(B:cK h x m)(D:co m):ac wS pS #[cE x] h fun v h'=>∃r:Sl,v=wJ r.ptr r.len r.cap/\Sp h h' [bH r (aX m)]:=by
 refine oV x ?_;unfold mn;refine(Sp.refl h).boxed fun w K n=>?_;refine⟨x,(n.box 0 rfl).aO _ rfl,(ve x m K (B.up n.ai) D).mono ?_⟩;rintro _ P ⟨b,rfl,M⟩;have j:=n.comp M;have s:=jr m D;obtain⟨l,p⟩:∃l,l=de m:=⟨_,rfl⟩
 rw[<-p]at j s;have F:=(j.own 1 rfl).len;have k:=(j.own 1 rfl).cap;refine⟨b,rfl,by decide,?_⟩;have d:qa wO (wC (qa wO ((qa wO (((b.len:Nat):Int)+(48:Int)))-(1:Int))) (48:Int))=(bP l:Int):=by
  rw[Go.Vc.wrap_small ((b.len:Int)+48) (by omega) (by omega),Go.Vc.wrap_small ((b.len:Int)+48-1) (by omega) (by omega),zE (by omega)];unfold bP;rw[Go.Vc.wrap_small (((b.len:Int)+48-1)/48) (by omega) (by omega)];omega
 have O:bP l<=3000:=by unfold bP;omega
 rw[d];obtain⟨f,g⟩:∃f:List (List UInt8),f=aX m:=⟨_,rfl⟩
 have E:f.length=bP l:=by rw[g,p];simp[aX]
 have a:Sp h P [bH ⟨none,0,0⟩ (f.take 0),ao w al (aE x),au aA b 1 aF l]:=j.jX bw aA 1 aF;refine aB (fun t:Sl×Nat=>(t.1,(t.2:Int))) (fun t h'=>t.2<=bP l/\Sp h h' [bH t.1 (f.take t.2),ao w al (aE x),au aA b 1 aF l]) (fun t=>bP l-t.2) (⟨none,0,0⟩,0) rfl ⟨by simp,a⟩ ?_;rintro⟨o,i⟩ L ⟨T,a⟩;dsimp only at*;refine af (fun e=>?_) (fun e=>?_)
 ·have q:i<bP l:=by omega
  have z:48*i<l.length:=by unfold bP at q;omega
  rw[Go.Vc.wrap_small ((i:Int)*48) (by omega) (by omega),Go.Vc.wrap_small ((i:Int)+1) (by omega) (by omega),Go.Vc.wrap_small (((i:Int)+1)*48) (by omega) (by omega)];obtain⟨c,Q⟩:∃c:Nat,c=min (48*i+48) l.length:=⟨_,rfl⟩
  have u:(if((i:Int)+1)*48<((b.len:Nat):Int)then((i:Int)+1)*48 else((b.len:Nat):Int))=(c:Int):=by
   split<;>omega
  rw[u];refine⟨m.seq,by rw[<-B.seq];exact(a.box 1 rfl).cell0 rfl,⟨by omega,by omega,by omega⟩,?_⟩;have J:((i:Int)*48).toNat=48*i:=by omega
  rw[J,qm];have y:=((a.seq 2 rfl fun _=>rfl).drop (48*i) k).take (c-48*i) (by rw[qG];omega);have e2:(l.drop (48*i)).take (c-48*i)=(l.drop (48*i)).take 48:=by
   by_cases R:48*i+48<=l.length
   ·rw[show c-48*i=48 by omega]
   ·rw[qi (by rw[qG];omega),qi (by rw[qG];omega)]
  rw[e2,za]at y;refine(vf m.seq i (bP l) ⟨_,c-48*i,b.cap-48*i⟩ _ L (by rw[za];exact y) (by simp;omega)).mono ?_;rintro _ U ⟨r,rfl,I⟩;have A:=(a.dO I).aV 4 [1,0,2,3];refine⟨r,rfl,trivial,?_⟩;refine A.iN ae dU jL rfl [r] rfl (show 1*1<=2^20 by decide) rfl trivial ?_;refine A.nV ae jL (by simp;omega) fun N S H=>⟨trivial,?_⟩
  refine⟨(N,i+1),rfl,⟨by dsimp only;omega,?_⟩,by dsimp only;omega⟩;dsimp only;rw[aD _ _ (show i<f.length by omega)];have G:f[i]'(by omega)=fu m.seq i (bP l) ((l.drop (48*i)).take 48):=by
   subst g;subst p;simp[aX]
  rw[G];exact H
 ·rw[qi (by omega),g]at a;exact⟨o,rfl,a.cH [0]⟩
theorem sV(s:Sl)(a:List kh)(h:Heap)(b:Rd h s 4 bD a)(f:a.length<=2^30):ac wS eI #[wJ s.ptr s.len s.cap] h fun v h'=>∃r:Sl,v=wJ r.ptr r.len r.cap/\Sp h h' [au bs r 4 bD a]:=by
 refine eE s ?_;unfold cA;refine aN (fun e=>?_) (fun e=>?_)
 ·have:=b.isNil e;subst this;exact⟨⟨none,0,0⟩,rfl,(Sp.refl h).nil bs 4 bD⟩
 ·refine(Sp.refl h).lit ae bD xI rfl ([]:List kh) rfl (by decide) rfl fun i k c=>?_;refine c.append ae 0 rfl xI ⟨_,_,rfl,rfl⟩ rfl (by decide) (fun _=>rfl) (Seq.up b c.ai) xl (by simp;omega) fun d j g=>?_;exact⟨d,rfl,g⟩
def wW(a:List (Sl×List Int))(p:kh×Wl.dd):Prop:=(p.1.1=p.2.name/\p.1.2.1=p.2.object/\p.1.2.2.1=p.2.length)/\(p.1.2.2.2,p.2.tries)∈a
theorem aa.vO{B:am}{o h:Heap}{As:List HP}{y:bn}{m:ba}{L:List (kh×Wl.dd)}{a:List (Sl×List Int)}(f:y.1=m.seq/\y.2.1=m.next/\(y.2.2.1,y.2.2.2.1,y.2.2.2.2.1)=m.p/\y.2.2.2.2.2.1=m.extra)(n:L.map wE=m.objs)(v:∀p∈L,wW a p)
  (H:aa B o h (jN 1 ay a::au aL y.2.2.2.2.2.2.1 1 ay m.drives::au bs y.2.2.2.2.2.2.2 4 bD (L.map qL)::As)):aa B o h (dG y m::As):=by
 have l:=(H.own 2 rfl)
 have i:=(H.own 1 rfl)
 have D:=((H.freeze 1 rfl fun _=>rfl).freeze 2 rfl fun _=>rfl).jK.jK;refine D.io 0 rfl fun q ⟨J,I,_,b,c,E,A⟩=>?_;obtain⟨G,F,_,s,u,z3,z4⟩:=A;refine⟨f.1,f.2.1,f.2.2.1,f.2.2.2,z3.mono fun x k=>c x (s x k),⟨L.map qL,E.mono b,by rw[<-n];simp,fun j r e d g=>?_⟩,i.cap,l.cap⟩;rw[<-n]at g;rw[qE]at d g;cases hj:L[j]? with
 |none=>rw[hj]at d;cases d
 |some p=>
  rw[hj]at d g;have w:=zQ.inj (show some p.1=some r from d);have e2:=zQ.inj (show some p.2=some e from g);subst w;subst e2;obtain⟨t,z⟩:=v p (zZ hj);exact⟨t,(z4 _ z).mono fun x k=>c x (u x k)⟩
theorem pe(x:bn)(m:ba)(h:Heap)(A:cK h x m)(R:co m):ac wS nh #[cE x] h fun v h'=>∃(y:bn) (L:List (kh×Wl.dd)) (c:List (Sl×List Int)),v=cE y/\(y.1=m.seq/\y.2.1=m.next/\(y.2.2.1,y.2.2.2.1,y.2.2.2.2.1)=m.p/\y.2.2.2.2.2.1=m.extra)/\L.map wE=m.objs/\(∀p∈L,wW c p)/\
  Sp h h' [jN 1 ay c,au aL y.2.2.2.2.2.2.1 1 ay m.drives,au bs y.2.2.2.2.2.2.2 4 bD (L.map qL)]:=by
 refine sm x ?_;unfold of;refine(Sp.refl h).boxed fun S l H1=>?_;refine H1.alloc ae rfl fun a2 u Q=>?_;have B:=Q.box 0 rfl;have hM:∀{h':Heap} {As:List HP},Sp h h' As->cK h' x m:=fun{h' As} H'=>A.up H'.ai;obtain⟨b,O⟩:=bt.fix A.objs;have ad:=O.2.1;have a5:=R.dr;have a4:=R.ob;refine aG ⟨x.2.2.2.2.2.2.1,B.cell rfl,x.2.2.2.2.2.2.2,B.cell rfl,?_⟩;refine(gF _ m.drives u (hM Q).drives (by omega)).mono ?_;rintro _ h3 ⟨d,rfl,X⟩;have N:=Q.comp X;refine⟨d,rfl,⟨(N.box 0 rfl).cell rfl,trivial⟩,?_⟩;refine(sV _ b h3 (eU.up O N.ai).1 (by omega)).mono ?_;rintro _ h4 ⟨o,rfl,U⟩;have H4:=N.comp U;refine⟨o,rfl,trivial,?_⟩;refine H4.store ae 0 rfl rfl 6 [wJ d.ptr d.len d.cap] rfl rfl rfl (by simp[Value.cells]) fun h5 H5=>⟨trivial,?_⟩
 refine H5.store ae 0 rfl rfl 7 [wJ o.ptr o.len o.cap] rfl rfl rfl (by simp[Value.cells]) fun h6 q=>⟨trivial,?_⟩
 obtain⟨y,w⟩:∃y:bn,y=(x.1,x.2.1,x.2.2.1,x.2.2.2.1,x.2.2.2.2.1,x.2.2.2.2.2.1,d,o):=⟨_,rfl⟩
 have q:Sp h h6 [ao S al (aE y),ao a2 al [wI wO 0,wI wO 0,wI wO 0,wI wO 0,wI wO 0,wI wO 0,wJ none 0 0,wJ none 0 0],au aL d 1 ay m.drives,au bs o 4 bD b]:=by rw[w];exact q
 have f:y.2.2.2.2.2.2.2=o:=by rw[w]
 have M:y.2.2.2.2.2.2.1=d:=by rw[w]
 refine⟨o,by rw[<-f];exact(q.box 0 rfl).cell rfl,?_⟩;have a6:=(q.own 3 rfl).len;have q:=q.xn 1 ay;refine aB (fun t:List kh×List (Sl×List Int)=>(t.1.length:Int)) (fun t h'=>t.1.length<=m.objs.length/\(∀(j:Nat) r e,t.1[j]?=some r->m.objs[j]?=some e->(r.1=e.name/\r.2.1=e.object/\r.2.2.1=e.length)/\(r.2.2.2,e.tries)∈t.2)/\Sp h h' [jN 1 ay t.2,ao S al (aE y),ao a2 al [wI wO 0,wI wO 0,wI wO 0,wI wO 0,wI wO 0,wI wO 0,wJ none 0 0,wJ none 0 0],au aL d 1 ay m.drives,au bs o 4 bD (t.1++b.drop t.1.length)]) (fun t=>m.objs.length-t.1.length) ([],[]) rfl ⟨by simp,fun j r e l=>by simp at l,q⟩ ?_;rintro⟨a,c⟩ V ⟨hi,F,n⟩;dsimp only at*;refine af (fun e=>?_) (fun e=>?_)
 ·have s:a.length<m.objs.length:=by omega
  have F7:=eU.up O n.ai;obtain⟨⟨Y,y2,Z⟩,y4⟩:=Fix.row F7 s;have k:(a++b.drop a.length)[a.length]'(by simp;omega)=b[a.length]'(by omega):=by simp
  obtain⟨J,ha,zz,hc,rfl⟩:=(n.seq 4 rfl fun _=>rfl).gp (g:=bD) (i:=(a.length:Int)) a.length rfl (by simp;omega) (b[a.length]'(by omega)) (by rw[k]) (K:=fun t=>t=b[a.length]'(by omega)) rfl;refine⟨o,by rw[<-f];exact(n.box 1 rfl).cell rfl,o,by rw[<-f];exact(n.box 1 rfl).cell rfl,J,ha,_,hc.2.2.2.1,?_⟩;have a3:=(R.nm _ (qt s)).2;refine(gF _ m.objs[a.length].tries V y4 (by omega)).mono ?_;rintro _ h8 ⟨t,rfl,T⟩;have z:=n.dO T;refine⟨t,rfl,⟨by rw[<-f];exact(z.box 2 rfl).cell rfl,by rw[<-f];exact(z.box 2 rfl).cell rfl,trivial⟩,?_⟩;refine z.vF ae 5 rfl (fun _=>rfl) rfl a.length rfl (by simp;omega) 3 [wJ t.ptr t.len t.cap] (by simp) ((b[a.length]'(by omega)).1,(b[a.length]'(by omega)).2.1,(b[a.length]'(by omega)).2.2.1,t) rfl rfl rfl (by rw[k];simp[bD]) fun h9 D=>⟨trivial,?_⟩
  have D:=(D.freeze 0 rfl fun _=>rfl).aV 6 [1,0,2,3,4,5];have D:=D.xo;refine⟨(a++[((b[a.length]'(by omega)).1,(b[a.length]'(by omega)).2.1,(b[a.length]'(by omega)).2.2.1,t)],(t,m.objs[a.length].tries)::c),by simp only[qu,List.length_singleton];rw[Go.Vc.wrap_small _ (by omega) (by omega)];rfl,⟨by simp;omega,fun j r e l u=>?_,?_⟩,by simp;omega⟩
  ·dsimp only at l⊢;by_cases H:j<a.length
   ·rw[qk H]at l;obtain⟨g1,W⟩:=F j r e l u;exact⟨g1,qX _ W⟩
   ·have I:j=a.length:=by
     have:=(qn.1 l).1;simp at this;omega
    subst I;rw[qf (qM _),zT]at l;simp at l;rw[qc s]at u;injection u with u
    subst l;subst u;exact⟨⟨Y,y2,Z⟩,zg⟩
  ·dsimp only;have e4:(a++b.drop a.length).set a.length ((b[a.length]'(by omega)).1,(b[a.length]'(by omega)).2.1,(b[a.length]'(by omega)).2.2.1,t)=a++[((b[a.length]'(by omega)).1,(b[a.length]'(by omega)).2.1,(b[a.length]'(by omega)).2.2.1,t)]++b.drop (a++[((b[a.length]'(by omega)).1,(b[a.length]'(by omega)).2.1,(b[a.length]'(by omega)).2.2.1,t)]).length:=by
    rw[zb _ _ (qM _),zT,qY (show a.length<b.length by omega),List.set_cons_zero];simp
   rw[<-e4];exact D
 ·have a0:a.length=m.objs.length:=by omega
  rw[q9 (by omega),qU]at n;refine⟨y,(n.box 1 rfl).aO _ rfl,?_⟩;refine n.storeAll ae 2 rfl rfl (aE y) rfl rfl rfl rfl fun h8 z=>?_;have G:(a.zip m.objs).map qL=a:=List.map_fst_zip (by omega);have P:(a.zip m.objs).map wE=m.objs:=List.map_snd_zip (by omega);refine⟨y,(z.box 2 rfl).aO _ rfl,y,a.zip m.objs,c,rfl,⟨by rw[w];exact A.seq,by rw[w];exact A.next,by rw[w];exact A.p,by rw[w];exact A.extra⟩,P,fun p hp=>?_,?_⟩
  ·obtain⟨j,H,rfl⟩:=List.getElem_of_mem hp;have E:j<a.length/\j<m.objs.length:=by simp at H;omega
   have:=F j _ _ (qc E.1) (qc E.2);rw[List.getElem_zip];exact this
  ·rw[G,M,f];exact z.cH [0,3,4]
theorem ud(x:bn)(m:ba)(h:Heap)(f:cK h x m)(b:co m):ac wS nh #[cE x] h fun v h'=>∃y:bn,v=cE y/\Sp h h' [dG y m]:=by
 refine(pe x m h f b).mono ?_;rintro _ h' ⟨y,L,a,rfl,c,d,e,H⟩;exact⟨y,rfl,aa.vO c d e H⟩
end Go.Proofs.YtcamechmadjclaaGreatDoor
namespace Go.Vc
open Go Wl Go.Proofs.YtcamechmadjclaaGreatDoor
section
variable {B:am} {h0 h h':Heap} {As L:List HP} {X Y Z:HP}
theorem aa.yc(H:aa B h0 h (X::Y::(L++As))):aa B h0 h (L++(X::Y::As)):=
 H.pick (fun i=>if i<L.length then i+2 else if i=L.length then 0 else if i=L.length+1 then 1 else i) (fun a b c=>by(try dsimp only at c);split at c<;>split at c<;>(try split at c)<;>(try split at c)<;>(try split at c)<;>(try split at c)<;>omega) fun i A d=>by
  try dsimp only
  by_cases f:i<L.length
  ·rw[qk f]at d;rw[if_pos f,qe,qe,qk f];exact d
  ·rw[qf (by omega)]at d;rw[if_neg f];by_cases h0':i=L.length
   ·subst h0';rw[if_pos rfl];rw[zT]at d;exact d
   ·rw[if_neg h0'];by_cases e:i=L.length+1
    ·subst e;rw[if_pos rfl];rw[show L.length+1-L.length=1 by omega]at d;exact d
    ·rw[if_neg e];obtain⟨j,rfl⟩:∃j,i=L.length+(j+2):=⟨i-L.length-2,by omega⟩
     rw[qW,qe,qe]at d;rw[show L.length+(j+2)=(L.length+j)+1+1 by omega,qe,qe,qf (by omega),qW];exact d
theorem aa.xp(n:Nat)(b:L[n]?=some X)(H:aa B h0 h (Y::Z::(L++As))):aa B h0 h (X::Z::Y::(L.set n emp++As)):=by
 have a:=(qn.1 b).1;have c:=H.cons (n+2) (A:=X) (by rw[qe,qe,qk a];exact b);have e:(Y::Z::(L++As)).set (n+2) emp=Y::Z::(L.set n emp++As):=by
  rw[zF,zF,List.set_append_left _ _ a]
 rw[e]at c;exact c.aV 3 [0,2,1]
theorem aa.tA(n:Nat)(g:n<L.length)(H:aa B h0 h (X::Z::Y::(L.set n emp++As))):aa B h0 h (Y::Z::(L.set n X++As)):=
 H.pick (fun i=>if i=0 then 2 else if i=1 then 1 else if i=n+2 then 0 else i+1) (fun a b c=>by(try dsimp only at c);split at c<;>split at c<;>(try split at c)<;>(try split at c)<;>(try split at c)<;>(try split at c)<;>omega) fun i A d=>by
  try dsimp only
  match i,d with
  |0,d=>exact d
  |1,d=>exact d
  |i+2,d=>
   rw[if_neg (by omega),if_neg (by omega)];rw[qe,qe]at d;by_cases e:i=n
   ·subst e;rw[qk (by simpa using g),zU g]at d;rw[if_pos rfl];exact d
   ·rw[if_neg (by omega),qe,qe,qe];by_cases f:i<L.length
    ·rw[qk (by simpa using f),zL (by omega)]at d;rw[qk (by simpa using f),zL (by omega)];exact d
    ·rw[qf (by simp;omega),q8]at d;rw[qf (by simp;omega),q8];exact d
end
structure Kit where
 tS:Nat
 tP:Nat
 tD:Nat
 f:Addr->aU->Sl->Sl->List Value
def xK(k:Kit)(pw:Addr)(a:Option Addr)(d:Option aU):HP:=match a,d with
 |some a,some d=>dF k.tD (k.f pw) a d
 |_,_=>emp
abbrev bh(b:List Value)(pw:Addr)(a:Int)(c:List (Option Addr)):List Value:=b++(wK (some pw)::wI wO a::c.map .pointer)
structure cf (mc:List Value) (da:List (Option Addr)) (ds:aY):Prop where
 l8:mc.length=8
 la:da.length=64
 ls:ds.length=64
 same:∀i:Nat,(da.getD i none).isSome=(ds.getD i none).isSome
abbrev cF(k:Kit)(pw:Addr)(a:List (Option Addr))(b:aY):List HP:=List.zipWith (xK k pw) a b
def aI(k:Kit)(a pw:Addr)(e:List Value)(b:Int)(c:List (Option Addr))(w:Pow)(d:aY):HP:=
 (HP.all (ao a k.tS (bh e pw b c)::bT k.tP pw w::cF k pw c d)).and (cf e c d)
section
variable {k:Kit} {B:am} {h0 h h':Heap} {As:List HP} {a pw:Addr} {mc:List Value} {offs:Int} {da:List (Option Addr)} {w w':Pow} {ds:aY} {d d':aU} {n:Nat}
theorem sw(ok:cf mc da ds):(cF k pw da ds).length=64:=by simp[cF,ok.la,ok.ls]
theorem aa.fp(H:aa B h0 h (aI k a pw mc offs da w ds::As)):cf mc da ds/\aa B h0 h (ao a k.tS (bh mc pw offs da)::bT k.tP pw w::(cF k pw da ds++As)):=by
 obtain⟨H,ok⟩:=H.oQ;exact⟨ok,H.ku⟩
theorem aa.my(ok:cf mc da ds)(H:aa B h0 h (ao a k.tS (bh mc pw offs da)::bT k.tP pw w::(cF k pw da ds++As))):aa B h0 h (aI k a pw mc offs da w ds::As):=
 (aa.closeAll (ao a k.tS (bh mc pw offs da)::bT k.tP pw w::cF k pw da ds) H).tooQ ok
theorem cf.addr(ok:cf mc da ds)(c:ds[n]?=some (some d)):∃b,da[n]?=some (some b):=by
 have f:n<64:=by have:=(qn.1 c).1;rw[ok.ls]at this;exact this
 have a:=ok.same n;rw[qj,qj,c]at a;have g:n<da.length:=by rw[ok.la];exact f
 rw[qc g]at a⊢;simp at a;obtain⟨b,e⟩:=wb.1 a;exact⟨b,by rw[e]⟩
theorem cf.vg(ok:cf mc da ds)(b:n<64)(c:ds[n]?=some none):da[n]?=some none:=by
 have a:=ok.same n;rw[qj,qj,c]at a;have d:n<da.length:=by rw[ok.la];exact b
 rw[qc d]at a⊢;simp at a;rw[a]
theorem cf.set(ok:cf mc da ds){b:Addr}(c:da[n]?=some (some b)):cf mc da (ds.set n (some d')):=by
 refine⟨ok.l8,ok.la,by rw[q8];exact ok.ls,fun i=>?_⟩;by_cases a:n=i
 ·subst a;have d:n<ds.length:=by have:=(qn.1 c).1;rw[ok.la]at this;rw[ok.ls];exact this
  rw[qj,c,qj,zU d];rfl
 ·rw[qj (l:=ds.set n _),zL a,<-qj];exact ok.same i
theorem vP{b:Addr}(c:da[n]?=some (some b))(e:n<ds.length):(cF k pw da ds).set n (dF k.tD (k.f pw) b d')=cF k pw da (ds.set n (some d')):=by
 apply zW;intro j;have d:n<da.length:=(qn.1 c).1;simp only[cF,qN,zG,List.length_zipWith];by_cases a:n=j
 ·subst a;rw[if_pos rfl,if_pos (by omega),if_pos rfl,if_pos e,c];rfl
 ·simp[a]
def ow(k:Kit)(a pw:Addr)(e:List Value)(b:Int)(c:List (Option Addr))(d:aY)(n:Nat):HP:=
 (HP.all (ao a k.tS (bh e pw b c)::(cF k pw c d).set n emp)).and (cf e c d)
theorem aa.cL(H:aa B h0 h (aI k a pw mc offs da w ds::As))(e:ds[n]?=some (some d)):∃b,da[n]?=some (some b)/\aa B h0 h (dF k.tD (k.f pw) b d::bT k.tP pw w::ow k a pw mc offs da ds n::As):=by
 obtain⟨ok,j⟩:=H.fp;obtain⟨b,c⟩:=ok.addr e;refine⟨b,c,?_⟩;have i:(cF k pw da ds)[n]?=some (dF k.tD (k.f pw) b d):=by
  simp only[cF,zG,c,e];rfl
 have l:=j.xp n i;have g:aa B h0 h (dF k.tD (k.f pw) b d::bT k.tP pw w::((ao a k.tS (bh mc pw offs da)::(cF k pw da ds).set n emp)++As)):=l;exact(((aa.closeAll _ g.yc).tooQ ok).aV 3 [1,2,0]:aa B h0 h (dF k.tD (k.f pw) b d::bT k.tP pw w::ow k a pw mc offs da ds n::As))
theorem aa.lc{b:Addr}(m:da[n]?=some (some b))(H:aa B h0 h (dF k.tD (k.f pw) b d'::bT k.tP pw w'::ow k a pw mc offs da ds n::As)):aa B h0 h (aI k a pw mc offs da w' (ds.set n (some d'))::As):=by
 have j:aa B h0 h (ow k a pw mc offs da ds n::bT k.tP pw w'::dF k.tD (k.f pw) b d'::As):=H.aV 3 [2,1,0];obtain⟨j,ok⟩:=j.oQ;have p:=j.ku;have q:n<ds.length:=by have:=(qn.1 m).1;rw[ok.la]at this;rw[ok.ls];exact this
 have t:=sw (k:=k) (pw:=pw) ok;have g:n<(cF k pw da ds).length:=by rw[t,<-ok.ls];exact q
 obtain⟨L,o⟩:∃L,L=cF k pw da ds:=⟨_,rfl⟩
 rw[<-o]at p g;have s:aa B h0 h (dF k.tD (k.f pw) b d'::bT k.tP pw w'::ao a k.tS (bh mc pw offs da)::(L.set n emp++As)):=by
  refine p.pick (fun i=>if i=0 then 1+L.length+1 else if i=1 then 1+L.length else if i=2 then 0 else if i<3+L.length then i-2 else i) (fun x y c=>by(try dsimp only at c);split at c<;>split at c<;>(try split at c)<;>(try split at c)<;>(try split at c)<;>(try split at c)<;>(try split at c)<;>(try split at c)<;>omega) fun i A e=>?_
  try dsimp only
  have d:(ao a k.tS (bh mc pw offs da)::L.set n emp).length=1+L.length:=by simp;omega
  match i,e with
  |0,e=>rw[if_pos rfl,qf (by omega),d,show 1+L.length+1-(1+L.length)=1 by omega];exact e
  |1,e=>rw[if_neg (by omega),if_pos rfl,qf (by omega),d,zT];exact e
  |2,e=>rw[if_neg (by omega),if_neg (by omega),if_pos rfl];exact e
  |i+3,e=>
   rw[if_neg (by omega),if_neg (by omega),if_neg (by omega)];rw[qe,qe,qe]at e;by_cases l:i<L.length
   ·rw[if_pos (by omega),show i+3-2=i+1 by omega,qk (by rw[d];omega),qe];rw[qk (by simpa using l)]at e;exact e
   ·rw[if_neg (by omega),qf (by rw[d];omega),d,show i+3-(1+L.length)=(i-L.length)+2 by omega,qe,qe];rw[qf (by simp;omega),q8]at e;exact e
 have r:=aa.tA n g s;rw[o,vP m q]at r;exact r.my (ok.set m)
end
def ld:iy (Int×Sl) (Int×List UInt8):=⟨fun h q a b=>a.1=b.1/\Seq h q a.2 1 aF b.2,fun a c=>⟨a.1,a.2.ai c⟩,fun a d=>⟨a.1,a.2.mono d⟩⟩
def piv(x:Int×Sl):List Value:=[wI wO x.1,wJ x.2.ptr x.2.len x.2.cap]
theorem tB:∀x,∀c∈piv x,c.oneCell'=true:=by intro x c a;simp[piv]at a;rcases a with rfl|rfl<;>rfl
def dl(b:List (Option Addr))(a:Int):Option Addr:=if 0<=a/\a<64 then(b[a.toNat]?).join else none
theorem dm{j:List Value}{f:List (Option Addr)}{c:aY}(ok:cf j f c)(a:Int):
  (gW c a=none/\dl f a=none)∨∃(n:Nat) (d:aU) (b:Addr),a=n/\n<64/\c[n]?=some (some d)/\gW c a=some d/\f[n]?=some (some b)/\dl f a=some b:=by
 unfold gW dl;by_cases h:0<=a/\a<64
 ·rw[if_pos h,if_pos h];have i:a.toNat<c.length:=by rw[ok.ls];omega
  cases hd:c[a.toNat]with
  |none=>
   have e:c[a.toNat]?=some none:=by rw[qc i,hd]
   exact .inl ⟨by rw[e];rfl,by rw[ok.vg (by omega) e];rfl⟩
  |some d=>
   have e:c[a.toNat]?=some (some d):=by rw[qc i,hd]
   obtain⟨b,g⟩:=ok.addr e;exact .inr ⟨a.toNat,d,b,by omega,by omega,e,by rw[e];rfl,g,by rw[g];rfl⟩
 ·rw[if_neg h,if_neg h];exact .inl ⟨rfl,rfl⟩
theorem pK{c:List Value}{pw:Addr}{a:Int}{b:List (Option Addr)}(h8:c.length=8)(n:Nat):(bh c pw a b)[10+n]?=(b[n]?).map .pointer:=by
 unfold bh;rw[qf (by omega),h8,show 10+n-8=n+1+1 by omega,qe,qe,qE]
theorem lf{b:List Value}{pw:Addr}{a:Int}{c:List (Option Addr)}(h8:b.length=8):(bh b pw a c)[8]?=some (wK (some pw)):=by
 unfold bh;rw[qf (by omega),h8];rfl
theorem ox{b:List Value}{pw:Addr}{a:Int}{c:List (Option Addr)}(h8:b.length=8):(bh b pw a c)[9]?=some (wI wO a):=by
 unfold bh;rw[qf (by omega),h8];rfl
end Go.Vc
namespace Go.Proofs.YtcamechmadjclaaGreatDoor
open Go Go.Vc Go.Proofs Wl
abbrev bU:Go.Vc.Kit:=⟨db,aS,bL,fun pw=>eb pw⟩
theorem sx{e:TypeId}(s:Sl)(l:List Int)(h:Heap)(c:Own h e s 1 ay l)(a:l.length<2^40):ac wS iJ #[wJ s.ptr s.len s.cap] h fun v h'=>v=wJ s.ptr (Lib.compact l).length s.cap/\Own h' e ⟨s.ptr,(Lib.compact l).length,s.cap⟩ 1 ay (Lib.compact l)/\ax (fun b=>¬s.on b) h h':=
 nY Tryz.slices_Compact_int Tryz.slices_Compact_int_empty c a
section
variable {B:am} {h0 h h':Heap} {As:List HP} {a pw:Addr} {mc:List Value} {offs:Int} {da:List (Option Addr)} {w:Pow} {ds:aY}
theorem dn(b:Int)(ok:cf mc da ds)(f:bE h a db (bh mc pw offs da)):ac wS bG #[wK (some a),wI wO b] h fun v h'=>v=.pointer (dl da b)/\h'=h:=by
 refine ky (some a) b ?_;unfold gh;have d:¬(0<=b/\b<64)->Value.pointer none=.pointer (dl da b)/\h=h:=fun e=>by unfold dl;rw[if_neg e];exact⟨rfl,rfl⟩
 refine aG (aN (fun e=>by cases e) fun _=>af (fun e=>d (by omega)) fun g=>af (fun e=>d (by omega)) fun e2=>?_);have c:b.toNat<da.length:=by rw[ok.la];omega
 refine⟨a,rfl,⟨by omega,by omega⟩,da[b.toNat],?_,?_,rfl⟩
 ·rw[za];refine f.lA 10 b.toNat ?_;rw[pK ok.l8,qc c];rfl
 ·unfold dl;rw[if_pos (by omega),qc c];rfl
theorem aa.dc(H:aa B h0 h (aI bU a pw mc offs da w ds::As)):cf mc da ds/\bE h a db (bh mc pw offs da):=by
 obtain⟨ok,b⟩:=Go.Vc.aa.fp H;exact⟨ok,b.box 0 rfl⟩
theorem ue(s:Sl)(l:List Int)(u:Rd h s 1 ay l)(K:l.length<=2^30)(H:aa B h0 h (aI bU a pw mc offs da w ds::As)):
  ac wS sO #[.func (.func bG) #[wK (some a)] #[],wJ s.ptr s.len s.cap] h fun v h'=>∃r:Sl,v=wJ r.ptr r.len r.cap/\Sp h h' [au aL r 1 ay (bR ds l)]:=by
 refine sn (bG,#[wK (some a)],#[]) s ?_;unfold og;have y:=u.len;obtain⟨ok,x⟩:=aa.dc H;refine aB (fun t:Sl×Nat=>(t.1,(t.2:Int))) (fun t h'=>t.2<=l.length/\Sp h h' [au aL t.1 1 ay (bR ds (l.take t.2))]) (fun t=>l.length-t.2) (⟨none,0,0⟩,0) rfl ⟨by simp,by simpa[bR]using(Sp.refl h).nil aL 1 ay⟩ ?_;rintro⟨o,i⟩ I ⟨L,j⟩;dsimp only at*;refine af (fun e=>?_) (fun e=>?_)
 ·have p:i<l.length:=by omega
  have c:bR ds (l.take (i+1))=bR ds (l.take i)++(if isLive ds l[i]then[l[i]]else[]):=by
   unfold bR;rw[aD _ _ p,List.filter_append,wz,List.filter_nil]
  have E:(bR ds (l.take i)).length<=l.length:=by
   have:=zH (isLive ds) (l.take i);unfold bR;simp at this⊢;omega
  have next:∀{h':Heap} {k:Sl},Sp h h' [au aL k 1 ay (bR ds (l.take (i+1)))]->∃m:Sl×Nat,((⟨k.ptr,k.len,k.cap⟩:Sl),qa wO ((i:Int)+1))=(m.1,(m.2:Int))/\(m.2<=l.length/\Sp h h' [au aL m.1 1 ay (bR ds (l.take m.2))])/\l.length-m.2<l.length-i:=fun{h' k} H'=>
   ⟨(k,i+1),by dsimp only;rw[Go.Vc.wrap_small _ (by omega) (by omega)];rfl,⟨by dsimp only;omega,H'⟩,by dsimp only;omega⟩
  refine(Seq.up u j.ai).cd i rfl p l[i] rfl (lZ (by rfl) ?_);refine(dn l[i] ok (x.ai j.ai x.lt)).mono ?_;rintro _ M ⟨rfl,rfl⟩;refine⟨_,rfl,?_⟩;rcases dm ok l[i]with⟨c1,c2⟩|⟨n,d,b,c0,c1,c2,c3,c4,c5⟩
  ·rw[c2];have g:isLive ds l[i]=false:=by unfold isLive;rw[c1]
   rw[g]at c;refine aK (fun e=>by cases e) fun _=>next (by rw[c];simpa using j)
  ·rw[c5];have g:isLive ds l[i]=!d.lost:=by unfold isLive;rw[c3]
   refine aK (fun _=>?_) fun e=>by cases e
   obtain⟨G,f,z⟩:=Go.Vc.aa.cL (aa.up H j.ai) c2;rw[c4]at f;injection f with f
   injection f with f
   subst f;obtain⟨D,F,q,_,_⟩:=gG.box z;refine(pJ D F q).mono ?_;rintro _ J ⟨rfl,rfl⟩;refine⟨_,rfl,aK (fun e=>?_) (fun e=>?_)⟩
   ·rw[g,e]at c;refine j.push ae 0 rfl jp rfl (by decide) (fun _=>rfl) gq l[i] rfl (by decide) (by omega) fun k N A=>next ?_
    rw[c];exact A
   ·rw[g,e]at c;exact next (by rw[c];simpa using j)
 ·rw[qi (by omega)]at j;exact⟨o,rfl,j⟩
theorem uf(s:Sl)(l:List Int)(X:St B h0 As fun h=>Rd h s 1 ay l)(hl:l.length<=2^30)(G:∀x∈l,0<=x/\x<64)(H:aa B h0 h (aI bU a pw mc offs da w ds::As)):
  ac wS sN #[.func (.func bG) #[wK (some a)] #[],wJ s.ptr s.len s.cap] h fun v h'=>v=wI wO (dv (cv l) w ds).1/\aa B h0 h' (aI bU a pw mc offs da (dv (cv l) w ds).2.1 (dv (cv l) w ds).2.2::As):=by
 refine sl (bG,#[wK (some a)],#[]) s ?_;unfold oe;refine(gF s l h (X.at [_] H) (by omega)).mono ?_;rintro _ U ⟨r,rfl,S⟩;have J:=H.dO S;refine⟨r,rfl,(uS r l U (J.own 0 rfl) (by omega)).mono ?_⟩;rintro _ Z ⟨rfl,M,V⟩;have R:=J.gr 0 rfl V M;refine⟨(),rfl,(sx r (fh l) Z M (by rw[uK];omega)).mono ?_⟩;rintro _ W ⟨rfl,P,K⟩;have o:=R.step (D:=au aL ⟨r.ptr,(Lib.compact (fh l)).length,r.cap⟩ 1 ay (Lib.compact (fh l))) 0 rfl fun q A z=>⟨K.mono fun b _ m F=>m (A.2 b F),P,fun b m=>⟨qv (z b (A.2 b m)) K.1,.inl (A.2 b m)⟩⟩
 rw[tV l G]at o⊢;obtain⟨u,I⟩:∃u,u=cv l:=⟨_,rfl⟩
 rw[<-I]at o⊢;have o:aa B h0 W (au aL ⟨r.ptr,u.length,r.cap⟩ 1 ay u::aI bU a pw mc offs da w ds::As):=o;have Q:u.length<=64:=by
  have:=zH (fun i=>decide (i∈l)) ((zf 64).map fun i:Nat=>(i:Int));rw[I];unfold cv;simpa using this
 refine⟨⟨r.ptr,u.length,r.cap⟩,rfl,?_⟩;refine aB (fun t:Nat×Pow×aY=>(t.1:Int)) (fun t h'=>t.1<=u.length/\dv u w ds=dv (u.drop t.1) t.2.1 t.2.2/\aa B h0 h' (au aL ⟨r.ptr,u.length,r.cap⟩ 1 ay u::aI bU a pw mc offs da t.2.1 t.2.2::As)) (fun t=>u.length-t.1) (0,w,ds) rfl ⟨by simp,rfl,o⟩ ?_;rintro⟨i,j,f⟩ h4 ⟨hi,c,p⟩;dsimp only at*;refine af (fun e=>?_) (fun e=>?_)
 ·have y:i<u.length:=by omega
  obtain⟨ok,m⟩:=aa.dc p.rest;rw[qY y,kO]at c;refine(p.seq 0 rfl fun _=>rfl).cd i rfl y u[i] rfl (lZ (by rfl) ?_);refine(dn u[i] ok m).mono ?_;rintro _ T ⟨rfl,rfl⟩;refine⟨_,rfl,?_⟩;rcases dm ok u[i]with⟨c1,c2⟩|⟨n,d,b,c0,c1,c2,c3,c4,c5⟩
  ·rw[c2];refine(su T).mono ?_;rintro _ Y ⟨rfl,rfl⟩;have E:ci j f u[i]=(5,j,f):=by unfold ci;rw[c1]
   rw[E]at c;refine⟨5,rfl,bq (fun _=>?_) fun e=>absurd e (by decide)⟩;have:dv u w ds=(5,j,f):=c;rw[this];exact⟨rfl,p.rest⟩
  ·rw[c5];obtain⟨b',g,N⟩:=Go.Vc.aa.cL (p.aV 2 [1,0]) c2;rw[c4]at g;injection g with g
   injection g with g
   subst g;refine(uT N).mono ?_;rintro _ Y ⟨rfl,O⟩;have L:=Go.Vc.aa.lc (k:=bU) (n:=n) c4 O;have E:ci j f u[i]=((d.sync j).1,(d.sync j).2.1,f.set n (some (d.sync j).2.2)):=by
    unfold ci;rw[c3];simp only[fG,c0,qm]
   rw[E]at c;refine⟨_,rfl,bq (fun e2=>?_) fun e2=>?_⟩
   ·have:dv u w ds=((d.sync j).1,(d.sync j).2.1,f.set n (some (d.sync j).2.2)):=by rw[c];exact if_neg e2
    rw[this];exact⟨rfl,L.fg⟩
   ·refine⟨(i+1,(d.sync j).2.1,f.set n (some (d.sync j).2.2)),by dsimp only;rw[Go.Vc.wrap_small _ (by omega) (by omega)];rfl,⟨by dsimp only;omega,?_,L.aV 2 [1,0]⟩,by dsimp only;omega⟩;rw[c];exact if_pos e2
 ·rw[q9 (by omega)]at c;rw[c];exact⟨rfl,p.rest⟩
end
end Go.Proofs.YtcamechmadjclaaGreatDoor
namespace Go.Vc
open Go Wl
theorem HP.pf{h:Heap}:∀{L:List HP} {q:am} {i:Nat} {A:HP},(HP.all L).p h q->L[i]?=some A->A.p h q
 |A::L,q,0,A',⟨q1,q2,_,b,_,d,_⟩,hi=>by simp at hi;subst hi;exact A.mono d b
 |A::L,q,i+1,A',⟨q1,q2,_,_,c,_,e⟩,hi=>A'.mono (HP.pf e (by simpa using hi)) c
 |[],_,i,_,_,hi=>by simp at hi
section
variable {α β:Type} {B:am} {h0 h:Heap} {As:List HP} {e e2 k:Nat} {s:Sl} {f:α->List Value} {ll:List (List α)}
theorem aa.xL(H:aa B h0 h (iC e s e2 k f ll::As))(m:∀x,(f x).length=k):∃rs,aa B h0 h (mh (rP k f) 1 dU s rs ll::As):=by
 obtain⟨rs,H⟩:=H.rl;obtain⟨H,d⟩:=H.oQ;refine⟨rs,H.io 0 rfl fun q b=>⟨?_,d,fun i r l c a=>?_⟩⟩
 ·have:=HP.pf (i:=0) b rfl;exact this.1.seq (fun _=>rfl) this.2
 ·have g:i<ll.length:=(qn.1 a).1;have n:=nc (e:=e2) (k:=k) (f:=f) d i g;have:=HP.pf (i:=i+1) b (by simpa using n);have j:rs[i]'(by omega)=r:=by rw[qc (by omega)]at c;simpa using c
  have e2:ll[i]=l:=by rw[qc g]at a;simpa using a
  rw[j,e2]at this;exact this.1.seq m this.2
end
end Go.Vc
namespace Wl
def aQ(m:ba)(a:List Int):List (Int×List UInt8):=a.flatMap fun n=>(aX m).map fun c=>(n,c)
theorem gO{m:ba}{a:List Int}{x:Int×List UInt8}(h:x∈aQ m a):x.1∈a/\x.2.length=64:=by
 unfold aQ at h;obtain⟨n,b,d⟩:=zB.1 h;obtain⟨c,e,rfl⟩:=zx.1 d;exact⟨b,tU e⟩
end Wl
namespace Go.Proofs.YtcamechmadjclaaGreatDoor
open Go Go.Vc Go.Proofs Wl
theorem mz(m:ba)(a:co m):(aX m).length<=3000:=by
 have:=jr m a;unfold aX bP;simp;omega
abbrev xM:bk C.tokp oT cI 2 [wI wO 0,wJ none 0 0] 32:=⟨_,_,rfl,rfl,rfl,rfl,rfl,rfl⟩
section
variable {B:am} {h0 h h':Heap} {As:List HP} {a pw:Addr} {mc:List Value} {offs:Int} {da:List (Option Addr)} {w:Pow} {ds:aY}
theorem vh(s:Sl)(q:List (Int×Sl))(P:List (Int×List UInt8))(I:St B h0 As fun h=>eU ld 2 piv h s q P)(hl:P.length<=2^30)(F:∀x∈P,(0<=x.1/\x.1<64)/\x.2.length<=2^20)(H:aa B h0 h (aI bU a pw mc offs da w ds::As)):
  ac wS tY #[.func (.func bG) #[wK (some a)] #[],wJ s.ptr s.len s.cap] h fun v h'=>v=wI wO (layAll P w ds).1/\aa B h0 h' (aI bU a pw mc offs da (layAll P w ds).2.1 (layAll P w ds).2.2::As):=by
 refine sL (bG,#[wK (some a)],#[]) s ?_;unfold pF;have R:=(I.at [_] H).1.len;have Z:=(I.at [_] H).2.1;have U:=(H.nil aL 1 ay).bv;refine aB (fun t:Sl×Nat×Pow×aY=>(t.1,(t.2.1:Int))) (fun t h'=>t.2.1<=P.length/\cN P w ds=cN (P.drop t.2.1) t.2.2.1 t.2.2.2/\aa B h0 h' (au aL t.1 1 ay ((P.take t.2.1).map qL)::aI bU a pw mc offs da t.2.2.1 t.2.2.2::As)) (fun t=>P.length-t.2.1) (⟨none,0,0⟩,0,w,ds) rfl ⟨by simp,rfl,by simpa using U⟩ ?_;rintro⟨o,i,u,p⟩ h1 ⟨hi,f,G⟩;dsimp only at*;refine af (fun e=>?_) (fun e=>?_)
 ·have r:i<P.length:=by omega
  rw[qY r,iS]at f;have Q:=I.at [_,_] G;have K:=F _ (qt r);refine Q.1.gp (g:=piv) i rfl (by omega) (q[i]'(by omega)) rfl ?_;refine G.alloc ae rfl fun a4 h2 z=>?_;have z:=z.bv;refine z.storeAll ae 0 rfl rfl (piv (q[i]'(by omega))) rfl rfl rfl rfl fun X j=>?_;obtain⟨O,N⟩:=Fix.row (I.at [_,_,_] j) r;have j:aa B h0 X (ao a4 cI (piv (q[i]'(by omega)))::au aL o 1 ay ((P.take i).map qL)::aI bU a pw mc offs da u p::As):=j;have j:=j.aV 3 [2,0,1];obtain⟨ok,hb⟩:=aa.dc j;obtain⟨c,m⟩:∃c,c=bO u p P[i].1 P[i].2:=⟨_,rfl⟩
  rw[<-m]at f;refine dN (fun _ h'=>c.1=0/\aa B h0 h' (aI bU a pw mc offs da c.2.1 c.2.2::ao a4 cI (piv (q[i]'(by omega)))::au aL o 1 ay ((P.take i).map qL)::As)) ?_ ?_
  ·refine dN (fun e h'=>e=c.1/\aa B h0 h' (aI bU a pw mc offs da c.2.1 c.2.2::ao a4 cI (piv (q[i]'(by omega)))::au aL o 1 ay ((P.take i).map qL)::As)) ?_ ?_
   ·refine⟨P[i].1,by rw[<-O];exact(j.box 1 rfl).cell0 rfl,(q[i]'(by omega)).2,(j.box 1 rfl).cell rfl,lZ (by rfl) ?_⟩;refine(dn P[i].1 ok hb).mono ?_;rintro _ M ⟨rfl,rfl⟩;refine⟨_,rfl,⟨(j.box 1 rfl).cell rfl,trivial⟩,?_⟩;rcases dm ok P[i].1 with⟨c1,c2⟩|⟨n,d,b,c0,c1,c2,c3,c4,c5⟩
    ·rw[c2];refine(pd (q[i]'(by omega)).2 P[i].2 M N).mono ?_;rintro _ V ⟨rfl,rfl⟩;have A:c=(if P[i].2.length≠64 then 1 else 5,u,p):=by rw[m];unfold bO;rw[c1]
     refine⟨_,rfl,trivial,by rw[A],?_⟩;rw[A];exact j
    ·rw[c5];obtain⟨b',l,J⟩:=Go.Vc.aa.cL j c2;rw[c4]at l;injection l with l
     injection l with l
     subst l;refine(sS (q[i]'(by omega)).2 P[i].2 J N K.2).mono ?_;rintro _ h6 ⟨rfl,S⟩;have H7:=Go.Vc.aa.lc (k:=bU) (n:=n) c4 S;have A:c=((d.append u P[i].2).1,(d.append u P[i].2).2.1,p.set n (some (d.append u P[i].2).2.2)):=by
      rw[m];unfold bO;rw[c3];simp only[fG,c0,qm]
     refine⟨_,rfl,trivial,by rw[A],?_⟩;rw[A];exact H7
   ·rintro e4 M ⟨rfl,D⟩;refine bq (fun e2=>?_) fun e2=>⟨e2,D⟩
    rw[if_neg e2]at f;have:layAll P w ds=c:=by unfold layAll;rw[f];exact if_neg e2
    rw[this];exact⟨rfl,D.fg.fg⟩
  ·rintro _ M ⟨e2,D⟩;rw[if_pos e2]at f;refine⟨P[i].1,by rw[<-O];exact(D.box 1 rfl).cell0 rfl,?_⟩;refine D.push ae 2 rfl jp rfl (by decide) (fun _=>rfl) gq P[i].1 rfl (by decide) (by simp;omega) fun Y V J=>?_;refine⟨(Y,i+1,c.2.1,c.2.2),by dsimp only;rw[Go.Vc.wrap_small _ (by omega) (by omega)];rfl,⟨by dsimp only;omega,f,?_⟩,by dsimp only;omega⟩;dsimp only;rw[aD _ _ r,ze];exact J.aV 3 [2,0]
 ·have L:i=P.length:=by omega
  subst L;rw[List.drop_length]at f;rw[qK]at G;have z:=(G.freeze 0 rfl fun _=>rfl).aV 2 [1,0];have E:layAll P w ds=dv (cv (P.map qL)) u p:=by unfold layAll;rw[f];rfl
  refine(uf o (P.map qL) (St.mK 0 rfl fun h' T=>T) (by simp;omega) (fun x W=>?_) z).mono ?_
  ·obtain⟨y,hy,rfl⟩:=zx.1 W;exact(F y hy).1
  ·rintro _ h2 ⟨rfl,j⟩;refine⟨_,rfl,by rw[E],?_⟩;rw[E];exact j.fg
theorem sW(x:bn)(m:ba)(s:Sl)(a:List Int)(h:Heap)(hx:cK h x m)(I:co m)(R:Rd h s 1 ay a)(Y:a.length<=2^10):
  ac wS si #[cE x,wJ s.ptr s.len s.cap] h fun v h'=>∃(r:Sl) (ys:List (Int×Sl)),v=wJ r.ptr r.len r.cap/\Sp h h' [mh ld 2 piv r ys (aQ m a)]:=by
 refine pU x s ?_;unfold nf;refine(Sp.refl h).boxed fun a1 S M=>?_;refine⟨x,(M.box 0 rfl).aO _ rfl,(ov x m S (hx.up M.ai) I).mono ?_⟩;rintro _ U ⟨r,rfl,R2⟩;have E:=M.dO R2;refine⟨r,rfl,?_⟩;obtain⟨rs,E⟩:=E.xL fun _=>rfl;have K:=mz m I;obtain⟨d,B⟩:∃d,d=aX m:=⟨_,rfl⟩
 rw[<-B]at E K;have X:=E.rm 0 rfl;have a0:=X.1.len;have ad:=X.2.1;have a2:=R.len;obtain⟨T,H⟩:∃T:Int->List ((Int×Sl)×(Int×List UInt8)),T=fun n=>(rs.zip d).map fun z=>((n,z.1),(n,z.2)):=⟨_,rfl⟩
 have f:∀n,(T n).length=d.length:=fun n=>by rw[H];simp;omega
 have O:∀n,(T n).map wE=d.map fun c=>(n,c):=fun n=>by
  have I:=List.map_snd_zip (l₁:=rs) (l₂:=d) (by omega)
  conv=>rhs;rw[<-I]
  rw[H];simp[List.map_map,Function.comp_def]
 have N:∀n j (J:j<d.length),(T n)[j]'(by rw[f];exact J)=((n,rs[j]'(by omega)),(n,d[j])):=fun n j J=>by subst H;simp
 have p:Sp h U [au cI ⟨none,0,0⟩ 2 piv (((a.take 0).flatMap T).map qL),mh (rP 1 aF) 1 dU r rs d]:=(E.nil cI 2 piv).cH [2,0];have F:∀i,i<=a.length->((a.take i).flatMap T).length<=i*3000:=fun i=>by
  induction i with
  |zero=>simp
  |succ i ih=>
   intro V;rw[aD _ _ (show i<a.length by omega),qy,qu];have S:=ih (by omega);have U:([a[i]].flatMap T).length=d.length:=by rw[qF,zC,qU,f]
   omega
 refine aB (fun t:Sl×Nat=>(t.1,(t.2:Int))) (fun t h'=>t.2<=a.length/\Sp h h' [au cI t.1 2 piv (((a.take t.2).flatMap T).map qL),mh (rP 1 aF) 1 dU r rs d]) (fun t=>a.length-t.2) (⟨none,0,0⟩,0) rfl ⟨by simp,p⟩ ?_;rintro⟨o,i⟩ h3 ⟨V,p⟩;dsimp only at*;refine af (fun e=>?_) (fun e=>?_)
 ·have D:i<a.length:=by omega
  have ht:=F i V;have hb:i*3000<=2^10*3000:=qR _ (by omega);refine(Seq.up R p.ai).cd i rfl D a[i] rfl ?_;refine aB (fun t:Sl×Nat=>(t.1,(t.2:Int))) (fun t h'=>t.2<=d.length/\Sp h h' [au cI t.1 2 piv (((a.take i).flatMap T).map qL++((T a[i]).take t.2).map qL),mh (rP 1 aF) 1 dU r rs d]) (fun t=>d.length-t.2) (o,0) rfl ⟨by simp,by simpa using p⟩ ?_;rintro⟨u,j⟩ h4 ⟨J,w⟩;dsimp only at*;refine af (fun e2=>?_) (fun e2=>?_)
  ·have y:j<d.length:=by omega
   refine(w.rm 1 rfl).1.xz j rfl (by omega) ?_;refine w.push ae 0 rfl xM rfl (by decide) (fun _=>rfl) tB (a[i],rs[j]'(by omega)) rfl (by decide) (by simp only[qu,qT,qx,f];omega) fun u' h5 H5=>?_;refine⟨(u',j+1),by dsimp only;rw[Go.Vc.wrap_small _ (by omega) (by omega)];rfl,⟨by dsimp only;omega,?_⟩,by dsimp only;omega⟩;dsimp only;rw[aD (T a[i]) j (by rw[f];exact y),ze,N _ _ y,<-qp];exact H5
  ·have L:j=d.length:=by omega
   subst L;rw[qi (l:=T a[i]) (by rw[f];exact qM _)]at w;refine⟨(u,i+1),by dsimp only;rw[Go.Vc.wrap_small _ (by omega) (by omega)];rfl,⟨by dsimp only;omega,?_⟩,by dsimp only;omega⟩;dsimp only;rw[aD _ _ D,qy,ze,qF,zC,qU];exact w
 ·have Q:i=a.length:=by omega
  subst Q;rw[qK]at p;refine⟨o,(a.flatMap T).map qL,rfl,?_⟩;have w:=(p.freeze 0 rfl fun _=>rfl).jK;refine w.io 0 rfl fun q ⟨q1,q2,_,b,c,z1,Z⟩=>?_;have A:(a.flatMap T).map wE=aQ m a:=by
   unfold aQ;rw[List.map_flatMap,<-B];congr 1;funext n;exact O n
  rw[<-A];refine⟨Z.mono c,by simp,fun j r' l' g G=>?_⟩;rw[qE]at g G;cases g3:(a.flatMap T)[j]? with
  |none=>rw[g3]at g;cases g
  |some t=>
   rw[g3]at g G;simp at g G;subst g;subst G;obtain⟨n,_,W⟩:=zB.1 (zZ g3);rw[H]at W;obtain⟨z,P,rfl⟩:=zx.1 W;obtain⟨k,hk,rfl⟩:=List.mem_iff_getElem.1 P;rw[List.getElem_zip];exact⟨rfl,(z1.2.2 k _ _ (qc _) (qc _)).mono b⟩
end
section
variable {B:am} {h0 h h':Heap} {As:List HP} {a:Addr} {w:Pow}
abbrev dg(a:Addr)(w:Pow):HP:=bT cW a w
theorem oy(H:aa B h0 h (dg a w::As)):ac wS ge #[wK (some a)] h fun v h'=>v=wM w.step.1/\aa B h0 h' (dg a w.step.2::As):=by
 obtain⟨l,s,c⟩:=H.eJ;refine fS (some a) ?_;unfold dE;refine⟨a,rfl,w.off,(c.box 0 rfl).cell0 rfl,aN (fun e=>?_) (fun e=>?_)⟩
 ·have:w.step=(false,w):=by unfold Pow.step;rw[if_pos e]
  rw[this];exact⟨rfl,H⟩
 have m:w.off=false:=e;refine aG (aG ⟨a,rfl,_,(c.box 0 rfl).cell rfl,aN (fun e2=>?_) (fun e2=>?_)⟩)
 ·obtain⟨k,b⟩:∃k,w.fuse=some k:=wb.1 e2;obtain⟨rfl,u⟩:=s k b;have p:powC w (k:Int)=[wM false,wM true,wI wO k,wI wO w.offs]:=by simp[powC,m,b]
  rw[p]at c;refine⟨a,rfl,_,(c.box 0 rfl).cell rfl,bp (fun i=>?_) (fun i=>?_)⟩
  ·have n:k=0:=by omega
   subst n;have g:w.step=(false,⟨true,some 0,qa wO (w.offs+1)⟩):=by unfold Pow.step;rw[if_neg (by simp[m]),b]
   rw[g];refine⟨a,rfl,c.md ae 0 rfl rfl [wM true] rfl rfl rfl (by simp) fun x o=>?_⟩;refine⟨a,rfl,w.offs,(o.box 0 rfl).cell rfl,a,rfl,o.store ae 0 rfl rfl 3 [wI wO (qa wO (w.offs+1))] rfl rfl rfl (by simp[powC]) fun r f=>⟨rfl,?_⟩⟩;refine aa.gE (l:=((0:Nat):Int)) (fun t d=>by cases d;exact⟨rfl,by decide⟩) ?_;exact f
  ·obtain⟨j,rfl⟩:∃j,k=j+1:=⟨k-1,by omega⟩
   have g:w.step=(true,⟨false,some j,w.offs⟩):=by unfold Pow.step;rw[if_neg (by simp[m]),b]
   rw[g];refine⟨a,rfl,_,(c.box 0 rfl).cell rfl,aN (fun _=>?_) fun e=>by cases e⟩;refine⟨a,rfl,_,(c.box 0 rfl).cell rfl,a,rfl,c.store ae 0 rfl rfl 2 [wI wO (qa wO (((j+1:Nat):Int)-1))] rfl rfl rfl (by simp[powC]) fun r f=>⟨rfl,?_⟩⟩;refine aa.gE (l:=(j:Int)) (fun t d=>by cases d;exact⟨rfl,by omega⟩) ?_;rw[Go.Vc.wrap_small _ (by omega) (by omega)]at f;have q:((j+1:Nat):Int)-1=(j:Int):=by omega
   rw[q]at f;exact f
 ·have b:w.fuse=none:=by cases b:w.fuse with|none=>rfl|some k=>rw[b]at e2;cases e2
  have g:w.step=(true,w):=by unfold Pow.step;rw[if_neg (by simp[m]),b]
  rw[g];refine aN (fun e=>by cases e) fun _=>⟨a,rfl,_,(c.box 0 rfl).cell rfl,aN (fun i=>by rw[b]at i;cases i) fun _=>⟨rfl,H⟩⟩
end
abbrev dh(pw:Addr)(d:aU)(s b:Sl):List Value:=[wI wO d.room,wK (some pw),wJ s.ptr s.len s.cap,wI wO d.wait,wM d.has,wJ b.ptr b.len b.cap,wM d.lost]
abbrev fj(pw a:Addr)(d:aU):HP:=dF bf (dh pw) a d
section
variable {B:am} {h0 h h':Heap} {As:List HP} {a pw:Addr} {d:aU} {w:Pow}
theorem sX(n:Int)(pw:Addr)(h:Heap):ac wS hG #[wI wO n,wK (some pw)] h fun v h'=>
  (1<=n/\n<=512->∃a,v=wK (some a)/\Sp h h' [fj pw a (aU.new n.toNat)])/\(¬(1<=n/\n<=512)->v=wK none/\Sp h h' []):=by
 refine gx n (some pw) ?_;unfold dV;refine aG (af (fun e=>⟨fun c=>absurd c (by omega),fun _=>⟨rfl,Sp.refl h⟩⟩) fun g=>af (fun e=>⟨fun c=>absurd c (by omega),fun _=>⟨rfl,Sp.refl h⟩⟩) fun e2=>aN (fun e=>by cases e) fun _=>?_);refine(Sp.refl h).boxed fun a i d=>⟨fun _=>⟨a,rfl,?_⟩,fun c=>absurd (by omega) c⟩
 refine aa.ff (s:=⟨none,0,0⟩) (b:=⟨none,0,0⟩) (cr.new (by omega)) ?_;have e:((n.toNat:Nat):Int)=n:=by omega
 have f:=((d.jX bw aA 1 aF).jX bw aA 1 aF).aV 3 [2,1,0];have e2:dh pw (aU.new n.toNat) ⟨none,0,0⟩ ⟨none,0,0⟩=[wI wO n,wK (some pw),wJ none 0 0,wI wO 0,wM false,wJ none 0 0,wM false]:=by
  simp only[dh,aU.new,e];rfl
 rw[e2];exact f
theorem sy(x:Sl)(row:List UInt8)(H:aa B h0 h (fj pw a d::dg pw w::As))(S:St B h0 As fun h=>Rd h x 1 aF row)(hr:row.length<=2^20):
  ac wS fC #[wK (some a),wJ x.ptr x.len x.cap] h fun v h'=>v=wI wO (d.append w row).1/\aa B h0 h' (fj pw a (d.append w row).2.2::dg pw (d.append w row).2.1::As):=by
 refine fo (some a) x ?_;unfold df;have ad:=(S.at [_,_] H).len;obtain⟨ok,s,b,N⟩:=H.mP;have I:=N.box 0 rfl;obtain⟨Y,_⟩:=aa.oR (N.aV 4 [1]);have Q:=ok.room;have T:=ok.len;have R:=ok.wait;have j:∀(e:Int),d.append w row=(e,w,d)->(Value.int .i64 e=wI wO (d.append w row).1/\aa B h0 h (fj pw a (d.append w row).2.2::dg pw (d.append w row).2.1::As)):=fun e X=>by
  rw[X];exact⟨rfl,H⟩
 refine bq (fun e=>j 1 (by unfold aU.append;rw[if_pos (by omega)])) fun a1=>?_;have y:row.length=64:=by omega
 refine⟨a,rfl,d.lost,I.cell rfl,aN (fun e=>j 5 ?_) fun g=>?_⟩
 ·unfold aU.append;rw[if_neg (by omega),if_pos e]
 refine⟨a,rfl,s,I.cell rfl,a,rfl,(d.room:Int),I.cell0 rfl,bp (fun e=>j 7 ?_) fun q=>?_⟩
 ·unfold aU.append;rw[if_neg (by omega),if_neg (by simp[g]),if_pos (by omega)]
 have G:=N.aV 4 [3,0,1,2];obtain⟨l,hl,O⟩:=G.eJ;have U:∀{P:Prop},d.room<=d.l.length->P:=fun K=>absurd (show(s.len:Int)=d.room by omega) q;refine⟨a,rfl,some pw,I.cell rfl,pw,rfl,w.off,(O.box 0 rfl).cell0 rfl,a,rfl,some pw,I.cell rfl,(oy G).mono ?_⟩;rintro _ h2 ⟨rfl,o⟩;have o:=o.aV 4 [1,2,3,0];have z:=o.box 0 rfl;refine⟨_,rfl,?_⟩;by_cases f:w.off=true
 ·have hs:w.step=(false,w):=by unfold Pow.step;rw[if_pos f]
  have W:d.append w row=(14,w,d):=by unfold aU.append;rw[if_neg (by omega),if_neg (by simp[g]),if_neg (fun K=>U K),if_pos f]
  rw[hs]at o⊢;refine aG (aK (fun e=>absurd e (by simp[f])) fun _=>aK (fun _=>?_) fun e=>by cases e);rw[W];exact⟨rfl,o.ff ok⟩
 have t:w.off=false:=by simpa using f
 have A:d.append w row=if w.step.1 then(0,w.step.2,{d with l:=d.l++[row],wait:=d.wait+1,laid:=[],has:=false})else(14,w.step.2,{d with l:=d.l++[row],wait:=d.wait+1}):=by
  unfold aU.append;rw[if_neg (by omega),if_neg (by simp[g]),if_neg (fun K=>U K),if_neg f]
 rw[A];refine aG (aK (fun _=>?_) fun e=>absurd e (by simp[t]));refine⟨a,rfl,s,z.cell rfl,a,rfl,(d.wait:Int),z.cell rfl,?_⟩;have M:=S.at [_,_,_,_] o;refine(o.nil aA 1 aF).bv.append ae 0 rfl cJ ⟨_,_,rfl,rfl⟩ rfl (by decide) (fun _=>rfl) M cg (by simp;omega) fun r V E=>?_;have E:aa B h0 V (au aA r 1 aF row::ao a bf (dh pw d s b)::bH s d.l::bH b d.laid::dg pw w.step.2::As):=E;have k:=E.box 1 rfl;refine⟨⟨k.cell rfl,k.cell rfl,trivial⟩,?_⟩;refine E.iN ae dU jL rfl [r] rfl (show 1*1<=2^20 by decide) rfl ⟨k.cell rfl,k.cell rfl,trivial⟩ ?_;have L:aa B h0 V (bH s d.l::au aA r 1 aF row::ao a bf (dh pw d s b)::bH b d.laid::dg pw w.step.2::As):=E.aV 5 [2,0,1,3,4];refine L.nV ae jL (by omega) fun p h6 J=>?_;have J:aa B h0 h6 (ao a bf (dh pw d s b)::bH p (d.l++[row])::bH b d.laid::dg pw w.step.2::As):=J.aV 4 [1,0,2,3];refine⟨⟨(J.box 0 rfl).cell rfl,trivial⟩,?_⟩;refine⟨a,rfl,J.store ae 0 rfl rfl 2 [wJ p.ptr p.len p.cap] rfl rfl rfl (by simp[dh]) fun h7 H7=>⟨trivial,?_⟩⟩;refine⟨a,rfl,?_⟩;rw[Go.Vc.wrap_small ((d.wait:Int)+1) (by omega) (by omega)];refine H7.store ae 0 rfl rfl 3 [wI wO ((d.wait:Int)+1)] rfl rfl rfl (by simp[dh]) fun h8 Z=>⟨trivial,?_⟩
 obtain⟨u,m⟩:∃u:aU,u={d with l:=d.l++[row],wait:=d.wait+1}:=⟨_,rfl⟩
 have i:cr u:=by
  subst m;refine⟨by simp;omega,by simp;omega,ok.room,fun c F=>?_,ok.laid,ok.cellL⟩;rcases qZ.1 F with F|F
  ·exact ok.cell c F
  ·rw[qz.1 F];exact y
 have n:aa B h0 h8 (ao a bf (dh pw u p b)::bH p u.l::bH b u.laid::dg pw w.step.2::As):=by rw[m];exact Z
 refine aK (fun e=>?_) (fun e=>?_)
 ·rw[e,if_neg (by decide)];rw[m]at n i;exact⟨rfl,n.ff i⟩
 ·rw[e,if_pos rfl];refine⟨a,rfl,n.store ae 0 rfl rfl 4 [wM false] rfl rfl rfl (by simp[dh]) fun h9 H9=>?_⟩;refine⟨a,rfl,H9.store ae 0 rfl rfl 5 [wJ none 0 0] rfl rfl rfl (by simp[dh]) fun a0 D=>⟨rfl,?_⟩⟩;rw[m]at D i;refine aa.ff (s:=p) (b:=⟨none,0,0⟩) ⟨i.wait,i.len,i.room,i.cell,zj _,by simp⟩ ?_;exact((D.jX bw aA 1 aF).aV 5 [1,2,0,4])
theorem ug(H:aa B h0 h (fj pw a d::dg pw w::As)):
  ac wS gd #[wK (some a)] h fun v h'=>v=wI wO (d.sync w).1/\aa B h0 h' (fj pw a (d.sync w).2.2::dg pw (d.sync w).2.1::As):=by
 refine fR (some a) ?_;unfold dC;obtain⟨ok,s,b,i⟩:=H.mP;have j:=i.box 0 rfl;refine⟨a,rfl,d.lost,j.cell rfl,aN (fun e=>?_) fun c=>?_⟩
 ·have:d.sync w=(5,w,d):=by unfold aU.sync;rw[if_pos e]
  rw[this];exact⟨rfl,H⟩
 refine⟨a,rfl,some pw,j.cell rfl,(oy (i.aV 4 [3,0,1,2])).mono ?_⟩;rintro _ p ⟨rfl,g⟩;have g:=g.aV 4 [1,2,3,0];have f:d.sync w=if w.step.1 then(0,w.step.2,{{d with wait:=0}with laid:=[],has:=false})else(14,w.step.2,d):=by
  unfold aU.sync;rw[if_neg (by simp[c])]
 rw[f];refine⟨_,rfl,aK (fun e=>?_) (fun e=>?_)⟩
 ·rw[e];exact⟨rfl,g.ff ok⟩
 ·rw[e];refine⟨a,rfl,g.store ae 0 rfl rfl 3 [wI wO 0] rfl rfl rfl (by simp[dh]) fun o l=>?_⟩;refine⟨a,rfl,l.store ae 0 rfl rfl 4 [wM false] rfl rfl rfl (by simp[dh]) fun q m=>?_⟩;refine⟨a,rfl,m.store ae 0 rfl rfl 5 [wJ none 0 0] rfl rfl rfl (by simp[dh]) fun n k=>⟨rfl,?_⟩⟩;refine aa.ff (s:=s) (b:=⟨none,0,0⟩) ⟨zj _,ok.len,ok.room,ok.cell,zj _,by simp⟩ ?_;exact((k.jX bw aA 1 aF).aV 5 [1,2,0,4])
theorem fj.box(H:aa B h0 h (fj pw a d::As)):cr d/\∃s b:Sl,bE h a bf (dh pw d s b)/\eT h s 1 aF d.l/\s.len=d.l.length:=by
 obtain⟨ok,s,b,c⟩:=H.mP;exact⟨ok,s,b,c.box 0 rfl,(c.aV 3 [1]).xA fun _=>rfl,(aa.oR (c.aV 3 [1])).1⟩
end
theorem vi(b:Sl)(l:List UInt8)(h:Heap)(p:Rd h b 1 aF l)(A:l.length<=2^40):ac wS kf #[wJ b.ptr b.len b.cap] h fun v h'=>v=wI wQ (mj l).toNat/\h'=h:=by
 refine jF b ?_;unfold fz;have B:=p.len;refine aB (fun t:Nat=>(((ee (l.take t)).toNat:Int),(t:Int))) (fun t h'=>t<=l.length/\h'=h) (fun t=>l.length-t) 0 rfl ⟨by omega,rfl⟩ ?_;rintro i y ⟨E,rfl⟩;refine af (fun e=>?_) (fun e=>?_)
 ·have d:i<l.length:=by
   have z:(i:Int)<(b.len:Int):=e;omega
  refine p.cd i rfl d (l[i].toNat:Int) rfl ?_;have u:qa wQ (l[i].toNat:Int)=((zK 32 l[i].toNat).toNat:Int):=by rw[pB,zp]
  rw[u,mL];refine aB (fun k:Nat=>(((ft k (ee (l.take i)^^^zK 32 l[i].toNat)).toNat:Int),(k:Int))) (fun k h'=>k<=8/\h'=y) (fun k=>8-k) 0 rfl ⟨by omega,rfl⟩ ?_;rintro k q ⟨D,rfl⟩;obtain⟨c,j⟩:∃c,c=ft k (ee (l.take i)^^^zK 32 l[i].toNat):=⟨_,rfl⟩
  dsimp only;rw[<-j];refine af (fun e2=>?_) (fun e2=>?_)
  ·have a:∀n:gg,n=iU c->∃f:Nat,(((n.toNat:Nat):Int),qa wO ((k:Int)+1))=(((ft f (ee (l.take i)^^^zK 32 l[i].toNat)).toNat:Int),(f:Int))/\(f<=8/\q=q)/\8-f<8-k:=fun n w=>
    ⟨k+1,by rw[Go.Vc.wrap_small _ (by omega) (by omega),w,j];rfl,⟨by omega,rfl⟩,by omega⟩
   have r:qa wQ ((qq (ql wQ) (c.toNat:Int)&&&qq (ql wQ) (1:Int)).toNat:Nat)=((c&&&1#32).toNat:Int):=wn c 1#32;have x:qa wQ ((qq (ql wQ) ((c>>>1).toNat:Int)^^^qq (ql wQ) (3988292384:Int)).toNat:Nat)=(((c>>>1)^^^3988292384#32).toNat:Int):=mL (c>>>1) 3988292384#32;rw[r,tw,x];refine bp (fun m=>⟨by decide,a _ ?_⟩) (fun m=>⟨by decide,a _ ?_⟩)
   ·unfold iU;rw[if_pos ((mM c).1 m)]
   ·unfold iU;rw[if_neg (fun s=>m ((mM c).2 s))]
  ·have o:k=8:=by omega
   subst o;refine⟨i+1,?_,⟨by omega,rfl⟩,by omega⟩;rw[Go.Vc.wrap_small _ (by omega) (by omega),aD _ _ d,nX,j];rfl
 ·have g:i=l.length:=by
   have z:¬(i:Int)<(b.len:Int):=e;omega
  subst g;refine⟨?_,rfl⟩;rw[qK];exact congrArg (Value.int .u32) (mL 4294967295#32 (ee l))
theorem uh(n:Int)(k t:Nat)(a:t<k):(bx n k).take t++[b8 (qI n (2^(8*(k-1-t))))]=(bx n k).take (t+1):=by
 rw[aD _ _ (by rw[aW];exact a)];congr 2;simp[bx]
section
variable {B:am} {h0 h h':Heap} {As:List HP}
theorem fV(s:Sl)(l:List UInt8)(n:Int)(k:Nat)(m:k<=4)(j:l.length<=2^30)(H:aa B h0 h (au aA s 1 aF l::As)):
  ac wS jE #[wJ s.ptr s.len s.cap,wI wO n,wI wO k] h fun v h'=>∃r:Sl,v=wJ r.ptr r.len r.cap/\aa B h0 h' (au aA r 1 aF (l++bx n k)::As):=by
 refine jl s n k ?_;unfold fd;rw[Go.Vc.wrap_small ((k:Int)-1) (by omega) (by omega)];refine aB (fun t:Sl×Nat=>(t.1,(k:Int)-1-t.2)) (fun t h'=>t.2<=k/\aa B h0 h' (au aA t.1 1 aF (l++(bx n k).take t.2)::As)) (fun t=>k-t.2) (s,0) (by simp) ⟨by simp,by simpa using H⟩ ?_;rintro⟨r,t⟩ i ⟨o,a⟩;dsimp only at*;refine af (fun e=>?_) (fun e=>?_)
 ·have b:t<k:=by omega
  have d:qa wO ((8:Int)*((k:Int)-1-t))=((8*(k-1-t):Nat):Int):=by
   rw[Go.Vc.wrap_small _ (by omega) (by omega)];omega
  rw[d,qm];have e2:min (8*(k-1-t)) (ql wO)=8*(k-1-t):=by
   have:ql wO=64:=rfl;omega
  rw[e2,aT];refine⟨by omega,?_⟩;refine a.push ae 0 rfl cJ rfl (by decide) (fun _=>rfl) cg (b8 (qI n (2^(8*(k-1-t))))) rfl (by decide) (by simp[aW];omega) fun g p f=>?_;refine⟨(g,t+1),?_,⟨by dsimp only;omega,?_⟩,by dsimp only;omega⟩
  ·dsimp only;have c:qa wO ((k:Int)-1-t-1)=(k:Int)-1-((t+1:Nat):Int):=by
    rw[Go.Vc.wrap_small _ (by omega) (by omega)];omega
   rw[c]
  ·dsimp only;rw[<-uh n k t b,<-qp];exact f
 ·have:t=k:=by omega
  subst this;rw[qi (by rw[aW];omega)]at a;exact⟨r,rfl,a⟩
end
theorem vj(a:Int)(b:Sl)(l:List UInt8)(h:Heap)(y:Rd h b 1 aF l)(M:l.length<=2^40):ac wS ir #[wI wO a,wJ b.ptr b.len b.cap] h fun v h'=>∃r:Sl,v=wJ r.ptr r.len r.cap/\Sp h h' [au aA r 1 aF (cw a l)]:=by
 refine ik a b ?_;unfold eo;have P:=y.len;have d:¬(1<=a/\a<=255/\l.length<=55)->∃r:Sl,Value.slice none 0 0=wJ r.ptr r.len r.cap/\Sp h h [au aA r 1 aF (cw a l)]:=fun e=>by
  unfold cw;rw[if_neg e];exact⟨⟨none,0,0⟩,rfl,(Sp.refl h).nil aA 1 aF⟩
 refine aG (af (fun e=>d (by omega)) fun L=>af (fun e=>d (by omega)) fun e2=>af (fun e=>d (by omega)) fun J=>?_);rw[aT];refine(Sp.refl h).lit ae aF cJ rfl [87,115,1,b8 a] rfl (show 4*1<=2^20 by decide) rfl fun v3 O s=>?_;refine s.append ae 0 rfl cJ ⟨_,_,rfl,rfl⟩ rfl (by decide) (fun _=>rfl) (Seq.up y s.ai) cg (by simp;omega) fun u I k=>?_;have k:Sp h I [au aA u 1 aF ([87,115,1,b8 a]++l)]:=k;refine aB (fun t:Sl×Nat=>t.1) (fun t h'=>t.2<=55-l.length/\Sp h h' [au aA t.1 1 aF ([87,115,1,b8 a]++l++qd t.2 0)]) (fun t=>55-l.length-t.2) (u,0) rfl ⟨by simp,by simpa using k⟩ ?_;rintro⟨H,j⟩ D ⟨Q,f⟩;dsimp only at*;have n:=(f.own 0 rfl).len;simp only[qu,qV,wg,List.length_replicate]at n;refine af (fun e=>?_) (fun e=>?_)
 ·refine f.push ae 0 rfl cJ rfl (by decide) (fun _=>rfl) cg 0 rfl (by decide) (by simp;omega) fun E F B=>?_;refine⟨(E,j+1),rfl,⟨by dsimp only;omega,?_⟩,by dsimp only;omega⟩;dsimp only;rw[List.replicate_succ',<-qp];exact B
 ·have p:j=55-l.length:=by omega
  subst p;have z:[87,115,1,b8 a]++l++qd (55-l.length) 0=bF a l:=rfl;rw[z]at f;have m:(bF a l).length=59:=iV (by omega);refine(vi H (bF a l) D (f.seq 0 rfl fun _=>rfl) (by omega)).mono ?_;rintro _ F ⟨rfl,rfl⟩;obtain⟨c,w⟩:∃c,c=mj (bF a l):=⟨_,rfl⟩
  rw[<-w];refine⟨_,rfl,by decide,by decide,by decide,?_⟩;have A:min (8:Int).toNat (ql wQ)=8:=rfl;have g:min (16:Int).toNat (ql wQ)=16:=rfl;have i:min (24:Int).toNat (ql wQ)=24:=rfl;rw[A,g,i,aT,aT,aT,aT];refine f.lit ae aF cJ rfl [b8 (c.toNat:Int),b8 (qI (c.toNat:Int) (2^8)),b8 (qI (c.toNat:Int) (2^16)),b8 (qI (c.toNat:Int) (2^24)),165] rfl (show 5*1<=2^20 by decide) rfl fun N K x=>?_;refine x.append ae 0 rfl cJ ⟨_,_,rfl,rfl⟩ rfl (by decide) (fun _=>rfl) (x.seq 1 rfl fun _=>rfl) cg (by simp[m]) fun G h8 q=>⟨G,rfl,?_⟩
  have o:bF a l++[b8 (c.toNat:Int),b8 (qI (c.toNat:Int) (2^8)),b8 (qI (c.toNat:Int) (2^16)),b8 (qI (c.toNat:Int) (2^24)),165]=cw a l:=by
   unfold cw;rw[if_pos ⟨by omega,by omega,by omega⟩,<-w];simp[gu,List.range_succ]
  rw[o]at q;exact q.cH [0]
theorem ki(p:Pm)(h:Heap):ac wS ke #[kC p] h fun v h'=>v=wM (cV p)/\Sp h h' []:=by
 refine jB p ?_;unfold fy;refine(Sp.refl h).boxed fun a d g=>?_;have e:=g.box 0 rfl;have c:Sp h d []:=.zip g.ai;have j:cellOf d a=some (wI wO p.1):=e.cell0 rfl;have f:cellOf d (a.add 1)=some (wI wO p.2.1):=e.cell rfl;have i:cellOf d (a.add 2)=some (wI wO p.2.2):=e.cell rfl;unfold cV;refine⟨_,j,af (fun b=>?_) (fun b=>⟨by rw[decide_eq_false b];rfl,c⟩)⟩;rw[decide_eq_true b];refine⟨_,j,af (fun b=>?_) (fun b=>⟨by rw[decide_eq_false b];rfl,c⟩)⟩;rw[decide_eq_true b];refine⟨_,f,af (fun b=>?_) (fun b=>⟨by rw[decide_eq_false b];rfl,c⟩)⟩;rw[decide_eq_true b];refine⟨_,f,af (fun b=>?_) (fun b=>⟨by rw[decide_eq_false b];rfl,c⟩)⟩;rw[decide_eq_true b];refine⟨_,i,af (fun b=>?_) (fun b=>⟨by rw[decide_eq_false b];rfl,c⟩)⟩;rw[decide_eq_true b];exact⟨_,i,rfl,c⟩
end Go.Proofs.YtcamechmadjclaaGreatDoor
namespace Wl
open Go
theorem lB:∀x y:List UInt8,(Op.bytesLess x y||x==y)=!Op.bytesLess y x
 |[],[]=>rfl
 |[],_::_=>rfl
 |_::_,[]=>by simp[Op.bytesLess]
 |a::x,b::y=>by
  have f:=lB x y;have d:a<b∨a=b∨b<a:=by
   rcases Nat.lt_trichotomy a.toNat b.toNat with h|h|h
   ·exact .inl (zc.2 h)
   ·exact .inr (.inl (UInt8.toNat_inj.1 h))
   ·exact .inr (.inr (zc.2 h))
  rcases d with h|rfl|h
  ·have c:¬b<a:=fun h'=>by have:=zc.1 h;have:=zc.1 h';omega
   have e:b≠a:=fun h'=>by subst h';exact c h
   simp[Op.bytesLess,h,c,e]
  ·have c:¬a<a:=fun h'=>by have:=zc.1 h';omega
   simp only[Op.bytesLess,c,decide_false,Bool.false_or,beq_self_eq_true,wa];rw[<-f];congr 1;simp
  ·have c:¬a<b:=fun h'=>by have:=zc.1 h;have:=zc.1 h';omega
   have e:a≠b:=fun h'=>by subst h';exact c h
   simp[Op.bytesLess,h,c,e]
end Wl
namespace Go.Proofs.YtcamechmadjclaaGreatDoor
open Go Go.Vc Go.Proofs Wl
theorem ui(s:ByteArray)(h:Heap)(A:s.size<=2^40):ac wS jG #[wL s] h fun v h'=>v=wM (dP s)/\h'=h:=by
 refine jm s ?_;unfold fe;have y:s.data.toList.length=s.size:=gv s;refine aB (fun i:Nat=>(i:Int)) (fun i h'=>i<=s.size/\h'=h/\∀c∈s.data.toList.take i,bV c=true) (fun i=>s.size-i) 0 rfl ⟨by omega,rfl,by simp⟩ ?_;rintro i j ⟨D,rfl,f⟩;refine af (fun e=>?_) (fun e=>?_)
 ·have k:i<s.data.toList.length:=by
   have w:(i:Int)<(s.size:Int):=e;omega
  obtain⟨c,r⟩:∃c,c=s.data.toList[i]:=⟨_,rfl⟩
  refine⟨c,⟨by omega,?_⟩,?_⟩
  ·rw[qm,<-wy,qc k,r]
  have b:bV c=true->∃g:Nat,qa wO ((i:Int)+1)=(g:Int)/\(g<=s.size/\j=j/\∀c∈s.data.toList.take g,bV c=true)/\s.size-g<s.size-i:=fun t=>
   ⟨i+1,by rw[Go.Vc.wrap_small _ (by omega) (by omega)];rfl,⟨by omega,rfl,fun x l=>by
    rw[aD _ _ k]at l;rcases qZ.1 l with l|l
    ·exact f x l
    ·rw[qz.1 l,<-r];exact t⟩,by omega⟩
  have p:bV c=false->Value.bool false=wM (dP s)/\j=j:=fun t=>by
   refine⟨?_,rfl⟩;unfold dP;have:s.data.toList.all bV=false:=wu.2 ⟨c,by rw[r];exact qt k,by rw[t];simp⟩;rw[this];rfl
  have d:bV c=true↔((97<=(c.toNat:Int)/\(c.toNat:Int)<=122)∨(48<=(c.toNat:Int)/\(c.toNat:Int)<=57)∨(c.toNat:Int)=45):=by
   unfold bV;simp[or_assoc];omega
  have o:bV c=false↔¬((97<=(c.toNat:Int)/\(c.toNat:Int)<=122)∨(48<=(c.toNat:Int)/\(c.toNat:Int)<=57)∨(c.toNat:Int)=45):=by
   rw[<-d];cases bV c<;>simp
  have a:¬(97<=(c.toNat:Int)/\(c.toNat:Int)<=122)->¬(48<=(c.toNat:Int)/\(c.toNat:Int)<=57)->Br (!((c.toNat:Nat)==(45:Int))) (Value.bool false=wM (dP s)/\j=j) (∃g:Nat,qa wO ((i:Int)+1)=(g:Int)/\(g<=s.size/\j=j/\∀c∈s.data.toList.take g,bV c=true)/\s.size-g<s.size-i):=fun B z=>by
   refine bq (fun m=>p (o.2 (by omega))) fun m=>b (d.2 (by omega))
  exact af (fun n=>af (fun e2=>b (d.2 (by omega))) fun e2=>af (fun m=>af (fun q=>b (d.2 (by omega))) fun q=>a (by omega) (by omega)) fun m=>a (by omega) (by omega)) fun n=>af (fun m=>af (fun q=>b (d.2 (by omega))) fun q=>a (by omega) (by omega)) fun m=>a (by omega) (by omega)
 ·have w:¬(i:Int)<(s.size:Int):=e;rw[qi (by omega)]at f;have u:s.data.toList.all bV=true:=qH.2 f;refine af (fun n=>⟨?_,rfl⟩) (fun n=>⟨?_,rfl⟩)
  ·unfold dP;rw[u,decide_eq_true (show 1<=s.size by omega)];congr 1;simp;omega
  ·unfold dP;rw[u,decide_eq_false (show¬1<=s.size by omega)];rfl
theorem vQ(n w:Int)(i:0<n)(c:0<w):(if n%w>0 then n/w+1 else n/w)=(n-1)/w+1:=by
 have f:=Int.emod_add_mul_ediv n w;have d:=Int.emod_nonneg n (show w≠0 by omega);have g:=Int.emod_lt_of_pos n c;obtain⟨q,b⟩:∃q,q=n/w:=⟨_,rfl⟩
 obtain⟨r,a⟩:∃r,r=n%w:=⟨_,rfl⟩
 rw[<-b,<-a]at f;rw[<-a]at d g;rw[<-a,<-b];by_cases h:r>0
 ·rw[if_pos h];have e:n-1=(r-1)+w*q:=by omega
  rw[e,Int.add_mul_ediv_left _ _ (by omega),Int.ediv_eq_zero_of_lt (by omega) (by omega)];omega
 ·rw[if_neg h];have e:n-1=(w-1)+w*(q-1):=by rw[Int.mul_sub];omega
  rw[e,Int.add_mul_ediv_left _ _ (by omega),Int.ediv_eq_zero_of_lt (by omega) (by omega)];omega
theorem nl(p:Pm)(n:Int)(h:Heap)(q:n<=2^40):ac wS jn #[kC p,wI wO n] h fun v h'=>v=wI wO (countP p n)/\Sp h h' []:=by
 refine iK p n ?_;unfold eP;refine(Sp.refl h).boxed fun o j f=>?_;refine aG ⟨p,(f.box 0 rfl).aO _ rfl,(ki p j).mono ?_⟩;rintro _ s ⟨rfl,k⟩;have b:=f.up k.ai;have c:=b.box 0 rfl;refine⟨_,rfl,aK (fun e=>⟨by unfold countP;rw[e];rfl,.zip b.ai⟩) fun e=>?_⟩;have em:cV p=true:=by simpa using e
 have l:=(iT p).1 em;have r:p.1*p.2.2<=16*24:=wx (by omega) (by omega) (by omega) (by omega);have d:0<p.1*p.2.2:=Int.mul_pos (by omega) (by omega);refine af (fun g=>⟨by unfold countP;rw[em,decide_eq_false (by omega)];rfl,.zip b.ai⟩) fun g=>?_;refine⟨p.1,c.cell0 rfl,p.2.2,c.cell rfl,?_⟩;rw[Go.Vc.wrap_small (p.1*p.2.2) (by omega) (by omega)];refine⟨by omega,aG ⟨p.1,c.cell0 rfl,p.2.2,c.cell rfl,?_⟩⟩;rw[Go.Vc.wrap_small (p.1*p.2.2) (by omega) (by omega)];refine⟨by omega,?_⟩;rw[zE (by omega),Int.tmod_eq_emod_of_nonneg (by omega)];have i:0<=n/(p.1*p.2.2):=Int.ediv_nonneg (by omega) (by omega);have m:n/(p.1*p.2.2)<=n:=Int.ediv_le_self _ (by omega);rw[Go.Vc.wrap_small (n/(p.1*p.2.2)) (by omega) (by omega)];have a:(if n%(p.1*p.2.2)>0 then n/(p.1*p.2.2)+1 else n/(p.1*p.2.2))=countP p n:=by
  unfold countP;rw[em];by_cases h0:0<n
  ·rw[decide_eq_true h0];exact(vQ n _ h0 d).trans (if_pos rfl).symm
  ·have:n=0:=by omega
   subst this;rw[if_neg (by simp),if_neg (by simp)];simp
 refine af (fun e2=>?_) (fun e2=>?_)
 ·rw[if_pos e2]at a;rw[Go.Vc.wrap_small _ (by omega) (by omega)];exact⟨by rw[a],.zip b.ai⟩
 ·rw[if_neg e2]at a;exact⟨by rw[a],.zip b.ai⟩
end Go.Proofs.YtcamechmadjclaaGreatDoor
namespace Wl
open Go
theorem cQ(m:ba):ce m=true↔((1<=m.seq/\m.seq<=2147483647)/\(0<=m.next/\m.next<=16777216)/\cV m.p=true/\0<=m.extra/\m.extra<=16)/\(∀i,i<m.drives.length->cj m.drives 63 i=true)/\m.objs.length<=12/\∀i,i<m.objs.length->eg m i=true:=by
 unfold ce kP;rw[qB,qB,qB,qH,qH,decide_eq_true_eq];constructor
 ·rintro⟨e,b,c,d⟩;exact⟨nE e,fun i a=>b i (q5.2 a),c,fun i a=>d i (q5.2 a)⟩
 ·rintro⟨⟨⟨h,a2⟩,⟨a3,a4⟩,a5,f,g⟩,b,c,d⟩;refine⟨?_,fun i a=>b i (q5.1 a),c,fun i a=>d i (q5.1 a)⟩;unfold fi bz;simp[*]
theorem uj(l:List Int)(a:Int)(i:Nat):cj l a i=true↔(0<=l.getD i 0/\l.getD i 0<=a)/\(i=0∨l.getD (i-1) 0<l.getD i 0):=by
 unfold cj bz;simp
theorem oz(m:ba)(e:dd):cP m e=true↔dP e.name=true/\(0<=e.object/\e.object<=m.next-1)/\(0<=e.length/\e.length<=m.p.1*m.p.2.2*8)/\(∀t∈e.tries,0<=t/\t<=15)/\(e.tries.length:Int)=countP m.p e.length:=by
 unfold cP bz;simp[qH]
theorem jO(m:ba)(i:Nat):eg m i=true↔cP m (cT m.objs i)=true/\(i=0∨gX (cT m.objs (i-1)).name (cT m.objs i).name=true)/\∀y∈m.objs.take i,y.object≠(cT m.objs i).object:=by
 unfold eg;simp
end Wl
namespace Go.Proofs.YtcamechmadjclaaGreatDoor
open Go Go.Vc Go.Proofs Wl
theorem vk(x:bn)(m:ba)(h:Heap)(D:cK h x m)(hz:co m):ac wS iu #[cE x] h fun v h'=>v=wM (ce m)/\Sp h h' []:=by
 refine il x ?_;unfold eu;refine(Sp.refl h).boxed fun B h1 T=>?_;have hb:=T.box 0 rfl;have R:x.2.2.1=m.p.1:=congrArg (·.1) D.p;have a3:x.2.2.2.1=m.p.2.1:=congrArg (·.2.1) D.p;have Q:x.2.2.2.2.1=m.p.2.2:=congrArg (·.2.2) D.p;have F:∀{h':Heap} {As:List HP},Sp h h' As->(ce m=true->False)->Value.bool false=wM (ce m)/\Sp h h' []:=fun{h' As} H' hn=>⟨by cases hq:ce m with|false=>rfl|true=>exact absurd hq hn,.zip H'.ai⟩
 have c0:cellOf h1 B=some (wI wO m.seq):=by rw[<-D.seq];exact hb.cell0 rfl
 have c1:cellOf h1 (B.add 1)=some (wI wO m.next):=by rw[<-D.next];exact hb.cell rfl
 refine aG ⟨m.seq,c0,af (fun e=>F T fun a=>by have:=((cQ m).1 a).1;omega) fun S=>⟨m.seq,c0,af (fun e=>F T fun a=>by have:=((cQ m).1 a).1;omega) fun e2=>⟨m.next,c1,af (fun e=>F T fun a=>by have:=((cQ m).1 a).1;omega) fun w=>⟨m.next,c1,af (fun e=>F T fun a=>by have:=((cQ m).1 a).1;omega) fun W=>?_⟩⟩⟩⟩;refine⟨m.p,by rw[<-R,<-a3,<-Q];exact hb.mR 2 rfl rfl rfl,(ki m.p _).mono ?_⟩;rintro _ h2 ⟨rfl,R2⟩;have M:=T.up R2.ai;have A:=M.box 0 rfl;have a2:=D.up M.ai;have c5:cellOf h2 (B.add 5)=some (wI wO m.extra):=by rw[<-D.extra];exact A.cell rfl
 have ch:=hz.dr;have c4:=hz.ob;have b0:=bt.len D.objs;have a8:=D.drives.len;refine⟨_,rfl,aK (fun b=>F M fun a=>by have:=((cQ m).1 a).1.2.2.1;rw[b]at this;cases this) fun b3=>?_⟩;refine⟨m.extra,c5,af (fun e=>F M fun a=>by have:=((cQ m).1 a).1;omega) fun e5=>⟨m.extra,c5,af (fun e=>F M fun a=>by have:=((cQ m).1 a).1;omega) fun e6=>?_⟩⟩;refine⟨x.2.2.2.2.2.2.2,A.cell rfl,af (fun e=>F M fun a=>by have:=((cQ m).1 a).2.2.1;omega) fun b9=>?_⟩;have bb:m.objs.length<=12:=by omega
 have c2:=(iT m.p).1 b3;have hk:m.p.1*m.p.2.2<=16*24:=wx (by omega) (by omega) (by omega) (by omega);have cp:0<=m.p.1*m.p.2.2:=Int.mul_nonneg (by omega) (by omega);have O:(1<=m.seq/\m.seq<=2147483647)/\(0<=m.next/\m.next<=16777216)/\cV m.p=true/\0<=m.extra/\m.extra<=16:=⟨by omega,by omega,b3,by omega,by omega⟩
 refine⟨x.2.2.2.2.2.2.1,A.cell rfl,?_⟩;refine aB (fun i:Nat=>(i:Int)) (fun i h'=>i<=m.drives.length/\(∀j,j<i->cj m.drives 63 j=true)/\h'=h2) (fun i=>m.drives.length-i) 0 rfl ⟨by omega,by omega,rfl⟩ ?_;rintro i h3 ⟨hi,q,rfl⟩;refine af (fun e=>?_) (fun e=>?_)
 ·have l:i<m.drives.length:=by
   have e':(i:Int)<(x.2.2.2.2.2.2.1.len:Int):=e;omega
  have c:¬cj m.drives 63 i=true->Value.bool false=wM (ce m)/\Sp h h3 []:=fun hn=>F M fun a=>hn (((cQ m).1 a).2.1 i l);have next:cj m.drives 63 i=true->∃t':Nat,qa wO ((i:Int)+1)=(t':Int)/\(t'<=m.drives.length/\(∀j,j<t'->cj m.drives 63 j=true)/\h3=h3)/\m.drives.length-t'<m.drives.length-i:=fun hr=>
   ⟨i+1,by rw[Go.Vc.wrap_small _ (by omega) (by omega)];rfl,⟨by omega,fun j hj=>by
    by_cases a9:j=i
    ·subst a9;exact hr
    ·exact q j (by omega),rfl⟩,by omega⟩
  rw[uj]at c next
  refine a2.drives.cd i rfl l (m.drives.getD i 0) (by rw[getD_lt l];rfl) ?_;refine af (fun S=>c (by omega)) fun S=>af (fun e2=>c (by omega)) fun e2=>af (fun w=>?_) fun w=>next ⟨by omega,.inl (by omega)⟩
  rw[Go.Vc.wrap_small ((i:Int)-1) (by omega) (by omega)];refine⟨x.2.2.2.2.2.2.1,A.cell rfl,a2.drives.cd (i-1) (by omega) (by omega) (m.drives.getD (i-1) 0) (by rw[getD_lt (show i-1<m.drives.length by omega)];rfl) ?_⟩;exact af (fun W=>c (by omega)) fun W=>next ⟨by omega,.inr (by omega)⟩
 have bd:∀i,i<m.drives.length->cj m.drives 63 i=true:=fun j hj=>q j (by
  have e':¬(i:Int)<(x.2.2.2.2.2.2.1.len:Int):=e;omega)
 refine⟨x.2.2.2.2.2.2.2,A.cell rfl,?_⟩;obtain⟨s,F0⟩:=bt.fix D.objs;have b7:=F0.2.1;refine aB (fun i:Nat=>(i:Int)) (fun i h'=>i<=m.objs.length/\(∀j,j<i->eg m j=true)/\Sp h h' [ao B al (aE x)]) (fun i=>m.objs.length-i) 0 rfl ⟨by omega,by omega,M⟩ ?_;rintro i h3 ⟨hi,q,H3⟩;refine af (fun e=>?_) (fun e=>?_)
 ·have l:i<m.objs.length:=by
   have e':(i:Int)<(x.2.2.2.2.2.2.2.len:Int):=e;omega
  obtain⟨E,hE⟩:∃E,E=m.objs[i]:=⟨_,rfl⟩
  have a4:=hz.nm _ (qt l);rw[<-hE]at a4;have H:cT m.objs i=E:=by rw[hE];exact iW l
  have c:∀{h':Heap} {As:List HP},Sp h h' As->(eg m i=true->False)->Value.bool false=wM (ce m)/\Sp h h' []:=fun{h' As} H' hb=>F H' fun a=>hb (((cQ m).1 a).2.2.2 i l);have d:eg m i=true->_:=fun a=>(oz m E).1 (by rw[<-H];exact((jO m i).1 a).1);have F3:=eU.up F0 H3.ai;refine F3.1.gp (g:=bD) i rfl (by omega) (s[i]'(by omega)) rfl ?_;refine H3.alloc ae rfl fun u h4 H4=>?_;refine H4.storeAll ae 1 rfl rfl (bD (s[i]'(by omega))) rfl rfl rfl rfl fun r o=>?_;have o:Sp h r [ao B al (aE x),ao u bs (bD (s[i]'(by omega)))]:=o;have F5:=eU.up F0 o.ai;obtain⟨⟨y1,y2,y3⟩,U⟩:=Fix.row F5 l;rw[<-hE]at y1 y2 y3 U;have I:=o.box 1 rfl;have n0:cellOf r u=some (wL E.name):=by rw[<-y1];exact I.cell0 rfl
  refine dN (fun _ h'=>(dP E.name=true/\(0<=E.object/\E.object<=m.next-1)/\(0<=E.length/\E.length<=m.p.1*m.p.2.2*8)/\(E.tries.length:Int)=countP m.p E.length)/\(i=0∨gX (cT m.objs (i-1)).name E.name=true)/\Sp h h' [ao B al (aE x),ao u bs (bD (s[i]'(by omega)))]) ?_ ?_
  ·refine⟨E.name,n0,(ui E.name r (by omega)).mono ?_⟩;rintro _ r ⟨rfl,rfl⟩;have k0:cellOf r u=some (wL E.name):=n0;have k1:cellOf r (u.add 1)=some (wI wO E.object):=by rw[<-y2];exact I.cell rfl
   have V:cellOf r (u.add 2)=some (wI wO E.length):=by rw[<-y3];exact I.cell rfl
   have k3:cellOf r (u.add 3)=some (.slice (s[i]'(by omega)).2.2.2.ptr (s[i]'(by omega)).2.2.2.len (s[i]'(by omega)).2.2.2.cap):=I.cell rfl;have n:=o.box 0 rfl;have m1:cellOf r (B.add 1)=some (wI wO m.next):=by rw[<-D.next];exact n.cell rfl
   have m2:cellOf r (B.add 2)=some (wI wO m.p.1):=by rw[<-R];exact n.cell rfl
   have m4:cellOf r ((B.add 2).add 2)=some (wI wO m.p.2.2):=by rw[<-Q];exact n.lA 2 2 rfl
   have m7:cellOf r (B.add 7)=some (wJ x.2.2.2.2.2.2.2.ptr x.2.2.2.2.2.2.2.len x.2.2.2.2.2.2.2.cap):=n.cell rfl;have mp:ap r (B.add 2) 0 [wI wO m.p.1,wI wO m.p.2.1,wI wO m.p.2.2]:=by rw[<-R,<-a3,<-Q];exact n.mR 2 rfl rfl rfl
   refine⟨_,rfl,trivial,aK (fun b=>⟨trivial,c o fun a=>by have:=(d a).1;rw[b]at this;cases this⟩) fun b1=>af (fun e2=>?_) fun e2=>?_⟩
   ·rw[Go.Vc.wrap_small ((i:Int)-1) (by omega) (by omega)];have L:cT m.objs (i-1)=m.objs[i-1]:=iW (by omega);obtain⟨J,ha,zz,hc,rfl⟩:=F5.1.gp (g:=bD) (i:=(i:Int)-1) (i-1) (by omega) (by omega) (s[i-1]'(by omega)) rfl (K:=fun t=>t=s[i-1]'(by omega)) rfl;have q0:cellOf r (J.add (((i:Int)-1).toNat*4))=some (wL m.objs[i-1].name):=by
     rw[<-(Fix.row F5 (show i-1<m.objs.length by omega)).1.1];exact hc.1
    refine⟨E.name,k0,x.2.2.2.2.2.2.2,m7,J,ha,m.objs[i-1].name,q0,?_⟩;rw[lB];refine aK (fun w=>⟨by repeat (first|exact trivial|refine⟨by assumption,?_⟩),c o fun a=>?_⟩) fun w=>?_
    ·rcases((jO m i).1 a).2.1 with h0|h0
     ·omega
     ·rw[H,L]at h0;unfold gX at h0;rw[h0]at w;cases w
    have a5:gX (cT m.objs (i-1)).name E.name=true:=by rw[L];exact w
    refine⟨E.object,k1,af (fun W=>⟨by repeat (first|exact trivial|refine⟨by assumption,?_⟩),c o fun a=>by have:=(d a).2.1;omega⟩) fun W=>⟨E.object,k1,m.next,m1,af (fun e5=>⟨by repeat (first|exact trivial|refine⟨by assumption,?_⟩),c o fun a=>by have:=(d a).2.1;omega⟩) fun e5=>?_⟩⟩;refine⟨E.length,V,af (fun e6=>⟨by repeat (first|exact trivial|refine⟨by assumption,?_⟩),c o fun a=>by have:=(d a).2.2.1;omega⟩) fun e6=>⟨E.length,V,m.p.1,m2,m.p.2.2,m4,?_⟩⟩;rw[Go.Vc.wrap_small (m.p.1*m.p.2.2) (by omega) (by omega),Go.Vc.wrap_small (m.p.1*m.p.2.2*8) (by omega) (by omega)];refine af (fun e7=>⟨by repeat (first|exact trivial|refine⟨by assumption,?_⟩),c o fun a=>by have:=(d a).2.2.1;omega⟩) fun e7=>?_;refine⟨(s[i]'(by omega)).2.2.2,k3,m.p,mp,E.length,V,(nl m.p E.length r (by omega)).mono ?_⟩;rintro _ h6 ⟨rfl,R6⟩;have z:=o.up R6.ai;refine⟨_,rfl,gV R6.ai (by repeat (first|exact trivial|refine⟨by assumption,?_⟩)),bq (fun e8=>c z fun a=>?_) fun e8=>⟨⟨b1,by omega,by omega,?_⟩,.inr a5,z⟩⟩
    ·have:=(d a).2.2.2.2;have:=U.len;omega
    ·have:=U.len;omega
   ·refine⟨E.object,k1,af (fun W=>⟨by repeat (first|exact trivial|refine⟨by assumption,?_⟩),c o fun a=>by have:=(d a).2.1;omega⟩) fun W=>⟨E.object,k1,m.next,m1,af (fun e5=>⟨by repeat (first|exact trivial|refine⟨by assumption,?_⟩),c o fun a=>by have:=(d a).2.1;omega⟩) fun e5=>?_⟩⟩;refine⟨E.length,V,af (fun e6=>⟨by repeat (first|exact trivial|refine⟨by assumption,?_⟩),c o fun a=>by have:=(d a).2.2.1;omega⟩) fun e6=>⟨E.length,V,m.p.1,m2,m.p.2.2,m4,?_⟩⟩;rw[Go.Vc.wrap_small (m.p.1*m.p.2.2) (by omega) (by omega),Go.Vc.wrap_small (m.p.1*m.p.2.2*8) (by omega) (by omega)];refine af (fun e7=>⟨by repeat (first|exact trivial|refine⟨by assumption,?_⟩),c o fun a=>by have:=(d a).2.2.1;omega⟩) fun e7=>?_;refine⟨(s[i]'(by omega)).2.2.2,k3,m.p,mp,E.length,V,(nl m.p E.length r (by omega)).mono ?_⟩;rintro _ h6 ⟨rfl,R6⟩;have z:=o.up R6.ai;refine⟨_,rfl,gV R6.ai (by repeat (first|exact trivial|refine⟨by assumption,?_⟩)),bq (fun e8=>c z fun a=>?_) fun e8=>⟨⟨b1,by omega,by omega,?_⟩,.inl (by omega),z⟩⟩
    ·have:=(d a).2.2.2.2;have:=U.len;omega
    ·have:=U.len;omega
  ·rintro _ h6 ⟨⟨b1,b2,a6,b4⟩,b5,z⟩;have F6:=eU.up F0 z.ai;have y6:=(Fix.row F6 l).2;rw[<-hE]at y6;have Z:=z.box 1 rfl;have cs:=U.len;refine⟨(s[i]'(by omega)).2.2.2,Z.cell rfl,?_⟩;refine aB (fun j:Nat=>(j:Int)) (fun j h'=>j<=E.tries.length/\(∀t∈E.tries.take j,0<=t/\t<=15)/\h'=h6) (fun j=>E.tries.length-j) 0 rfl ⟨by omega,by simp,rfl⟩ ?_;rintro j h7 ⟨hj,P,rfl⟩;refine af (fun S=>?_) (fun S=>?_)
   ·have G:j<E.tries.length:=by
     have e':(j:Int)<((s[i]'(by omega)).2.2.2.len:Int):=S;omega
    refine Seq.cd (f:=ay) y6 j rfl G E.tries[j] rfl ?_;have N:=qt G;refine af (fun e2=>c z fun a=>by have:=(d a).2.2.2.1 _ N;omega) fun e2=>af (fun w=>c z fun a=>by have:=(d a).2.2.2.1 _ N;omega) fun w=>?_;refine⟨j+1,by rw[Go.Vc.wrap_small _ (by omega) (by omega)];rfl,⟨by omega,fun t X=>?_,rfl⟩,by omega⟩;rw[aD _ _ G]at X;rcases qZ.1 X with X|X
    ·exact P t X
    ·rw[qz.1 X];omega
   ·have e':¬(j:Int)<((s[i]'(by omega)).2.2.2.len:Int):=S;rw[qi (by omega)]at P;refine aB (fun k:Nat=>(k:Int)) (fun k h'=>k<=i/\(∀y∈m.objs.take k,y.object≠E.object)/\h'=h7) (fun k=>i-k) 0 rfl ⟨by omega,by simp,rfl⟩ ?_;rintro k h8 ⟨cc,a0,rfl⟩;refine af (fun e2=>?_) (fun e2=>?_)
    ·have b6:k<i:=by omega
     obtain⟨J,ha,zz,hc,rfl⟩:=F6.1.gp (g:=bD) (i:=(k:Int)) k rfl (by omega) (s[k]'(by omega)) rfl (K:=fun t=>t=s[k]'(by omega)) rfl;have ad:k<m.objs.length:=by omega
     refine⟨x.2.2.2.2.2.2.2,(z.box 0 rfl).cell rfl,J,ha,m.objs[k].object,?_,E.object,?_,?_⟩
     ·rw[<-(Fix.row F6 ad).1.2.1];exact hc.2.1
     ·rw[<-y2];exact Z.cell rfl
     ·refine bp (fun w=>c z fun a=>?_) fun w=>?_
      ·have:=((jO m i).1 a).2.2 m.objs[k] (List.mem_take_iff_getElem.2 ⟨k,by omega,rfl⟩);rw[H]at this;exact this w
      ·refine⟨k+1,by rw[Go.Vc.wrap_small _ (by omega) (by omega)];rfl,⟨by omega,fun y Y=>?_,rfl⟩,by omega⟩;rw[aD _ _ ad]at Y;rcases qZ.1 Y with Y|Y
       ·exact a0 y Y
       ·rw[qz.1 Y];exact w
    ·have br:k=i:=by omega
     subst br;refine⟨k+1,by rw[Go.Vc.wrap_small _ (by omega) (by omega)];rfl,⟨by omega,fun j' G=>?_,z.cH [0]⟩,by omega⟩;by_cases a7:j'=k
     ·subst a7;rw[jO,H,oz];exact⟨⟨b1,b2,a6,P,b4⟩,b5,a0⟩
     ·exact q j' (by omega)
 ·have e':¬(i:Int)<(x.2.2.2.2.2.2.2.len:Int):=e;have:ce m=true:=(cQ m).2 ⟨O,bd,bb,fun j hj=>q j (by omega)⟩;exact⟨by rw[this],.zip H3.ai⟩
theorem uk(x:bn)(m:ba)(h:Heap)(d:cK h x m)(hz:co m):ac wS jD #[cE x] h fun v h'=>∃r:Sl,v=wJ r.ptr r.len r.cap/\Sp h h' [au aA r 1 aF (de m)]:=by
 refine jk x ?_;unfold fc;refine(Sp.refl h).boxed fun a1 h1 H1=>?_;refine⟨x,(H1.box 0 rfl).aO _ rfl,(vk x m h1 (d.up H1.ai) hz).mono ?_⟩;rintro _ h2 ⟨rfl,R2⟩;have H2:=H1.up R2.ai;refine⟨_,rfl,aK (fun e=>?_) fun z=>?_⟩
 ·unfold de;rw[e];exact⟨⟨none,0,0⟩,rfl,((H2.nil aA 1 aF).cH [1])⟩
 have a7:x.2.2.1=m.p.1:=congrArg (·.1) d.p;have bb:x.2.2.2.1=m.p.2.1:=congrArg (·.2.1) d.p;have ad:x.2.2.2.2.1=m.p.2.2:=congrArg (·.2.2) d.p;have A:=H2.box 0 rfl;have b:=jr m hz;unfold de at b;rw[z,if_pos rfl]at b;have hM:∀{h':Heap} {As:List HP},Sp h h' As->cK h' x m:=fun{h' As} J=>d.up J.ai;refine aG ⟨m.seq,by rw[<-d.seq];exact A.cell0 rfl,m.next,by rw[<-d.next];exact A.cell rfl,?_⟩;have H3:=(H2.nil aA 1 aF).bv;refine(fV ⟨none,0,0⟩ [] m.seq 4 (by decide) (by simp) H3).mono ?_;rintro _ h4 ⟨s4,rfl,H4⟩;refine⟨s4,rfl,⟨by rw[<-d.next];exact(H4.box 1 rfl).cell rfl,trivial⟩,?_⟩;refine(fV s4 _ m.next 4 (by decide) (by simp[aW]) H4).mono ?_;rintro _ h5 ⟨s5,rfl,H5⟩;refine⟨s5,rfl,trivial,?_⟩;have j:=H5.box 1 rfl;refine⟨m.p.1,by rw[<-a7];exact j.cell rfl,m.p.2.1,by rw[<-bb];exact j.lA 2 1 rfl,m.p.2.2,by rw[<-ad];exact j.lA 2 2 rfl,m.extra,by rw[<-d.extra];exact j.cell rfl,x.2.2.2.2.2.2.1,j.cell rfl,?_⟩;have X:=d.drives.len;have a9:=bt.len d.objs;rw[aT,aT,aT,aT,aT,X];refine H5.lit ae aF cJ rfl [b8 m.p.1,b8 m.p.2.1,b8 m.p.2.2,b8 m.extra,b8 (m.drives.length:Nat)] rfl (show 5*1<=2^20 by decide) rfl fun b3 h6 H6=>?_;refine H6.append ae 0 rfl cJ ⟨_,_,rfl,rfl⟩ rfl (by decide) (fun _=>rfl) (H6.seq 2 rfl fun _=>rfl) cg (by simp[aW]) fun s7 h7 Q=>?_;have Q:=Q.cH [0,1];refine⟨x.2.2.2.2.2.2.1,(Q.box 1 rfl).cell rfl,?_⟩;have bd:(([]++bx m.seq 4)++bx m.next 4++[b8 m.p.1,b8 m.p.2.1,b8 m.p.2.2,b8 m.extra,b8 (m.drives.length:Nat)]).length=13:=by simp[aW]
 have b7:=hz.dr;refine iL x.2.2.2.2.2.2.1 m.drives s7 _ Q (St.mk' fun h' J=>(hM J).drives) (by omega) (by omega) fun s8 h8 Z=>?_;dsimp only;refine⟨x.2.2.2.2.2.2.2,(Z.box 1 rfl).cell rfl,?_⟩;rw[aT,a9];obtain⟨a,c⟩:∃a,a=([]++bx m.seq 4)++bx m.next 4++[b8 m.p.1,b8 m.p.2.1,b8 m.p.2.2,b8 m.extra,b8 (m.drives.length:Nat)]++m.drives.map b8:=⟨_,rfl⟩
 rw[<-c]at Z;have a4:a.length=13+m.drives.length:=by rw[c];simp[aW];omega
 simp only[qu,qV,wg,qT,aW]at b;refine Z.push ae 0 rfl cJ rfl (by decide) (fun _=>rfl) cg (b8 (m.objs.length:Nat)) rfl (by decide) (by omega) fun s9 h9 P=>?_;have P:Sp h h9 [au aA s9 1 aF (a++[b8 (m.objs.length:Nat)]),ao a1 al (aE x)]:=P;refine⟨x.2.2.2.2.2.2.2,(P.box 1 rfl).cell rfl,?_⟩;obtain⟨L,R⟩:=bt.fix d.objs;have br:=R.2.1;refine aB (fun t:Sl×Nat=>(t.1,(t.2:Int))) (fun t h'=>t.2<=m.objs.length/\Sp h h' [au aA t.1 1 aF (a++[b8 (m.objs.length:Nat)]++(m.objs.take t.2).flatMap cx),ao a1 al (aE x)]) (fun t=>m.objs.length-t.2) (s9,0) rfl ⟨by simp,by simpa using P⟩ ?_;rintro⟨o,i⟩ b6 ⟨hi,f⟩;dsimp only at*;refine af (fun e=>?_) (fun e=>?_)
 ·have q:i<m.objs.length:=by omega
  have a6:=eU.up R f.ai;have a0:=sv z q;have n:((m.objs.take i).flatMap cx).length<=50000:=by
   have h1:=jM z i hi;have:=jq z;have:i*4000<=12*4000:=qR _ (by omega);omega
  refine a6.1.gp (g:=bD) i rfl (by omega) (L[i]'(by omega)) rfl ?_;refine f.alloc ae rfl fun a2 b0 a8=>?_;refine a8.storeAll ae 2 rfl rfl (bD (L[i]'(by omega))) rfl rfl rfl rfl fun a3 l=>?_;have a5:=eU.up R l.ai;obtain⟨⟨w,y2,T⟩,y4⟩:=Fix.row a5 q;obtain⟨E,S⟩:∃E,E=m.objs[i]:=⟨_,rfl⟩
  rw[<-S]at w y2 T y4 a0;have s:=l.box 2 rfl;refine aG ⟨E.name,by rw[<-w];exact s.cell0 rfl,E.name,by rw[<-w];exact s.cell0 rfl,?_⟩;rw[aT];refine l.iN ae aF cJ rfl [b8 (E.name.size:Nat)] rfl (show 1*1<=2^20 by decide) rfl ⟨by rw[<-w];exact s.cell0 rfl,by rw[<-w];exact s.cell0 rfl,trivial⟩ ?_;have H:(a++[b8 (m.objs.length:Nat)]++(m.objs.take i).flatMap cx).length<=160000:=by rw[qu,qu,a4];simp;simp at n;omega
  obtain⟨k,M⟩:∃k,k=a++[b8 (m.objs.length:Nat)]++(m.objs.take i).flatMap cx:=⟨_,rfl⟩
  rw[<-M]at l H;refine l.push ae 0 rfl cJ rfl (by decide) (fun _=>rfl) cg (b8 (E.name.size:Nat)) rfl (by decide) (by omega) fun b2 b9 O=>?_;have K:=O.box 2 rfl;refine⟨⟨by rw[<-w];exact K.cell0 rfl,by rw[<-w];exact K.cell0 rfl,trivial⟩,?_⟩;refine O.pC ae 0 rfl cJ ⟨_,rfl,rfl⟩ rfl (by decide) E.name (by simp;omega) fun I U u=>?_;have y:=u.box 2 rfl;refine⟨⟨by rw[<-w];exact y.cell0 rfl,trivial⟩,?_⟩;have u:Sp h U [au aA I 1 aF (k++[b8 (E.name.size:Nat)]++cq E.name),ao a1 al (aE x),ao a2 bs (bD (L[i]'(by omega)))]:=u;refine aG ⟨E.object,by rw[<-y2];exact y.cell rfl,E.length,by rw[<-T];exact y.cell rfl,?_⟩;have b1:=gv E.name;refine(fV I _ E.object 3 (by decide) (by simp;omega) u).mono ?_;rintro _ cc ⟨F,rfl,G⟩;have W:=G.box 2 rfl;refine⟨F,rfl,⟨by rw[<-T];exact W.cell rfl,trivial⟩,?_⟩;refine(fV F _ E.length 2 (by decide) (by simp[aW];omega) G).mono ?_;rintro _ b4 ⟨B,rfl,N⟩;have V:=N.box 2 rfl;refine⟨B,rfl,trivial,(L[i]'(by omega)).2.2.2,V.cell rfl,?_⟩;refine iL (L[i]'(by omega)).2.2.2 E.tries B _ N (St.mk' fun h' J=>by rw[S];exact(Fix.row (eU.up R J.ai) q).2) (by simp[aW];omega) (by omega) fun Y b5 D=>?_;dsimp only;have a3:=jq z;refine⟨(Y,i+1),by dsimp only;rw[Go.Vc.wrap_small _ (by omega) (by omega)];rfl,⟨by dsimp only;omega,?_⟩,by dsimp only;omega⟩;dsimp only;rw[aD _ _ q,qy,<-qp,<-M,qF,zC,qU,<-S];have e3:k++[b8 (E.name.size:Nat)]++cq E.name++bx E.object 3++bx E.length 2++E.tries.map b8=k++cx E:=by
   unfold cx cq;simp[qp]
  rw[e3]at D;exact D.cH [0,1]
 ·rw[qi (by omega)]at f;refine⟨o,rfl,?_⟩;have e2:a++[b8 (m.objs.length:Nat)]++m.objs.flatMap cx=de m:=by
   rw[c];unfold de;rw[z,if_pos rfl];simp[qp]
  rw[e2]at f;exact f.cH [0]
theorem np(x:bn)(m:ba)(h:Heap)(J:cK h x m)(K:co m):ac wS jh #[cE x] h fun v h'=>∃r:Sl,v=wJ r.ptr r.len r.cap/\Sp h h' [bH r (aX m)]:=by
 refine iI x ?_;unfold eO;refine(Sp.refl h).boxed fun s S w=>?_;refine⟨x,(w.box 0 rfl).aO _ rfl,(uk x m S (J.up w.ai) K).mono ?_⟩;rintro _ Z ⟨b,rfl,T⟩;have q:=w.comp T;have D:=jr m K;obtain⟨l,z⟩:∃l,l=de m:=⟨_,rfl⟩
 rw[<-z]at q D;have M:=(q.own 1 rfl).len;have j:=(q.own 1 rfl).cap;refine⟨b,rfl,by decide,?_⟩;have f:qa wO (wC (qa wO ((qa wO (((b.len:Nat):Int)+(48:Int)))-(1:Int))) (48:Int))=(bP l:Int):=by
  rw[Go.Vc.wrap_small ((b.len:Int)+48) (by omega) (by omega),Go.Vc.wrap_small ((b.len:Int)+48-1) (by omega) (by omega),zE (by omega)];unfold bP;rw[Go.Vc.wrap_small (((b.len:Int)+48-1)/48) (by omega) (by omega)];omega
 have W:bP l<=3000:=by unfold bP;omega
 rw[f];obtain⟨c,g⟩:∃c:List (List UInt8),c=aX m:=⟨_,rfl⟩
 have L:c.length=bP l:=by rw[g,z];simp[aX]
 have d:Sp h Z [bH ⟨none,0,0⟩ (c.take 0),ao s al (aE x),au aA b 1 aF l]:=q.jX bw aA 1 aF;refine aB (fun t:Sl×Nat=>(t.1,(t.2:Int))) (fun t h'=>t.2<=bP l/\Sp h h' [bH t.1 (c.take t.2),ao s al (aE x),au aA b 1 aF l]) (fun t=>bP l-t.2) (⟨none,0,0⟩,0) rfl ⟨by simp,d⟩ ?_;rintro⟨o,i⟩ h3 ⟨hi,d⟩;dsimp only at*;refine af (fun e=>?_) (fun e=>?_)
 ·have A:i<bP l:=by omega
  have I:48*i<l.length:=by unfold bP at A;omega
  rw[Go.Vc.wrap_small ((i:Int)*48) (by omega) (by omega),Go.Vc.wrap_small ((i:Int)+1) (by omega) (by omega),Go.Vc.wrap_small (((i:Int)+1)*48) (by omega) (by omega)];obtain⟨a,ad⟩:∃a:Nat,a=min (48*i+48) l.length:=⟨_,rfl⟩
  have E:(if((b.len:Nat):Int)<((i:Int)+1)*48 then((b.len:Nat):Int)else((i:Int)+1)*48)=(a:Int):=by
   split<;>omega
  rw[E];refine⟨⟨by omega,by omega,by omega⟩,m.seq,by rw[<-J.seq];exact(d.box 1 rfl).cell0 rfl,?_⟩;have O:((i:Int)*48).toNat=48*i:=by omega
  rw[O,qm];have R:=((d.seq 2 rfl fun _=>rfl).drop (48*i) j).take (a-48*i) (by rw[qG];omega);have e2:(l.drop (48*i)).take (a-48*i)=(l.drop (48*i)).take 48:=by
   by_cases hh:48*i+48<=l.length
   ·rw[show a-48*i=48 by omega]
   ·rw[qi (by rw[qG];omega),qi (by rw[qG];omega)]
  rw[e2,za]at R;rw[za];refine(fV ⟨none,0,0⟩ [] m.seq 4 (by decide) (by simp) (d.nil aA 1 aF).bv).mono ?_;rintro _ h4 ⟨V,rfl,y⟩;refine⟨V,rfl,?_⟩;rw[aT,aT,aT];refine y.lit ae aF cJ rfl [b8 (i:Int),b8 (bP l:Int),b8 ((a-48*i:Nat):Int)] rfl (show 3*1<=2^20 by decide) rfl fun v7 P n=>?_;refine n.append ae 0 rfl cJ ⟨_,_,rfl,rfl⟩ rfl (by decide) (fun _=>rfl) (n.seq 4 rfl fun _=>rfl) cg (by simp[aW]) fun Y X p=>?_;have p:Sp h X [au aA Y 1 aF ([]++bx m.seq 4++[b8 (i:Int),b8 (bP l:Int),b8 ((a-48*i:Nat):Int)]),bH o (c.take i),ao s al (aE x),au aA b 1 aF l]:=p.cH [0,1,2,3];have k:=((p.seq 3 rfl fun _=>rfl).drop (48*i) j).take (a-48*i) (by rw[qG];omega);rw[e2,za]at k;have B:((l.drop (48*i)).take 48).length=a-48*i:=by simp;omega
  refine p.append ae 0 rfl cJ ⟨_,_,rfl,rfl⟩ rfl (by decide) (fun _=>rfl) k cg (by simp[aW];omega) fun H G u=>?_;have u:Sp h G [au aA H 1 aF ([]++bx m.seq 4++[b8 (i:Int),b8 (bP l:Int),b8 ((a-48*i:Nat):Int)]++(l.drop (48*i)).take 48),bH o (c.take i),ao s al (aE x),au aA b 1 aF l]:=u;refine(vj 2 H _ G (u.seq 0 rfl fun _=>rfl) (by simp[aW];omega)).mono ?_;rintro _ h8 ⟨r,rfl,F⟩;have Q:cw 2 ([]++bx m.seq 4++[b8 (i:Int),b8 (bP l:Int),b8 ((a-48*i:Nat):Int)]++(l.drop (48*i)).take 48)=fu m.seq i (bP l) ((l.drop (48*i)).take 48):=by
   unfold fu;rw[B];simp
  rw[Q]at F;have y:=((u.mJ).dO F).aV 4 [1,0,2,3];refine⟨r,rfl,?_⟩;refine y.nV ae jL (by simp;omega) fun U P n=>?_;refine⟨(U,i+1),rfl,⟨by dsimp only;omega,?_⟩,by dsimp only;omega⟩;dsimp only;rw[aD _ _ (show i<c.length by omega)];have N:c[i]'(by omega)=fu m.seq i (bP l) ((l.drop (48*i)).take 48):=by
   subst g;subst z;simp[aX]
  rw[N];exact n
 ·rw[qi (by omega),g]at d;exact⟨o,rfl,d.cH [0]⟩
end Go.Proofs.YtcamechmadjclaaGreatDoor
namespace Go.Vc
open Go Wl
def az(l:List Int)(k:Nat):List Int:=((zf k).map fun i:Nat=>(i:Int)).filter fun i=>decide (0<l.getD i.toNat 0)
def bo(l:List Int):List Int×Bool:=
 if l.all (bz · 0 512)then(az l l.length,decide (l.length<=64)&&decide (0<(az l l.length).length))else([],false)
theorem fk(l:List Int)(k:Nat)(a:k<l.length):az l (k+1)=az l k++if 0<l[k]then[(k:Int)]else[]:=by
 unfold az;rw[List.range_succ,ze,List.filter_append];congr 1;simp only[zO,List.map_nil,wz,List.filter_nil,qm,qj,qc a,Option.getD_some];by_cases h:0<l[k]<;>simp[h]
theorem dH(l:List Int)(k:Nat):(az l k).length<=k:=by
 unfold az;exact zw (zH _ _) (by simp)
end Go.Vc
namespace Go.Proofs.YtcamechmadjclaaGreatDoor
open Go Go.Vc Go.Proofs Wl
section
theorem eR(s:Sl)(l:List Int)(h:Heap)(m:Rd h s 1 ay l)(D:l.length<=2^20):
  ac wS oc #[wJ s.ptr s.len s.cap] h fun v h'=>∃r:Sl,v=.tuple #[wJ r.ptr r.len r.cap,wM (bo l).2]/\Sp h h' [au aL r 1 ay (bo l).1]:=by
 refine nG s ?_;unfold kz;have n:=m.len;have q:Sp h h [au aL ⟨none,0,0⟩ 1 ay (az l 0)]:=(Sp.refl h).nil aL 1 ay;refine aB (fun t:Sl×Nat=>(t.1,(t.2:Int))) (fun t h'=>t.2<=l.length/\(l.take t.2).all (bz · 0 512)=true/\Sp h h' [au aL t.1 1 ay (az l t.2)]) (fun t=>l.length-t.2) (⟨none,0,0⟩,0) rfl ⟨by simp,by simp,q⟩ ?_;rintro⟨o,i⟩ B ⟨E,b,d⟩;dsimp only at*;have f:∀(a:i<l.length),bz l[i] 0 512=false->bo l=([],false):=fun a g=>by
  unfold bo;rw[if_neg];intro y;have:=qH.1 y _ (qt a);rw[g]at this;cases this
 refine af (fun e=>?_) (fun e=>?_)
 ·have a:i<l.length:=by omega
  have z:=dH l i;refine(Seq.up m d.ai).cd i rfl a l[i] rfl ?_;refine aG (af (fun j=>?_) (fun j=>af (fun e2=>?_) (fun e2=>?_)))
  ·have g:=f a (by unfold bz;simp;omega);rw[g];exact⟨⟨none,0,0⟩,rfl,(d.cH []).nil aL 1 ay⟩
  ·have g:=f a (by unfold bz;simp;omega);rw[g];exact⟨⟨none,0,0⟩,rfl,(d.cH []).nil aL 1 ay⟩
  ·have c:(l.take (i+1)).all (bz · 0 512)=true:=by
    rw[aD l i a,List.all_append,b,wa,List.all_cons,List.all_nil,Bool.and_true];unfold bz;simp;omega
   refine af (fun p=>?_) (fun p=>?_)
   ·refine d.push ae 0 rfl jp rfl (by decide) (fun _=>rfl) gq (i:Int) rfl (by decide) (by omega) fun x F w=>?_;refine⟨(x,i+1),by dsimp only;rw[Go.Vc.wrap_small _ (by omega) (by omega)];rfl,⟨by dsimp only;omega,c,?_⟩,by dsimp only;omega⟩;dsimp only;rw[fk l i a,if_pos (by omega)];exact w
   ·refine⟨(o,i+1),by dsimp only;rw[Go.Vc.wrap_small _ (by omega) (by omega)];rfl,⟨by dsimp only;omega,c,?_⟩,by dsimp only;omega⟩;dsimp only;rw[fk l i a,if_neg (by omega),qU];exact d
 ·have k:i=l.length:=by omega
  subst k;rw[qK]at b;have A:=(d.own 0 rfl).len;have u:bo l=(az l l.length,decide (l.length<=64)&&decide (0<(az l l.length).length)):=by unfold bo;rw[if_pos b]
  rw[u];refine af (fun j=>⟨o,?_,d⟩) (fun j=>⟨o,?_,d⟩)
  ·dsimp only;rw[decide_eq_true (show l.length<=64 by omega),wa];congr 4;refine congrArg Value.bool ?_;rw[decide_eq_decide];omega
  ·dsimp only;rw[decide_eq_false (show¬l.length<=64 by omega),Bool.false_and]
end
section
variable {B:am} {h0 h:Heap} {As:List HP} {a pw:Addr} {offs:Int} {da:List (Option Addr)} {w:Pow} {ds:aY}
theorem ph(x:bn)(m:ba)(g:cK h x m)(b:co m)(H:aa B h0 h (aI bU a pw (aE x) offs da w ds::As)):
  ac wS lE #[wK (some a)] h fun v h'=>∃r:Sl,v=wJ r.ptr r.len r.cap/\Sp h h' [au aL r 1 ay (bR ds m.drives)]:=by
 refine kR (some a) ?_;unfold hR;obtain⟨ok,d⟩:=aa.dc H;have f:=b.dr;refine aN (fun e=>by cases e) (fun _=>⟨a,rfl,x.2.2.2.2.2.2.1,d.cell rfl,(ue _ m.drives g.drives (by omega) H).mono ?_⟩);rintro _ i ⟨r,rfl,c⟩;exact⟨r,rfl,r,rfl,c⟩
theorem pi(x:bn)(m:ba)(j:cK h x m)(l:co m)(H:aa B h0 h (aI bU a pw (aE x) offs da w ds::As)):
  ac wS jz #[wK (some a)] h fun v h'=>∃y:bn,v=cE y/\Sp h h' [dG y m]:=by
 refine jf (some a) ?_;unfold eZ;obtain⟨ok,f⟩:=aa.dc H;refine(Sp.refl h).alloc ae rfl fun n i b=>?_;have c:=f.ai b.ai f.lt;refine aN (fun e=>by cases e) (fun _=>⟨a,rfl,x,c.aO _ rfl,(ud x m i (j.up b.ai) l).mono ?_⟩);rintro _ p ⟨y,rfl,k⟩;have g:=b.comp k;refine⟨y,rfl,?_⟩;refine g.store ae 0 rfl rfl 0 (aE y) rfl rfl rfl (by simp[Value.cells]) fun o d=>?_;exact⟨y,(d.box 0 rfl).aO _ rfl,y,rfl,d.cH [1]⟩
end
end Go.Proofs.YtcamechmadjclaaGreatDoor
namespace Go.Vc
open Go Wl
def gP(w:Pow)(a:Int):Bool:=w.off||w.offs !=a
end Go.Vc
namespace Go.Proofs.YtcamechmadjclaaGreatDoor
open Go Go.Vc Go.Proofs Wl
section
variable {B:am} {h0 h:Heap} {As:List HP} {a pw:Addr} {mc:List Value} {offs:Int} {da:List (Option Addr)} {w:Pow} {ds:aY}
theorem aa.tC(H:aa B h0 h (aI bU a pw mc offs da w ds::As)):∃l,mN w l/\bE h pw aS (powC w l):=by
 obtain⟨ok,c⟩:=Go.Vc.aa.fp H;have e:=c.rest;obtain⟨l,d,b⟩:=aa.eJ e;exact⟨l,d,b.box 0 rfl⟩
theorem gI(H:aa B h0 h (aI bU a pw mc offs da w ds::As)):
  ac wS lF #[wK (some a)] h fun v h'=>v=wM (gP w offs)/\h'=h:=by
 refine kS (some a) ?_;unfold hU;obtain⟨ok,g⟩:=aa.dc H;obtain⟨l,i,c⟩:=aa.tC H;have d:cellOf h (a.add 8)=some (wK (some pw)):=g.cell (lf ok.l8);have f:cellOf h (a.add 9)=some (wI wO offs):=g.cell (ox ok.l8);refine aN (fun _=>?_) (fun e=>by cases e);refine⟨a,rfl,some pw,d,(mO l c).mono ?_⟩;rintro _ _ ⟨rfl,rfl⟩;refine⟨_,rfl,trivial,aK (fun e=>⟨trivial,?_⟩) fun e=>?_⟩
 ·have b:w.off=true:=by simpa using e
  exact⟨by unfold gP;rw[b];rfl,rfl⟩
 ·have b:w.off=false:=by simpa using e
  refine⟨a,rfl,some pw,d,a,rfl,offs,f,(mw l c).mono ?_⟩;rintro _ _ ⟨rfl,rfl⟩;exact⟨_,rfl,⟨f,trivial⟩,by unfold gP;rw[b];rfl,rfl⟩
theorem iv(H:aa B h0 h (aI bU a pw mc offs da w ds::As)):
  ac wS kT #[wK (some a)] h fun v h'=>v=wK (some pw)/\h'=h:=by
 refine kA (some a) ?_;unfold gi;obtain⟨ok,b⟩:=aa.dc H;exact aN (fun e=>by cases e) fun _=>⟨a,rfl,some pw,b.cell (lf ok.l8),rfl,rfl⟩
end
end Go.Proofs.YtcamechmadjclaaGreatDoor
namespace Go.Vc
open Go Wl
section
variable {k:Kit} {B:am} {h0 h:Heap} {As:List HP} {a pw:Addr} {mc:List Value} {offs:Int} {w:Pow}
theorem aa.xN(H:aa B h0 h As):∀n,aa B h0 h (qd n emp++As)
 |0=>H
 |n+1=>(((aa.xN H n).comp (.one (A:=emp) (ax.refl _ _) trivial)).bv:aa B h0 h (emp::(qd n emp++As)))
theorem aa.pL(h8:mc.length=8)(H:aa B h0 h (ao a k.tS (bh mc pw offs (qd 64 none))::bT k.tP pw w::As)):aa B h0 h (aI k a pw mc offs (qd 64 none) w (qd 64 none)::As):=by
 have ok:cf mc (qd 64 none) (qd 64 (none:Option aU)):=⟨h8,by simp,by simp,fun i=>by
  simp only[qj,wk];split<;>rfl⟩
 have f:cF k pw (qd 64 none) (qd 64 (none:Option aU))=qd 64 emp:=by
  simp[cF,xK]
 refine aa.my ok ?_;rw[f];have g:=aa.xN H 64;refine g.pick (fun i=>if i=0 then 64 else if i=1 then 65 else if i<66 then i-2 else i) (fun x y b=>by(try dsimp only at b);split at b<;>split at b<;>(try split at b)<;>(try split at b)<;>(try split at b)<;>(try split at b)<;>omega) fun i A d=>?_;rcases i with _|_|i
 ·simpa using d
 ·simpa using d
 ·by_cases e:i<64
  ·have c:(qd 64 emp++As)[i]?=some A:=d;rw[qk (by simpa using e)]at c
   try dsimp only
   rw[if_neg (by omega),if_neg (by omega),if_pos (by omega),qk (by simp;omega)];simpa using c
  ·have c:(qd 64 emp++As)[i]?=some A:=d;rw[qf (by simp;omega)]at c
   try dsimp only
   rw[if_neg (by omega),if_neg (by omega),if_neg (by omega),qf (by simp;omega)];simp only[List.length_replicate]at c⊢;obtain⟨j,rfl⟩:∃j,i=j+64:=⟨i-64,by omega⟩
   have e2:j+64+1+1-64=j+1+1:=by omega
   rw[e2];simpa using c
end
end Go.Vc
namespace Go.Proofs.YtcamechmadjclaaGreatDoor
open Go Go.Vc Go.Proofs Wl
section
theorem vl(x:bn)(pw:Addr)(a:Int):aj wS (zy db #[(0,cE x),(1,wK (some pw)),(2,wI wO a)]) (wN (bh (aE x) pw a (qd 64 none)).toArray):=
 fF ae (i:=_) rfl rfl rfl (vs:=[(0,cE x),(1,wK (some pw)),(2,wI wO a)]) (cells:=(bh (aE x) pw a (qd 64 none)).toArray) (by kernel_rfl)
end
end Go.Proofs.YtcamechmadjclaaGreatDoor
namespace Go.Vc
open Go Wl
section
variable {k:Kit} {B:am} {h0 h:Heap} {As:List HP} {a pw b:Addr} {mc:List Value} {offs:Int} {da:List (Option Addr)} {w:Pow} {ds:aY} {d:aU} {n:Nat}
theorem pM(h8:mc.length=8):(bh mc pw offs da).set (10+n) (wK (some b))=bh mc pw offs (da.set n (some b)):=by
 unfold bh;rw[zb _ _ (by omega),h8,show 10+n-8=n+1+1 by omega,zF,zF,List.map_set]
theorem aa.tE(ok:cf mc da ds)(E:n<64)(v:ds[n]?=some none)(H:aa B h0 h (ao a k.tS (bh mc pw offs (da.set n (some b)))::bT k.tP pw w::(cF k pw da ds++(dF k.tD (k.f pw) b d::As)))):aa B h0 h (aI k a pw mc offs (da.set n (some b)) w (ds.set n (some d))::As):=by
 have o:=ok.vg E v;have r:=ok.la;have p:=ok.ls;have q:cf mc (da.set n (some b)) (ds.set n (some d)):=⟨ok.l8,by simp[r],by simp[p],fun i=>by
  by_cases c:n=i
  ·subst c;rw[qj,qj,zU (by omega),zU (by omega)];rfl
  ·have:=ok.same i;rw[qj,qj]at this⊢;rw[zL c,zL c];exact this⟩
 have t:=sw (k:=k) (pw:=pw) ok;have u:(cF k pw da ds)[n]?=some emp:=by
  simp only[cF,zG,o,v];rfl
 have g:cF k pw (da.set n (some b)) (ds.set n (some d))=(cF k pw da ds).set n (dF k.tD (k.f pw) b d):=by
  apply zW;intro j;simp only[cF,qN,zG,List.length_zipWith];by_cases l:n=j
  ·subst l;rw[if_pos rfl,if_pos (by omega),if_pos rfl,if_pos (by omega),if_pos rfl,if_pos (by omega)];rfl
  ·simp[l]
 refine aa.my q ?_;rw[g];obtain⟨L,m⟩:∃L,L=cF k pw da ds:=⟨_,rfl⟩
 rw[<-m]at H u t⊢;have x:=H.cons (L.length+2) (A:=dF k.tD (k.f pw) b d) (by
  rw[qe,qe,qf (qM _),zT];rfl)
 have e:(ao a k.tS (bh mc pw offs (da.set n (some b)))::bT k.tP pw w::(L++(dF k.tD (k.f pw) b d::As))).set (L.length+2) emp=ao a k.tS (bh mc pw offs (da.set n (some b)))::bT k.tP pw w::(L++(emp::As)):=by
  rw[zF,zF,zb _ _ (qM _),zT];rfl
 rw[e]at x;have D:=x.aV 3 [0,2,1];have s:L.set n emp=L:=by
  obtain⟨F,I⟩:=qn.1 u
  conv=>lhs;rw[<-I]
  exact List.set_getElem_self F
 have z:aa B h0 h (dF k.tD (k.f pw) b d::bT k.tP pw w::ao a k.tS (bh mc pw offs (da.set n (some b)))::(L.set n emp++(emp::As))):=by rw[s];exact D
 have G:=aa.tA n (by omega) z;have y:=aa.closeAll (ao a k.tS (bh mc pw offs (da.set n (some b)))::bT k.tP pw w::L.set n (dF k.tD (k.f pw) b d)) G;exact aa.ku (L:=ao a k.tS (bh mc pw offs (da.set n (some b)))::bT k.tP pw w::L.set n (dF k.tD (k.f pw) b d)) y.fg
end
open Go Wl Go.Proofs.YtcamechmadjclaaGreatDoor
def aR(p:Pm)(a:Int)(l:List Int):ba:=⟨1,0,p,a,az l l.length,[]⟩
def bQ(l:List Int)(k:Nat):aY:=(zf 64).map fun i:Nat=>if(i:Int)∈(az l l.length).take k then some (aU.new (l.getD i 0).toNat)else none
def aC(p:Pm)(a:Int)(w:Pow)(l:List Int):Int×Pow×aY:=
 if(bo l).2&&(cV p&&bz a 0 16)then
  if(az l l.length).any fun i=>decide (l.getD i.toNat 0<((aX (aR p a l)).length:Int))then(7,w,[])
  else layAll (aQ (aR p a l) (az l l.length)) w (bQ l (az l l.length).length)
 else(1,w,[])
theorem mA(l:List Int):bQ l 0=qd 64 none:=by
 unfold bQ;rw[List.take_zero];apply zW;intro j;simp only[qE,wk,zi,List.not_mem_nil,if_false];by_cases h:j<64
 ·simp[h,zi]
 ·simp[h]
theorem nr(l:List Int)(k:Nat):(bQ l k).length=64:=by simp[bQ]
theorem mB(l:List Int)(k n:Nat)(d:k<(az l l.length).length)(c:(az l l.length)[k]=(n:Int))(b:n<64):(bQ l k).set n (some (aU.new (l.getD n 0).toNat))=bQ l (k+1):=by
 apply zW;intro j;unfold bQ;rw[aD _ _ d,c,qN,qT,List.length_range];by_cases e:j<64
 ·simp only[qE,zi e,qQ,qZ,qz];by_cases a:n=j
  ·subst a;rw[if_pos rfl,if_pos b,if_pos (Or.inr rfl)]
  ·rw[if_neg a];have:¬(j:Int)=(n:Int):=by omega
   simp only[this,or_false]
 ·rw[if_neg (by omega)];rw[qO (by simp;omega),qO (by simp;omega)]
theorem js(l:List Int)(k:Nat)(x:Int):x∈az l k↔∃n:Nat,n<k/\x=(n:Int)/\0<l.getD n 0:=by
 unfold az;rw[List.mem_filter,zx];constructor
 ·rintro⟨⟨n,b,rfl⟩,a⟩;exact⟨n,q5.1 b,rfl,by simpa using a⟩
 ·rintro⟨n,b,rfl,a⟩;exact⟨⟨n,q5.2 b,rfl⟩,by simpa using a⟩
theorem kj(l:List Int)(k i:Nat)(a:i<(az l k).length):∃n:Nat,n<k/\(az l k)[i]=(n:Int)/\0<l.getD n 0:=(js l k _).1 (qt a)
end Go.Vc
namespace Wl
open Go
theorem pj(a:aY)(n:Nat)(d:aU)(s:Int)(c:n<64)(e:a.length=64):gW (fG a (n:Int) d) s=if s=(n:Int)then some d else gW a s:=by
 unfold gW fG;rw[qm];by_cases h:0<=s/\s<64
 ·rw[if_pos h,if_pos h,qN];by_cases b:s=(n:Int)
  ·subst b;rw[if_pos rfl,qm,if_pos rfl,if_pos (by omega)];rfl
  ·rw[if_neg b,if_neg (by omega)]
 ·rw[if_neg h,if_neg h,if_neg (by omega)]
theorem jP{b:aY}{s:Int}{d:aU}(h:gW b s=some d):∃n:Nat,s=(n:Int)/\n<64:=by
 unfold gW at h;by_cases a:0<=s/\s<64
 ·exact⟨s.toNat,by omega,by omega⟩
 ·rw[if_neg a]at h;cases h
structure Fit (ds:aY) (S Q:List Int):Prop where
 len:ds.length=64
 at_:∀s∈S,∃d,gW ds s=some d/\d.lost=false/\d.l.length+Q.count s<=d.room
theorem sY{d:aU}{n:Nat}(w:Pow)(b:List UInt8)(a:d.lost=false)(g:d.l.length+(n+1)<=d.room)(f:b.length=64):
  ((d.append w b).1=0∨(d.append w b).1=14)/\(d.append w b).2.2.lost=false/\(d.append w b).2.2.l.length+n<=(d.append w b).2.2.room:=by
 unfold aU.append;rw[if_neg (by omega),if_neg (by simp[a]),if_neg (by omega)];by_cases e:w.off
 ·rw[if_pos e];exact⟨.inr rfl,a,by dsimp only;omega⟩
 ·rw[if_neg e];by_cases c:w.step.1
  ·rw[if_pos c];exact⟨.inl rfl,a,by simp;omega⟩
  ·rw[if_neg c];exact⟨.inr rfl,a,by simp;omega⟩
theorem vm{d:aU}(w:Pow)(a:d.lost=false):((d.sync w).1=0∨(d.sync w).1=14)/\(d.sync w).2.2.lost=false/\(d.sync w).2.2.l=d.l/\(d.sync w).2.2.room=d.room:=by
 unfold aU.sync;rw[if_neg (by simp[a])];by_cases b:w.step.1
 ·rw[if_pos b];exact⟨.inl rfl,a,rfl,rfl⟩
 ·rw[if_neg b];exact⟨.inr rfl,a,rfl,rfl⟩
theorem qr{c:aY}{S Q:List Int}{x:Int}(w:Pow)(b:List UInt8)(F:Fit c S (x::Q))(o:x∈S)(p:b.length=64):
  ((bO w c x b).1=0∨(bO w c x b).1=14)/\Fit (bO w c x b).2.2 S Q:=by
 obtain⟨d,i,m,q⟩:=F.at_ x o;rw[List.count_cons_self]at q;obtain⟨n,rfl,l⟩:=jP i;have A:=sY w b m (n:=Q.count (n:Int)) (by omega) p;have e:bO w c (n:Int) b=((d.append w b).1,(d.append w b).2.1,fG c (n:Int) (d.append w b).2.2):=by unfold bO;rw[i]
 rw[e];refine⟨A.1,by unfold fG;rw[q8];exact F.len,fun s k=>?_⟩;rw[pj _ _ _ _ l F.len];by_cases a:s=(n:Int)
 ·subst a;rw[if_pos rfl];exact⟨_,rfl,A.2⟩
 ·rw[if_neg a];obtain⟨d',g,j,f⟩:=F.at_ s k;rw[List.count_cons_of_ne (fun h=>a h.symm)]at f;exact⟨d',g,j,f⟩
theorem mC{S:List Int}:∀(P:List (Int×List UInt8)) (w:Pow) (ds:aY),Fit ds S (P.map qL)->(∀x∈P,x.1∈S/\x.2.length=64)->
  ((cN P w ds).1=0∨(cN P w ds).1=14)/\((cN P w ds).1=0->Fit (cN P w ds).2.2 S [])
 |[],w,ds,F,_=>⟨.inl rfl,fun _=>F⟩
 |x::P,w,ds,F,hP=>by
  rw[iS];obtain⟨A,a⟩:=qr w x.2 (x:=x.1) (Q:=P.map qL) F (hP x (zg ..)).1 (hP x (zg ..)).2;by_cases h0:(bO w ds x.1 x.2).1=0
  ·rw[if_pos h0];exact mC P _ _ a fun y b=>hP y (qX _ b)
  ·rw[if_neg h0];exact⟨A,fun h=>absurd h h0⟩
theorem sZ{a:aY}{S:List Int}{x:Int}(w:Pow)(F:Fit a S [])(j:x∈S):((ci w a x).1=0∨(ci w a x).1=14)/\Fit (ci w a x).2.2 S []:=by
 obtain⟨d,c,i,m⟩:=F.at_ x j;obtain⟨n,rfl,h⟩:=jP c;obtain⟨o,l,k,f⟩:=vm w i;have e:ci w a (n:Int)=((d.sync w).1,(d.sync w).2.1,fG a (n:Int) (d.sync w).2.2):=by unfold ci;rw[c]
 rw[e];refine⟨o,by unfold fG;rw[q8];exact F.len,fun s g=>?_⟩;rw[pj _ _ _ _ h F.len];by_cases b:s=(n:Int)
 ·subst b;rw[if_pos rfl];exact⟨_,rfl,l,by rw[k,f];exact m⟩
 ·rw[if_neg b];exact F.at_ s g
theorem oA{S:List Int}:∀(l:List Int) (w:Pow) (ds:aY),Fit ds S []->(∀x∈l,x∈S)->((dv l w ds).1=0∨(dv l w ds).1=14)
 |[],_,_,_,_=>.inl rfl
 |x::l,w,ds,F,hl=>by
  rw[kO];obtain⟨A,a⟩:=sZ w F (hl x (zg ..));by_cases h0:(ci w ds x).1=0
  ·rw[if_pos h0];exact oA l _ _ a fun y b=>hl y (qX _ b)
  ·rw[if_neg h0];exact A
theorem ta{S:List Int}(P:List (Int×List UInt8))(w:Pow)(a:aY)(F:Fit a S (P.map qL))(b:∀x∈P,x.1∈S/\x.2.length=64):(layAll P w a).1=0∨(layAll P w a).1=14:=by
 obtain⟨A,d⟩:=mC P w a F b;unfold layAll;by_cases h0:(cN P w a).1=0
 ·dsimp only;rw[if_pos h0];refine oA _ _ _ (d h0) fun x c=>?_;unfold cv at c;have h:=(List.mem_filter.1 c).2;have h:x∈P.map qL:=by simpa using h
  obtain⟨y,e,rfl⟩:=zx.1 h;exact(b y e).1
 ·dsimp only;rw[if_neg h0];exact A
theorem lC(m:ba)(s:Int):∀S:List Int,((aQ m S).map qL).count s=S.count s*(aX m).length
 |[]=>by simp[aQ]
 |n::S=>by
  have e:aQ m (n::S)=(aX m).map (fun c=>(n,c))++aQ m S:=by unfold aQ;rw[qF]
  rw[e,ze,List.count_append,lC m s S,List.map_map];have e2:(aX m).map (qL∘fun c=>(n,c))=qd (aX m).length n:=by
   rw[List.eq_replicate_iff];exact⟨by simp,fun b d=>by simpa using(fun⟨a,_,h⟩=>h.symm:(∃a,a∈aX m/\n=b)->b=n) (by simpa using d)⟩
  rw[e2,List.count_replicate,List.count_cons];by_cases h:n=s
  ·subst h;simp[Nat.add_mul];omega
  ·simp[h]
end Wl
namespace Go.Vc
open Go Wl Go.Proofs.YtcamechmadjclaaGreatDoor
theorem kD(l:List Int)(k:Nat):(az l k).Nodup:=by
 unfold az;refine List.Pairwise.filter _ (List.pairwise_map.2 ?_);exact(List.nodup_range (n:=k)).imp fun h=>by omega
theorem tb(p:Pm)(a:Int)(w:Pow)(l:List Int)(j:l.length<=64)(e:((az l l.length).any fun i=>decide (l.getD i.toNat 0<((aX (aR p a l)).length:Int)))=false):
  (layAll (aQ (aR p a l) (az l l.length)) w (bQ l (az l l.length).length)).1=0∨(layAll (aQ (aR p a l) (az l l.length)) w (bQ l (az l l.length).length)).1=14:=by
 refine ta (S:=az l l.length) _ _ _ ⟨nr _ _,fun s b=>?_⟩ fun x f=>gO f;obtain⟨n,g,rfl,d⟩:=(js l l.length s).1 b;have c:((aX (aR p a l)).length:Int)<=l.getD n 0:=by
  have:=List.any_eq_false.1 e _ b;rw[qm]at this;simpa using this
 refine⟨aU.new (l.getD n 0).toNat,?_,rfl,?_⟩
 ·unfold gW bQ;rw[if_pos (by omega),qm,qE,zi (by omega),qQ,qK,if_pos b];rfl
 ·rw[lC];have:=List.nodup_iff_count.1 (kD l l.length) (n:Int);have h:List.count (n:Int) (az l l.length)*(aX (aR p a l)).length<=1*(aX (aR p a l)).length:=qR _ this;simp only[aU.new,wg];omega
end Go.Vc
namespace Wl
open Go
def Has(a:aY)(S:List Int):Prop:=a.length=64/\∀s∈S,∃d,gW a s=some d
theorem Has.set{a:aY}{S:List Int}{n:Nat}{d:aU}(F:Has a S)(c:n<64):Has (fG a (n:Int) d) S:=by
 refine⟨by unfold fG;rw[q8];exact F.1,fun s b=>?_⟩;rw[pj _ _ _ _ c F.1];by_cases h:s=(n:Int)
 ·rw[if_pos h];exact⟨_,rfl⟩
 ·rw[if_neg h];exact F.2 s b
theorem Has.append{a:aY}{S:List Int}(F:Has a S)(w:Pow)(x:Int)(b:List UInt8):Has (bO w a x b).2.2 S:=by
 unfold bO;cases hd:gW a x with
 |none=>exact F
 |some d=>
  obtain⟨n,rfl,c⟩:=jP hd;exact F.set c
theorem Has.sync{a:aY}{S:List Int}(F:Has a S)(w:Pow)(x:Int):Has (ci w a x).2.2 S:=by
 unfold ci;cases hd:gW a x with
 |none=>exact F
 |some d=>
  obtain⟨n,rfl,b⟩:=jP hd;exact F.set b
def eF(l:List Int)(i:Nat):List Int:=(((zf 64).drop i).map fun i:Nat=>(i:Int)).filter fun i=>decide (i∈l)
theorem qS(l:List Int):eF l 64=[]:=by unfold eF;rw[q9 (by simp)];rfl
theorem pk(l:List Int)(i:Nat)(a:i<64):eF l i=if(i:Int)∈l then(i:Int)::eF l (i+1)else eF l (i+1):=by
 unfold eF;rw[qY (by simpa using a),List.getElem_range,zO,wz];by_cases h:(i:Int)∈l
 ·rw[if_pos (by simpa using h),if_pos h]
 ·rw[if_neg (by simpa using h),if_neg h]
end Wl
namespace Go.Vc
open Go Wl
def fW(l:List Int):List Value:=(zf 64).map fun i:Nat=>wM (decide ((i:Int)∈l))
theorem lh(l:List Int):(fW l).length=64:=by simp[fW]
theorem nI(l:List Int)(n:Nat)(a:n<64):(fW l)[n]?=some (wM (decide ((n:Int)∈l))):=by
 unfold fW;rw[qE,zi a];rfl
theorem vR(l:List Int)(n:Nat)(c:n<64):(fW l).set n (wM true)=fW (l++[(n:Int)]):=by
 apply zW;intro j;rw[qN,lh];by_cases b:j<64
 ·rw[nI _ _ b,nI _ _ b];by_cases h:n=j
  ·subst h;rw[if_pos rfl,if_pos c];simp
  ·rw[if_neg h];have:(j:Int)∈l++[(n:Int)]↔(j:Int)∈l:=by
    rw[qZ,qz];exact⟨fun h'=>h'.elim id fun a=>absurd a (by omega),.inl⟩
   simp only[this]
 ·rw[if_neg (by omega),qO (by rw[lh];omega),qO (by rw[lh];omega)]
def oB(T:List ((Int×Sl)×(Int×List UInt8))):HP:=⟨fun h q=>∀t∈T,ld.p h q t.1 t.2,fun a c t b=>ld.loc (a t b) c,fun a d t b=>ld.mono (a t b) d⟩
end Go.Vc
namespace Go.Proofs.YtcamechmadjclaaGreatDoor
open Go Go.Vc Go.Proofs Wl
abbrev bZ:Go.Vc.Kit:=⟨bW,cW,bf,fun pw=>dh pw⟩
abbrev yd:bk C.tokp iD bl 2 [wI wO 0,wJ none 0 0] 32:=⟨_,_,rfl,rfl,rfl,rfl,rfl,rfl⟩
section
variable {B:am} {h0 h h':Heap} {As:List HP} {a pw:Addr} {mc:List Value} {offs:Int} {da:List (Option Addr)} {w:Pow} {ds:aY}
theorem aa.eG(H:aa B h0 h (aI bZ a pw mc offs da w ds::As)):cf mc da ds/\bE h a bW (bh mc pw offs da):=by
 obtain⟨ok,b⟩:=Go.Vc.aa.fp H;exact⟨ok,b.box 0 rfl⟩
theorem sz{h:Heap}(ok:cf mc da ds)(c:bE h a bW (bh mc pw offs da))(n:Nat)(d:n<64):∃x:Option Addr,cellOf h ((a.add 10).add (n*1))=some (.pointer x)/\da[n]?=some x:=by
 have b:n<da.length:=by rw[ok.la];exact d
 refine⟨da[n],?_,qc b⟩;rw[za];refine c.lA 10 n ?_;rw[pK ok.l8,qc b];rfl
theorem vn(s:Sl)(A:List (Int×Sl))(P:List (Int×List UInt8))(R:St B h0 As fun h=>eU ld 2 piv h s A P)(hl:P.length<=2^30)(Z:∀x∈P,x.2.length<=2^20)(hh:Has ds (P.map qL))(H:aa B h0 h (aI bZ a pw mc offs da w ds::As)):
  ac wS gB #[wK (some a),wJ s.ptr s.len s.cap] h fun v h'=>v=wI wO (layAll P w ds).1/\aa B h0 h' (aI bZ a pw mc offs da (layAll P w ds).2.1 (layAll P w ds).2.2::As):=by
 refine gb (some a) s ?_;unfold dM;have a1:=(R.at [_] H).1.len;have a2:=(R.at [_] H).2.1;refine H.alloc ae rfl fun g h1 F=>?_;have F:aa B h0 h1 (ao g dJ (fW [])::aI bZ a pw mc offs da w ds::As):=F.bv;refine aB (fun t:Nat×Pow×aY=>(t.1:Int)) (fun t h'=>t.1<=P.length/\Has t.2.2 (P.map qL)/\cN P w ds=cN (P.drop t.1) t.2.1 t.2.2/\aa B h0 h' (ao g dJ (fW ((P.take t.1).map qL))::aI bZ a pw mc offs da t.2.1 t.2.2::As)) (fun t=>P.length-t.1) (0,w,ds) rfl ⟨by simp,hh,rfl,by simpa using F⟩ ?_;rintro⟨i,I,r⟩ h1 ⟨hi,E,o,F⟩;dsimp only at*;refine af (fun e=>?_) (fun e=>?_)
 ·have m:i<P.length:=by omega
  rw[qY m,iS]at o;have F1:=R.at [_,_] F;have a0:=Z _ (qt m);refine F1.1.gp (g:=piv) i rfl (by omega) (A[i]'(by omega)) rfl ?_;refine F.alloc ae rfl fun a4 h2 K=>?_;have K:=K.bv;refine K.storeAll ae 0 rfl rfl (piv (A[i]'(by omega))) rfl rfl rfl rfl fun h3 u=>?_;obtain⟨W,y2⟩:=Fix.row (R.at [_,_,_] u) m;have u:aa B h0 h3 (ao a4 bl (piv (A[i]'(by omega)))::ao g dJ (fW ((P.take i).map qL))::aI bZ a pw mc offs da I r::As):=u;have u:=u.aV 3 [2,0,1];obtain⟨ok,hb⟩:=aa.eG u;obtain⟨c,p⟩:∃c,c=bO I r P[i].1 P[i].2:=⟨_,rfl⟩
  rw[<-p]at o;obtain⟨d0,y⟩:=E.2 P[i].1 (zx.2 ⟨_,qt m,rfl⟩);rcases dm ok P[i].1 with⟨c1,c2⟩|⟨n,d,b,G,c1,c2,c3,c4,c5⟩
  ·rw[c1]at y;cases y
  obtain⟨x8,M,f⟩:=sz ok hb n c1;rw[c4]at f;injection f with f
  subst f;refine⟨(n:Int),by rw[<-G,<-W];exact(u.box 1 rfl).cell0 rfl,a,rfl,⟨by omega,by omega⟩,some b,by rw[qm];exact M,(A[i]'(by omega)).2,(u.box 1 rfl).cell rfl,?_⟩;obtain⟨b',j,H5⟩:=Go.Vc.aa.cL u c2;rw[c4]at j;injection j with j
  injection j with j
  subst j;have V:St B h0 (ow bZ a pw mc offs da r n::ao a4 bl (piv (A[i]'(by omega)))::ao g dJ (fW ((P.take i).map qL))::As) fun h=>Rd h (A[i]'(by omega)).2 1 aF P[i].2:=
   ((R.mono fun h hF=>(Fix.row hF m).2).cons).cons.cons
  refine(sy (A[i]'(by omega)).2 P[i].2 H5 V a0).mono ?_;rintro _ h6 ⟨rfl,Y⟩;have z:=Go.Vc.aa.lc (k:=bZ) (n:=n) c4 Y;have O:c=((d.append I P[i].2).1,(d.append I P[i].2).2.1,r.set n (some (d.append I P[i].2).2.2)):=by
   rw[p];unfold bO;rw[c3];simp only[fG,G,qm]
  have z:aa B h0 h6 (aI bZ a pw mc offs da c.2.1 c.2.2::ao a4 bl (piv (A[i]'(by omega)))::ao g dJ (fW ((P.take i).map qL))::As):=by rw[O];exact z
  have q:(d.append I P[i].2).1=c.1:=by rw[O]
  rw[q];have T:=z.box 1 rfl;refine⟨_,rfl,⟨by rw[<-G,<-W];exact T.cell0 rfl,trivial⟩,bq (fun e2=>?_) fun e2=>?_⟩
  ·rw[if_neg e2]at o;have:layAll P w ds=c:=by unfold layAll;rw[o];exact if_neg e2
   rw[this];exact⟨rfl,z.fg.fg⟩
  ·rw[if_pos e2]at o;refine⟨(n:Int),by rw[<-G,<-W];exact T.cell0 rfl,⟨by omega,by omega⟩,?_⟩;rw[qm,za];refine z.storeAt ae 2 rfl rfl rfl rfl rfl (by rw[lh];exact c1) fun h8 U=>?_;have U:aa B h0 h8 (aI bZ a pw mc offs da c.2.1 c.2.2::ao a4 bl (piv (A[i]'(by omega)))::ao g dJ ((fW ((P.take i).map qL)).set n (wM true))::As):=U;rw[vR _ _ c1]at U;refine⟨(i+1,c.2.1,c.2.2),by dsimp only;rw[Go.Vc.wrap_small _ (by omega) (by omega)];rfl,⟨by dsimp only;omega,by rw[p];exact E.append _ _ _,o,?_⟩,by dsimp only;omega⟩;dsimp only;rw[aD _ _ m,ze,zO,List.map_nil,G];exact U.aV 3 [2,0]
 ·have ad:i=P.length:=by omega
  subst ad;rw[List.drop_length]at o;rw[qK]at F;have S:layAll P w ds=dv (cv (P.map qL)) I r:=by unfold layAll;rw[o];rfl
  obtain⟨L,hL⟩:∃L,L=P.map qL:=⟨_,rfl⟩
  rw[<-hL]at F S E;refine aB (fun t:Nat×Pow×aY=>(t.1:Int)) (fun t h'=>t.1<=64/\Has t.2.2 L/\layAll P w ds=dv (eF L t.1) t.2.1 t.2.2/\aa B h0 h' (ao g dJ (fW L)::aI bZ a pw mc offs da t.2.1 t.2.2::As)) (fun t=>64-t.1) (0,I,r) rfl ⟨by simp,E,S,F⟩ ?_;rintro⟨i,J,D⟩ h2 ⟨hi,N,l,K⟩;dsimp only at*;refine af (fun e=>?_) (fun e=>?_)
  ·have m:i<64:=by omega
   rw[pk _ _ m]at l;refine⟨⟨by omega,by omega⟩,decide ((i:Int)∈L),?_,aK (fun e2=>?_) fun e2=>?_⟩
   ·rw[qm,za];exact(K.box 0 rfl).cell (nI _ _ m)
   ·rw[if_neg (by simpa using e2)]at l;exact⟨(i+1,J,D),by dsimp only;rw[Go.Vc.wrap_small _ (by omega) (by omega)];rfl,⟨by dsimp only;omega,N,l,K⟩,by dsimp only;omega⟩
   ·have hm:(i:Int)∈L:=by simpa using e2
    rw[if_pos hm,kO]at l;have u:=K.aV 2 [1,0];obtain⟨ok,hb⟩:=aa.eG u;obtain⟨d0,y⟩:=N.2 _ hm;rcases dm ok (i:Int)with⟨c1,c2⟩|⟨n,d,b,G,c1,c2,c3,c4,c5⟩
    ·rw[c1]at y;cases y
    have G:i=n:=by omega
    subst G;obtain⟨x8,M,f⟩:=sz ok hb i c1;rw[c4]at f;injection f with f
    subst f;refine⟨a,rfl,⟨by omega,by omega⟩,some b,by rw[qm];exact M,?_⟩;obtain⟨b',j,H5⟩:=Go.Vc.aa.cL u c2;rw[c4]at j;injection j with j
    injection j with j
    subst j;refine(ug H5).mono ?_;rintro _ h6 ⟨rfl,Y⟩;have z:=Go.Vc.aa.lc (k:=bZ) (n:=i) c4 Y;have O:ci J D (i:Int)=((d.sync J).1,(d.sync J).2.1,D.set i (some (d.sync J).2.2)):=by
     unfold ci;rw[c3];simp only[fG,qm]
    have Q:=N.sync J (i:Int);obtain⟨c,p⟩:∃c,c=ci J D (i:Int):=⟨_,rfl⟩
    rw[<-p]at l O Q;have z:aa B h0 h6 (aI bZ a pw mc offs da c.2.1 c.2.2::ao g dJ (fW L)::As):=by rw[O];exact z
    have q:(d.sync J).1=c.1:=by rw[O]
    rw[q];refine⟨_,rfl,bq (fun X=>?_) fun X=>?_⟩
    ·rw[if_neg X]at l;rw[l];exact⟨rfl,z.fg⟩
    ·rw[if_pos X]at l;exact⟨(i+1,c.2.1,c.2.2),by dsimp only;rw[Go.Vc.wrap_small _ (by omega) (by omega)];rfl,⟨by dsimp only;omega,Q,l,z.aV 2 [1,0]⟩,by dsimp only;omega⟩
  ·have:i=64:=by omega
   subst this;rw[qS]at l;rw[l];exact⟨rfl,K.mJ⟩
end
section
variable {B:am} {h0 h h':Heap} {As:List HP} {a pw:Addr} {mc:List Value} {offs:Int} {da:List (Option Addr)} {w:Pow} {ds:aY}
theorem tc(x:bn)(m:ba)(s:Sl)(d:List Int)(hX:St B h0 As fun h=>cK h x m/\Rd h s 1 ay d)(W:co m)(a6:d.length<=2^10)(hh:Has ds d)(H:aa B h0 h (aI bZ a pw mc offs da w ds::As)):
  ac wS fL #[wK (some a),cE x,wJ s.ptr s.len s.cap] h fun v h'=>v=wI wO (layAll (aQ m d) w ds).1/\aa B h0 h' (aI bZ a pw mc offs da (layAll (aQ m d) w ds).2.1 (layAll (aQ m d) w ds).2.2::As):=by
 refine fA (some a) x s ?_;unfold dq;refine H.boxed fun Q h1 K=>?_;have K:aa B h0 h1 (ao Q al (aE x)::aI bZ a pw mc offs da w ds::As):=K.bv;have K:aa B h0 h1 (oB []::ao Q al (aE x)::aI bZ a pw mc offs da w ds::As):=(K.comp (.one (A:=oB []) (ax.refl _ _) (fun t G=>by cases G))).bv;have K:=(K.nil bl 2 piv).bv;have O:=mz m W;obtain⟨f,p⟩:∃f,f=aX m:=⟨_,rfl⟩
 rw[<-p]at O;have bb:=(hX.at [_] H).2.len;refine aB (fun t:Sl×Nat×List ((Int×Sl)×(Int×List UInt8))=>(t.1,(t.2.1:Int))) (fun t h'=>t.2.1<=d.length/\t.2.2.map wE=aQ m (d.take t.2.1)/\aa B h0 h' (au bl t.1 2 piv (t.2.2.map qL)::oB t.2.2::ao Q al (aE x)::aI bZ a pw mc offs da w ds::As)) (fun t=>d.length-t.2.1) (⟨none,0,0⟩,0,[]) rfl ⟨by simp,by simp[aQ],K⟩ ?_;rintro⟨o,i,E⟩ h2 ⟨hi,g,R⟩;dsimp only at*;have ad:E.length=i*f.length:=by
  have:=congrArg List.length g;have e:∀S:List Int,(aQ m S).length=S.length*f.length:=fun S=>by
   induction S with
   |nil=>simp[aQ]
   |cons n S ih=>
    have e1:aQ m (n::S)=(aX m).map (fun c=>(n,c))++aQ m S:=by unfold aQ;rw[qF]
    rw[e1,qu,qT,ih,qV,zS,p,Nat.add_comm]
  rw[e,qT,qx]at this;rw[this,zu (by omega)]
 have a3:E.length<=2^10*3000:=by rw[ad];exact wo (by omega) O
 refine af (fun e=>?_) (fun e=>?_)
 ·have P:i<d.length:=by omega
  obtain⟨n,hn⟩:∃n,n=d[i]:=⟨_,rfl⟩
  refine(hX.at [_,_,_,_] R).2.cd i rfl P n (by rw[hn];rfl) ?_;refine⟨x,(R.box 2 rfl).aO _ rfl,(np x m h2 (hX.at [_,_,_,_] R).1 W).mono ?_⟩;rintro _ h3 ⟨r,rfl,R3⟩;obtain⟨rs,F⟩:=(R.dO R3).xL fun _=>rfl;rw[<-p]at F;refine⟨r,rfl,?_⟩;have F3:=F.rm 0 rfl;have a9:=F3.1.len;have a8:=F3.2.1;obtain⟨T,V⟩:∃T:List ((Int×Sl)×(Int×List UInt8)),T=(rs.zip f).map fun z=>((n,z.1),(n,z.2)):=⟨_,rfl⟩
  have J:T.length=f.length:=by rw[V];simp;omega
  have a2:T.map wE=f.map fun c=>(n,c):=by
   have W:=List.map_snd_zip (l₁:=rs) (l₂:=f) (by omega)
   conv=>rhs;rw[<-W]
   rw[V];simp[List.map_map,Function.comp_def]
  have a0:∀j (Y:j<f.length),T[j]'(by rw[J];exact Y)=((n,rs[j]'(by omega)),(n,f[j])):=fun j Y=>by subst V;simp
  refine aB (fun t:Sl×Nat=>(t.1,(t.2:Int))) (fun t h'=>t.2<=f.length/\aa B h0 h' (mh (rP 1 aF) 1 dU r rs f::au bl t.1 2 piv (E.map qL++(T.take t.2).map qL)::oB E::ao Q al (aE x)::aI bZ a pw mc offs da w ds::As)) (fun t=>f.length-t.2) (o,0) rfl ⟨by simp,by simpa using F⟩ ?_;rintro⟨u,j⟩ h4 ⟨Y,M⟩;dsimp only at*;refine af (fun e2=>?_) (fun e2=>?_)
  ·have N:j<f.length:=by omega
   refine(M.rm 0 rfl).1.xz j rfl (by omega) ?_;refine M.push ae 1 rfl yd rfl (by decide) (fun _=>rfl) tB (n,rs[j]'(by omega)) rfl (by decide) (by simp only[qu,qT,qx];omega) fun u' h5 H5=>?_;refine⟨(u',j+1),by dsimp only;rw[Go.Vc.wrap_small _ (by omega) (by omega)];rfl,⟨by dsimp only;omega,?_⟩,by dsimp only;omega⟩;dsimp only;rw[aD T j (by rw[J];exact N),ze,a0 _ N,<-qp];exact H5
  ·have Z:j=f.length:=by omega
   subst Z;rw[qi (l:=T) (by rw[J];exact qM _),<-ze]at M;have H5:=M.merge 2 0 (by decide) rfl rfl (D:=oB (E++T)) (fun q1 q2 _ p1 p2 t G=>by
    rcases qZ.1 G with G|G
    ·exact ld.mono (p1 t G) fun _ hb=>.inl hb
    ·rw[V]at G;obtain⟨z,a4,rfl⟩:=zx.1 G;obtain⟨k,hk⟩:=List.mem_iff_getElem?.1 a4;have I:=hk;rw[List.getElem?_zip_eq_some]at I;exact⟨rfl,Seq.mono (p2.2.2 k z.1 z.2 I.1 I.2) fun _ hb=>.inr hb⟩)
   refine⟨(u,i+1,E++T),by dsimp only;rw[Go.Vc.wrap_small _ (by omega) (by omega)];rfl,⟨by dsimp only;omega,?_,H5.mJ⟩,by dsimp only;omega⟩;dsimp only;rw[ze,g,a2,aD _ _ P];unfold aQ;rw[qy,qF,zC,qU,<-p,hn]
 ·have a5:i=d.length:=by omega
  subst a5;rw[qK]at g;have F:=(R.freeze 0 rfl fun _=>rfl).jK;have F:aa B h0 h2 (mh ld 2 piv o (E.map qL) (aQ m d)::ao Q al (aE x)::aI bZ a pw mc offs da w ds::As):=F.io 0 rfl fun q ⟨q1,q2,_,b,c,z1,z2⟩=>by
   rw[<-g];refine⟨Seq.mono z2 c,by simp,fun j r' l' L U=>?_⟩;rw[qE]at L U;cases g3:E[j]? with
   |none=>rw[g3]at L;cases L
   |some t=>
    rw[g3]at L U;simp at L U;subst L;subst U;exact ld.mono (z1 t (zZ g3)) b
  have F:=F.aV 3 [2,0,1];have a7:(aQ m d).length<=2^10*3000:=by rw[<-g,qT];exact a3
  refine(vn o (E.map qL) (aQ m d) (St.mK 0 rfl fun _ hq=>hq) (by omega) (fun y hy=>?_) ⟨hh.1,fun y hy=>?_⟩ F).mono ?_
  ·rw[(gO hy).2];decide
  ·obtain⟨z,X,rfl⟩:=zx.1 hy;exact hh.2 _ (gO X).1
  rintro _ h4 ⟨rfl,M⟩;exact⟨_,rfl,rfl,M.fg.fg⟩
theorem ul(s:Sl)(l:List Int)(G:Rd h s 1 ay l)(S:l.length<=2^30)(E:∀x∈l,0<=x/\x<64)(H:aa B h0 h (aI bZ a pw mc offs da w ds::As)):
  ac wS gc #[wK (some a),wJ s.ptr s.len s.cap] h fun v h'=>∃r:Sl,v=wJ r.ptr r.len r.cap/\Sp h h' [au aL r 1 ay (bR ds l)]:=by
 refine fO (some a) s ?_;unfold dB;have J:=G.len;refine aB (fun t:Sl×Nat=>(t.1,(t.2:Int))) (fun t h'=>t.2<=l.length/\Sp h h' [au aL t.1 1 ay (bR ds (l.take t.2))]) (fun t=>l.length-t.2) (⟨none,0,0⟩,0) rfl ⟨by simp,by simpa[bR]using(Sp.refl h).nil aL 1 ay⟩ ?_;rintro⟨o,i⟩ Q ⟨U,j⟩;dsimp only at*;refine af (fun e=>?_) (fun e=>?_)
 ·have m:i<l.length:=by omega
  have c:bR ds (l.take (i+1))=bR ds (l.take i)++(if isLive ds l[i]then[l[i]]else[]):=by
   unfold bR;rw[aD _ _ m,List.filter_append,wz,List.filter_nil]
  have N:(bR ds (l.take i)).length<=l.length:=by
   have:=zH (isLive ds) (l.take i);unfold bR;simp at this⊢;omega
  have next:∀{h':Heap} {k:Sl},Sp h h' [au aL k 1 ay (bR ds (l.take (i+1)))]->∃u:Sl×Nat,((⟨k.ptr,k.len,k.cap⟩:Sl),qa wO ((i:Int)+1))=(u.1,(u.2:Int))/\(u.2<=l.length/\Sp h h' [au aL u.1 1 ay (bR ds (l.take u.2))])/\l.length-u.2<l.length-i:=fun{h' k} H'=>
   ⟨(k,i+1),by dsimp only;rw[Go.Vc.wrap_small _ (by omega) (by omega)];rfl,⟨by dsimp only;omega,H'⟩,by dsimp only;omega⟩
  refine(Seq.up G j.ai).cd i rfl m l[i] rfl ?_;have R:=E _ (qt m);have I:=aa.up H j.ai;obtain⟨ok,O⟩:=aa.eG I;obtain⟨n,L⟩:∃n:Nat,l[i]=(n:Int):=⟨l[i].toNat,by omega⟩
  have y:n<64:=by omega
  obtain⟨p,z,q⟩:=sz ok O n y;rw[L]at c⊢;refine⟨a,rfl,⟨by omega,by omega⟩,p,by rw[qm];exact z,?_⟩;rcases dm ok (n:Int)with⟨c1,c2⟩|⟨n',d,b,F,c1,c2,c3,c4,c5⟩
  ·have D:p=none:=by
    unfold dl at c2;rw[if_pos (by omega),qm,q]at c2;exact c2
   subst D;have g:isLive ds (n:Int)=false:=by unfold isLive;rw[c1]
   rw[g]at c;exact aN (fun e=>by cases e) fun _=>next (by rw[c];simpa using j)
  ·have F:n=n':=by omega
   subst F;rw[q]at c4;injection c4 with c4
   subst c4;have g:isLive ds (n:Int)=!d.lost:=by unfold isLive;rw[c3]
   obtain⟨P,f,K⟩:=Go.Vc.aa.cL I c2;rw[q]at f;injection f with f
   injection f with f
   subst f;obtain⟨_,T,V,A,_,_⟩:=fj.box K;refine aN (fun _=>?_) fun e=>by cases e
   refine⟨a,rfl,⟨by omega,by omega⟩,some b,by rw[qm];exact z,b,rfl,d.lost,A.cell rfl,aK (fun e=>?_) (fun e=>?_)⟩
   ·rw[g,e]at c;refine j.push ae 0 rfl jp rfl (by decide) (fun _=>rfl) gq (n:Int) rfl (by decide) (by omega) fun k W M=>next ?_
    rw[c];exact M
   ·rw[g,e]at c;exact next (by rw[c];simpa using j)
 ·rw[qi (by omega)]at j;exact⟨o,rfl,j⟩
end
def fieldsOf(d:Option TypeDesc):List (Bool×TypeId×Nat):=match d with|some (.struct fs)=>fs.toList.map (fun f=>(f.name== "_",f.type,f.offset))|_=>[]
theorem vo:fieldsOf (Tryz.prog.underlying aw)=[(false,3,0),(false,3,1),(false,3,2)]:=by kernel_rfl
theorem vS:Tryz.prog.stoodInHeld aw=false:=by kernel_rfl
theorem vT:Tryz.prog.eqGuardType Tryz.prog.depth aw=false:=by kernel_rfl
theorem sA{P:Program}{t:TypeId}{a b c:TypeId×Nat}(h:fieldsOf (P.underlying t)=[(false,a.1,a.2),(false,b.1,b.2),(false,c.1,c.2)]):
  ∃f g e:Field,P.underlying t=some (.struct #[f,g,e])/\(f.name≠ "_" /\f.type=a.1/\f.offset=a.2)/\(g.name≠ "_" /\g.type=b.1/\g.offset=b.2)/\(e.name≠ "_" /\e.type=c.1/\e.offset=c.2):=by
 cases hu:P.underlying t with
 |none=>rw[hu]at h;cases h
 |some d=>
  rw[hu]at h;cases d with
  |struct fs=>
   simp only[fieldsOf]at h;obtain⟨l⟩:=fs;have i:l.length=3:=by simpa using congrArg List.length h
   obtain⟨f,r,rfl⟩:=zt i;obtain⟨g,j,rfl⟩:=zt (by simpa using i:r.length=1+1);obtain⟨e,k,rfl⟩:=zt (by simpa using i:j.length=0+1);obtain rfl:k=[]:=by simpa using i
   simp at h;exact⟨f,g,e,rfl,⟨h.1.1,h.1.2.1,h.1.2.2⟩,⟨h.2.1.1,h.2.1.2.1,h.2.1.2.2⟩,⟨h.2.2.1,h.2.2.2.1,h.2.2.2.2⟩⟩
  |_=>cases h
theorem cG{P:Program}{d:Nat}{t:TypeId}{k:IntKind}(h:∃c,P.underlying t=some (.int c))(a b:Int):aj P (Op.equalIn (d+1) t (.int k a) (.int k b)) (a==b):=by
 obtain⟨c,h⟩:=h;unfold Op.equalIn;refine(aq h).bind ?_;simp only[if_true];exact .pure
theorem ea{P:Program}{t:TypeId}{k:IntKind}(h:P.underlying t=some (.int k)){a:Array Value}{i:Nat}{v:Value}(b:a[i]?=some v):aj P (part t a i) v:=by
 unfold part isAgg;refine aj.bind (v:=false) ((aq h).bind .pure) ?_;simp only[qJ,if_false,b];exact .pure
theorem ye(p q:Pm):aj wS (Op.equal aw (wN #[wI wO p.1,wI wO p.2.1,wI wO p.2.2]) (wN #[wI wO q.1,wI wO q.2.1,wI wO q.2.2])) (decide (p=q)):=by
 obtain⟨f,g,u,D,⟨I,z,G⟩,⟨A,E,H⟩,⟨F,B,u3⟩⟩:=sA (a:=(3,0)) (b:=(3,1)) (c:=(3,2)) vo;have J:∃k,Tryz.prog.underlying 3=some (.int k):=⟨.i64,by kernel_rfl⟩
 obtain⟨k,d⟩:=J;unfold Op.equal;rw[show Op.maxDepth=9998+1+1 from rfl,Op.equalIn];refine(aq D).bind ?_;refine aj.bind (v:=wS) (fun w=>rfl) ?_;simp only[vS,qJ,if_false,List.forIn_toArray,List.forIn_cons,List.forIn_nil,ne_eq,I,A,F,not_false_eq_true,if_true,z,G,E,H,B,u3];obtain⟨a,b,c⟩:=p;obtain⟨h,i,j⟩:=q;dsimp only;have o:aj wS (part 3 #[Value.int wO a,Value.int wO b,Value.int wO c] 0) _:=ea d rfl;have r:aj wS (part 3 #[Value.int wO h,Value.int wO i,Value.int wO j] 0) _:=ea d rfl;have s:aj wS (part 3 #[Value.int wO a,Value.int wO b,Value.int wO c] 1) _:=ea d rfl;have t:aj wS (part 3 #[Value.int wO h,Value.int wO i,Value.int wO j] 1) _:=ea d rfl;have y:aj wS (part 3 #[Value.int wO a,Value.int wO b,Value.int wO c] 2) _:=ea d rfl;have x:aj wS (part 3 #[Value.int wO h,Value.int wO i,Value.int wO j] 2) _:=ea d rfl;by_cases l:a=h
 ·by_cases m:b=i
  ·by_cases n:c=j
   ·have e:decide ((a,b,c)=(h,i,j))=true:=by simp[l,m,n]
    rw[e];refine aj.bind (v:=(none,())) (aj.bind (v:=ForInStep.yield (none,())) (o.bind (r.bind ((cG ⟨k,d⟩ a h).bind ?_))) (aj.bind (v:=ForInStep.yield (none,())) (s.bind (t.bind ((cG ⟨k,d⟩ b i).bind ?_))) (aj.bind (v:=ForInStep.yield (none,())) (y.bind (x.bind ((cG ⟨k,d⟩ c j).bind ?_))) .pure))) .pure
    ·simp only[l,beq_self_eq_true,zM,qJ,if_false];exact .pure
    ·simp only[m,beq_self_eq_true,zM,qJ,if_false];exact .pure
    ·simp only[n,beq_self_eq_true,zM,qJ,if_false];exact .pure
   ·have e:decide ((a,b,c)=(h,i,j))=false:=by simp[n]
    rw[e];refine aj.bind (v:=(some false,())) (aj.bind (v:=ForInStep.yield (none,())) (o.bind (r.bind ((cG ⟨k,d⟩ a h).bind ?_))) (aj.bind (v:=ForInStep.yield (none,())) (s.bind (t.bind ((cG ⟨k,d⟩ b i).bind ?_))) (aj.bind (v:=ForInStep.done (some false,())) (y.bind (x.bind ((cG ⟨k,d⟩ c j).bind ?_))) .pure))) .pure
    ·simp only[l,beq_self_eq_true,zM,qJ,if_false];exact .pure
    ·simp only[m,beq_self_eq_true,zM,qJ,if_false];exact .pure
    ·rw[show(c==j)=false by simpa using n];simp only[zP,if_true];exact .pure
  ·have e:decide ((a,b,c)=(h,i,j))=false:=by simp[m]
   rw[e];refine aj.bind (v:=(some false,())) (aj.bind (v:=ForInStep.yield (none,())) (o.bind (r.bind ((cG ⟨k,d⟩ a h).bind ?_))) (aj.bind (v:=ForInStep.done (some false,())) (s.bind (t.bind ((cG ⟨k,d⟩ b i).bind ?_))) .pure)) .pure
   ·simp only[l,beq_self_eq_true,zM,qJ,if_false];exact .pure
   ·rw[show(b==i)=false by simpa using m];simp only[zP,if_true];exact .pure
 ·have e:decide ((a,b,c)=(h,i,j))=false:=by simp[l]
  rw[e];refine aj.bind (v:=(some false,())) (aj.bind (v:=ForInStep.done (some false,())) (o.bind (r.bind ((cG ⟨k,d⟩ a h).bind ?_))) .pure) .pure;rw[show(a==h)=false by simpa using l];simp only[zP,if_true];exact .pure
theorem xO(x y:Operand)(p q:Pm):iO wS .neq aw x y (wN #[wI wO p.1,wI wO p.2.1,wI wO p.2.2]) (wN #[wI wO q.1,wI wO q.2.1,wI wO q.2.2]) (wM (!decide (p=q))):=by
 unfold iO eqGuard;refine aj.bind (v:=()) ?_ ?_
 ·simp only[zM,qJ,if_false];refine aj.bind (v:=wS) (fun w=>rfl) ?_;refine aj.bind (v:=wS) (fun w=>rfl) ?_;simp only[vT,zP,if_true];exact .pure
 ·exact(ye p q).bind .pure
theorem iw{p q:am}(a b:Sl)(c j:List Int)(h:Heap)(o:Seq h p a 1 ay c)(r:Seq h q b 1 ay j)(u:c.length<=2^40):
  ac wS iq #[wJ a.ptr a.len a.cap,wJ b.ptr b.len b.cap] h fun v h'=>v=wM (decide (c=j))/\h'=h:=by
 refine hO a b ?_;unfold ek;have n:=o.len;have l:=r.len;refine bq (fun d=>⟨?_,rfl⟩) (fun f=>?_)
 ·rw[decide_eq_false (fun e=>d (by rw[n,l,e]))]
 ·refine aB (fun k:Nat=>(k:Int)) (fun k h'=>h'=h/\k<=c.length/\c.take k=j.take k) (fun k=>c.length-k) 0 rfl ⟨rfl,by omega,by simp⟩ ?_;rintro k h' ⟨rfl,w,m⟩;refine af (fun t=>?_) (fun s=>?_)
  ·have i:k<c.length:=by omega
   have g:k<j.length:=by omega
   refine o.cd k rfl i _ rfl ?_;refine r.cd k rfl g _ rfl ?_;refine bq (fun d=>⟨?_,rfl⟩) (fun f=>?_)
   ·rw[decide_eq_false];intro e;subst e;exact d rfl
   ·rw[wrap_small _ (by omega) (by omega)];exact⟨k+1,by simp,⟨rfl,by omega,by rw[aD _ _ i,aD _ _ g,m,f]⟩,by omega⟩
  ·have:k=c.length:=by omega
   subst this;rw[qi (by omega),qi (by omega)]at m;exact⟨by rw[decide_eq_true m],rfl⟩
theorem pl(x y:bn)(m:ba)(h:Heap)(k:cK h x m)(l:cK h y m)(Z:co m):ac wS hJ #[cE x,cE y] h fun v h'=>v=wM true/\Sp h h' []:=by
 refine gy x y ?_;unfold dW;refine(Sp.refl h).boxed fun B h1 H1=>?_;refine H1.boxed fun a2 h2 r=>?_;have r:Sp h h2 [ao B al (aE x),ao a2 al (aE y)]:=r;have n:=r.box 0 rfl;have b2:=r.box 1 rfl;have Y:x.2.2.1=m.p.1:=congrArg (·.1) k.p;have ad:x.2.2.2.1=m.p.2.1:=congrArg (·.2.1) k.p;have T:x.2.2.2.2.1=m.p.2.2:=congrArg (·.2.2) k.p;have R:y.2.2.1=m.p.1:=congrArg (·.1) l.p;have M:y.2.2.2.1=m.p.2.1:=congrArg (·.2.1) l.p;have P:y.2.2.2.2.1=m.p.2.2:=congrArg (·.2.2) l.p;have a5:=Z.dr;have bb:=Z.ob;have a4:=bt.len k.objs;have a3:=bt.len l.objs;refine aG ⟨m.seq,by rw[<-k.seq];exact n.cell0 rfl,m.seq,by rw[<-l.seq];exact b2.cell0 rfl,bq (fun e=>absurd rfl e) fun _=>?_⟩;refine⟨m.next,by rw[<-k.next];exact n.cell rfl,m.next,by rw[<-l.next];exact b2.cell rfl,bq (fun e=>absurd rfl e) fun _=>?_⟩;refine⟨m.p,by rw[<-Y,<-ad,<-T];exact n.mR 2 rfl rfl rfl,m.p,by rw[<-R,<-M,<-P];exact b2.mR 2 rfl rfl rfl,_,xO _ _ m.p m.p,aK (fun e=>absurd e (by simp)) fun _=>?_⟩;refine⟨m.extra,by rw[<-k.extra];exact n.cell rfl,m.extra,by rw[<-l.extra];exact b2.cell rfl,bq (fun e=>absurd rfl e) fun _=>?_⟩;refine⟨x.2.2.2.2.2.2.1,n.cell rfl,y.2.2.2.2.2.2.1,b2.cell rfl,(iw _ _ m.drives m.drives h2 (k.up r.ai).drives (l.up r.ai).drives (by omega)).mono ?_⟩;rintro _ h3 ⟨rfl,rfl⟩;refine⟨_,rfl,aK (fun e=>absurd e (by simp)) fun _=>⟨x.2.2.2.2.2.2.2,n.cell rfl,y.2.2.2.2.2.2.2,b2.cell rfl,bq (fun e=>absurd (by omega) e) fun _=>?_⟩⟩;refine⟨x.2.2.2.2.2.2.2,n.cell rfl,?_⟩;obtain⟨us,F⟩:=bt.fix k.objs;obtain⟨vs,G⟩:=bt.fix l.objs;have a8:=F.2.1;have a9:=G.2.1;refine aB (fun i:Nat=>(i:Int)) (fun i h'=>i<=m.objs.length/\Sp h h' [ao B al (aE x),ao a2 al (aE y)]) (fun i=>m.objs.length-i) 0 rfl ⟨by omega,r⟩ ?_;rintro i h5 ⟨hi,q⟩;refine af (fun e=>?_) (fun e=>?_)
 ·have o:i<m.objs.length:=by
   have e':(i:Int)<(x.2.2.2.2.2.2.2.len:Int):=e;omega
  obtain⟨E,L⟩:∃E,E=m.objs[i]:=⟨_,rfl⟩
  have s:=Z.nm _ (qt o);rw[<-L]at s;obtain⟨u,hu⟩:∃u,u=us[i]'(by omega):=⟨_,rfl⟩
  obtain⟨v,hv⟩:∃v,v=vs[i]'(by omega):=⟨_,rfl⟩
  obtain⟨d,ha,zz,c,S⟩:=F.1.gp (g:=bD) (i:=(i:Int)) i rfl (by omega) u (by rw[hu]) (K:=fun t=>t=u) rfl;obtain⟨f,hb,a6,b,D⟩:=G.1.gp (g:=bD) (i:=(i:Int)) i rfl (by omega) v (by rw[hv]) (K:=fun t=>t=v) rfl;rw[S]at c;rw[D]at b;obtain⟨⟨u1,u2,u3⟩,u4⟩:=Fix.row F o;obtain⟨⟨v1,v2,v3⟩,v4⟩:=Fix.row G o;rw[<-L,<-hu]at u1 u2 u3 u4;rw[<-L,<-hv]at v1 v2 v3 v4;refine dN (fun st h'=>∃Bs,Sp h h' (ao B al (aE x)::ao a2 al (aE y)::ao st.1 bs (bD u)::ao st.2 bs (bD v)::Bs)) ?_ ?_
  ·have keep:∀{h':Heap} {Bs:List HP},Sp h h' (ao B al (aE x)::ao a2 al (aE y)::Bs)->
     an.ok [(f.add ((i:Int).toNat*4),(wL v.1)),((f.add ((i:Int).toNat*4)).add 1,(wI wO v.2.1)),((f.add ((i:Int).toNat*4)).add 2,(wI wO v.2.2.1)),((f.add ((i:Int).toNat*4)).add 3,(wJ v.2.2.2.ptr v.2.2.2.len v.2.2.2.cap)),(a2.add 7,(wJ y.2.2.2.2.2.2.2.ptr y.2.2.2.2.2.2.2.len y.2.2.2.2.2.2.2.cap)),(d.add ((i:Int).toNat*4),(wL u.1)),((d.add ((i:Int).toNat*4)).add 1,(wI wO u.2.1)),((d.add ((i:Int).toNat*4)).add 2,(wI wO u.2.2.1)),((d.add ((i:Int).toNat*4)).add 3,(wJ u.2.2.2.ptr u.2.2.2.len u.2.2.2.cap)),(B.add 7,(wJ x.2.2.2.2.2.2.2.ptr x.2.2.2.2.2.2.2.len x.2.2.2.2.2.2.2.cap))] h':=fun{h' Bs} H'=>by
    have a:=H'.ai;exact⟨a.cell (bg b.1) b.1,a.cell (bg b.2.1) b.2.1,a.cell (bg b.2.2.1) b.2.2.1,a.cell (bg b.2.2.2.1) b.2.2.2.1,(H'.box 1 rfl).cell rfl,a.cell (bg c.1) c.1,a.cell (bg c.2.1) c.2.1,a.cell (bg c.2.2.1) c.2.2.1,a.cell (bg c.2.2.2.1) c.2.2.2.1,(H'.box 0 rfl).cell rfl,trivial⟩
   have I:=keep q;have a:=q.ai;refine⟨x.2.2.2.2.2.2.2,(q.box 0 rfl).cell rfl,d,ha,u,⟨a.cell (bg c.1) c.1,a.cell (bg c.2.1) c.2.1,a.cell (bg c.2.2.1) c.2.2.1,a.cell (bg c.2.2.2.1) c.2.2.2.1,trivial⟩,y.2.2.2.2.2.2.2,(q.box 1 rfl).cell rfl,f,hb,v,⟨a.cell (bg b.1) b.1,a.cell (bg b.2.1) b.2.1,a.cell (bg b.2.2.1) b.2.2.1,a.cell (bg b.2.2.2.1) b.2.2.2.1,trivial⟩,?_,?_⟩
   ·refine q.alloc ae rfl fun W h6 w=>⟨keep w,w.alloc ae rfl fun U h7 z=>⟨keep z,?_⟩⟩
    refine z.storeAll ae 2 rfl rfl (bD u) rfl rfl rfl rfl fun h8 A=>?_;obtain⟨Q,V,O,N,I,_⟩:=keep A;refine⟨⟨Q,V,O,N,I,trivial⟩,A.storeAll ae 3 rfl rfl (bD v) rfl rfl rfl rfl fun X j=>⟨trivial,[],j⟩⟩
   ·refine q.alloc ae rfl fun W h6 w=>⟨keep w,w.alloc ae rfl fun U h7 z=>⟨keep z,?_⟩⟩
    refine z.storeAll ae 3 rfl rfl (bD u) rfl rfl rfl rfl fun h8 A=>?_;obtain⟨Q,V,O,N,I,_⟩:=keep A;refine⟨⟨Q,V,O,N,I,trivial⟩,A.storeAll ae 2 rfl rfl (bD v) rfl rfl rfl rfl fun X j=>⟨trivial,[],j.aV 4 [0,1,3,2]⟩⟩
  ·rintro⟨s1,s2⟩ X ⟨Bs,j⟩;dsimp only at j⊢;have J:=j.box 2 rfl;have H:=j.box 3 rfl;have a0:=s.2;refine⟨E.name,by rw[<-u1];exact J.cell0 rfl,E.name,by rw[<-v1];exact H.cell0 rfl,aK (fun e=>absurd e (by simp)) fun _=>?_⟩;refine⟨E.object,by rw[<-u2];exact J.cell rfl,E.object,by rw[<-v2];exact H.cell rfl,bq (fun e=>absurd rfl e) fun _=>?_⟩;refine⟨E.length,by rw[<-u3];exact J.cell rfl,E.length,by rw[<-v3];exact H.cell rfl,bq (fun e=>absurd rfl e) fun _=>?_⟩;refine⟨u.2.2.2,J.cell rfl,v.2.2.2,H.cell rfl,(iw _ _ E.tries E.tries X (Seq.up u4 j.ai) (Seq.up v4 j.ai) (by omega)).mono ?_⟩;rintro _ a7 ⟨rfl,rfl⟩;refine⟨_,rfl,aK (fun e=>absurd e (by simp)) fun _=>⟨i+1,by rw[Go.Vc.wrap_small _ (by omega) (by omega)];rfl,⟨by omega,j.aV 2 [0,1]|>.rS (As:=[_,_])⟩,by omega⟩⟩
 ·exact⟨rfl,.zip q.ai⟩
theorem um(a b:Sl)(c f:yq)(h:Heap)(n:eT h a 1 aF c)(o:eT h b 1 aF f)(A:c.length<=2^40)(y:∀r∈c,r.length<=2^40):
  ac wS ie #[wJ a.ptr a.len a.cap,wJ b.ptr b.len b.cap] h fun v h'=>v=wM (decide (c=f))/\h'=h:=by
 refine gC a b ?_;unfold dY;have m:=n.len;have j:=o.len;refine bq (fun d=>⟨?_,rfl⟩) (fun p=>?_)
 ·rw[decide_eq_false (fun e=>d (by rw[m,j,e]))]
 ·refine aB (fun k:Nat=>(k:Int)) (fun k h'=>h'=h/\k<=c.length/\c.take k=f.take k) (fun k=>c.length-k) 0 rfl ⟨rfl,by omega,by simp⟩ ?_;rintro k h' ⟨rfl,D,l⟩;refine af (fun t=>?_) (fun s=>?_)
  ·have i:k<c.length:=by omega
   have g:k<f.length:=by omega
   refine n.get k rfl i fun x w=>?_;refine o.get k rfl g fun u z=>?_;refine(ou x u _ _ h' w z (y _ (qt _))).mono ?_;rintro v B ⟨rfl,rfl⟩;refine⟨_,rfl,trivial,?_⟩;refine aK (fun e=>⟨?_,rfl⟩) (fun e=>?_)
   ·have d:c[k]≠f[k]:=of_decide_eq_false e;rw[decide_eq_false];intro e;subst e;exact d rfl
   ·have q:c[k]=f[k]:=of_decide_eq_true e;rw[wrap_small _ (by omega) (by omega)];exact⟨k+1,by simp,⟨rfl,by omega,by rw[aD _ _ i,aD _ _ g,l,q]⟩,by omega⟩
  ·have:k=c.length:=by omega
   subst this;rw[qi (by omega),qi (by omega)]at l;exact⟨by rw[decide_eq_true l],rfl⟩
theorem oC(s:Sl)(f b:Addr)(d:aU)(rs g:Sl)(h:Heap)(i:eT h s 1 aF d.l)(a:bE h b bf (dh f d rs g))(j:eT h rs 1 aF d.l)(ok:cr d):
  ac wS gA #[wI wO d.room,wI wO d.wait,wJ s.ptr s.len s.cap,wM d.lost,wK (some b)] h fun v h'=>v=wM true/\h'=h:=by
 refine ga d.room d.wait s d.lost (some b) ?_;unfold dL;have:=ok.len;have:=ok.room;refine⟨b,rfl,_,a.cell0 rfl,bp (fun _=>?_) fun e=>absurd rfl e⟩;refine⟨b,rfl,_,a.cell rfl,bp (fun _=>?_) fun e=>absurd rfl e⟩;refine⟨b,rfl,d.lost,a.cell rfl,aN (fun _=>?_) fun e=>absurd e (by simp)⟩;refine⟨b,rfl,rs,a.cell rfl,(um s rs d.l d.l h i j (by omega) fun c k=>by rw[ok.cell c k];decide).mono ?_⟩;rintro _ m ⟨rfl,rfl⟩;exact⟨_,rfl,by simp,rfl⟩
def gQ(d:aU)(i:Int):List UInt8:=if 0<=i then d.l.getD i.toNat []else[]
section
variable {B B':am} {h0 h0' h h':Heap} {As As':List HP} {a b pw pw2:Addr} {d:aU}
theorem nt(H:aa B h0 h (gG pw a d::As))(T:aa B' h0' h (fj pw2 b d::As')):
  ac wS eN #[wK (some a),wK (some b)] h fun v h'=>v=wM true/\Sp h h' []:=by
 refine eC (some a) (some b) ?_;unfold dk;obtain⟨s,u,Q,Z,G⟩:=gG.box H;obtain⟨ok,rs,R,j,M,m⟩:=fj.box T;have P:=ok.len;have N:=ok.room;refine aN (fun e=>by cases e) fun _=>aN (fun e=>by cases e) fun _=>⟨b,rfl,rs,j.cell rfl,b,rfl,rs,j.cell rfl,?_⟩
 rw[Go.Vc.wrap_small ((rs.len:Int)-1) (by omega) (by omega),m];obtain⟨L,I⟩:∃L:List Int,L=[-1,0,(d.l.length:Int)-1,(d.l.length:Int)]:=⟨_,rfl⟩
 have a0:L.length=4:=by rw[I];rfl
 refine(Sp.refl h).iN ae ay jp rfl [-1,0,(d.l.length:Int)-1,(d.l.length:Int)] rfl (show 4*1<=2^20 by decide) rfl ⟨by rw[<-m];exact j.cell rfl,by rw[<-m];exact j.cell rfl,trivial⟩ ?_;refine(Sp.refl h).lit ae ay jp rfl [-1,0,(d.l.length:Int)-1,(d.l.length:Int)] rfl (show 4*1<=2^20 by decide) rfl fun v5 X D=>?_;have D:Sp h X [au aL v5 1 ay L]:=by rw[I];exact D
 have a1:=(D.own 0 rfl).len;refine aB (fun i:Nat=>(i:Int)) (fun i h'=>i<=4/\Sp h h' [au aL v5 1 ay L]) (fun i=>4-i) 0 rfl ⟨by omega,D⟩ ?_;rintro i E ⟨hi,t⟩;have g:=Q.ai t.ai Q.lt;have f:=j.ai t.ai j.lt;have w:=Z.up t.ai;have o:=M.up t.ai;refine af (fun e=>?_) (fun e=>?_)
 ·have z:i<L.length:=by
   have e':(i:Int)<(v5.len:Int):=e;omega
  obtain⟨x,O⟩:∃x,x=L[i]:=⟨_,rfl⟩
  have W:-1<=x/\x<=d.l.length:=by
   have:x∈L:=by rw[O];exact qt z
   rw[I]at this;simp only[zA,List.not_mem_nil,or_false]at this;omega
  refine(t.seq 0 rfl fun _=>rfl).cd i rfl z x (by rw[O];rfl) ?_;refine dN (fun r h'=>h'=E/\Rd E r 1 aF (gQ d x)) ?_ ?_
  ·have q:gQ d x=[]->Rd E ⟨none,0,0⟩ 1 aF (gQ d x):=fun V=>by rw[V];exact Seq.nil _ _ _ _ _ _
   refine af (fun U=>⟨b,rfl,rs,f.cell rfl,af (fun e2=>?_) fun e2=>⟨rfl,q ?_⟩⟩) (fun U=>⟨rfl,q ?_⟩)
   ·refine⟨b,rfl,rs,f.cell rfl,o.get x.toNat (by omega) (by omega) fun r K=>⟨rfl,?_⟩⟩;unfold gQ;rw[if_pos (by omega),getD_lt (show x.toNat<d.l.length by omega)];exact K
   ·unfold gQ;rw[if_pos (by omega),qj,qO (by omega)];rfl
   ·unfold gQ;rw[if_neg (by omega)]
  ·rintro r _ ⟨rfl,K⟩;refine(uX s u x g w ok.cell).mono ?_;rintro _ Y ⟨A,rfl,J⟩;have ad:(gQ d x).length<=64:=by
    unfold gQ;split
    ·rw[qj];cases hg:d.l[x.toNat]? with
     |none=>simp
     |some c=>simp[ok.cell c (zZ hg)]
    ·simp
   refine⟨A,rfl,(ou A r (gQ d x) (gQ d x) Y (J.seq 0 rfl fun _=>rfl) (K.up J.ai) (by omega)).mono ?_⟩;rintro _ h4 ⟨rfl,rfl⟩;refine⟨_,rfl,aK (fun e=>absurd e (by simp)) fun _=>⟨i+1,by rw[Go.Vc.wrap_small _ (by omega) (by omega)];rfl,⟨by omega,t.up J.ai⟩,by omega⟩⟩
 ·have n:cellOf E (b.add 2)=some (wJ rs.ptr rs.len rs.cap):=f.cell rfl;refine⟨b,rfl,rs,n,(uV s u g G).mono ?_⟩;rintro _ _ ⟨rfl,rfl⟩;refine⟨_,rfl,⟨n,trivial⟩,bp (fun _=>?_) fun e=>absurd (by omega) e⟩;refine(uU s u g).mono ?_;rintro _ _ ⟨rfl,rfl⟩;refine⟨_,rfl,⟨n,trivial⟩,(uW s u g).mono ?_⟩;rintro _ h5 ⟨rfl,rfl⟩;refine⟨_,rfl,⟨n,trivial⟩,(vL s u g w ok).mono ?_⟩;rintro _ h6 ⟨r,rfl,y⟩;have F:=g.ai y.ai g.lt;have p:=f.ai y.ai f.lt;have k:cellOf h6 (b.add 2)=some (wJ rs.ptr rs.len rs.cap):=p.cell rfl;refine⟨r,rfl,⟨k,trivial⟩,(pJ s u F).mono ?_⟩;rintro _ S ⟨rfl,rfl⟩;refine⟨_,rfl,⟨k,trivial⟩,(oC r pw2 b d rs R S (aa.xA y fun _=>rfl) p (o.up y.ai) ok).mono ?_⟩;rintro _ h8 ⟨rfl,rfl⟩;exact⟨_,rfl,⟨k,trivial⟩,rfl,.zip (up t.ai y.ai)⟩
theorem kE(h:Heap):ac wS eN #[wK none,wK none] h fun v h'=>v=wM true/\Sp h h' []:=by
 refine eC none none ?_;unfold dk;exact aN (fun e=>by cases e) fun _=>aN (fun _=>⟨rfl,Sp.refl h⟩) fun e=>by cases e
end
section
variable {B:am} {h0 h:Heap} {As:List HP} {a a2 pw pw2:Addr} {mc:List Value} {offs:Int} {da da2:List (Option Addr)} {w:Pow} {ds:aY}
theorem oD(x:bn)(m:ba)(g:cK h x m)(c:co m)(b:∀y∈m.drives,0<=y/\y<64)(H:aa B h0 h (aI bZ a pw (aE x) offs da w ds::As)):
  ac wS fY #[wK (some a)] h fun v h'=>∃r:Sl,v=wJ r.ptr r.len r.cap/\Sp h h' [au aL r 1 ay (bR ds m.drives)]:=by
 refine fM (some a) ?_;unfold dz;obtain⟨ok,e⟩:=aa.eG H;have f:=c.dr;refine⟨a,rfl,x.2.2.2.2.2.2.1,e.cell rfl,(ul _ m.drives g.drives (by omega) b H).mono ?_⟩;rintro _ i ⟨r,rfl,d⟩;exact⟨r,rfl,r,rfl,d⟩
theorem aa.sB(H:aa B h0 h (aI bZ a pw mc offs da w ds::As)):∃l,mN w l/\bE h pw cW (powC w l):=by
 obtain⟨ok,c⟩:=Go.Vc.aa.fp H;have e:=c.rest;obtain⟨l,d,b⟩:=aa.eJ e;exact⟨l,d,b.box 0 rfl⟩
theorem oE(H:aa B h0 h (aI bZ a pw mc offs da w ds::As)):
  ac wS fZ #[wK (some a)] h fun v h'=>v=wM (gP w offs)/\h'=h:=by
 refine fN (some a) ?_;unfold dA;obtain⟨ok,d⟩:=aa.eG H;obtain⟨l,g,b⟩:=aa.sB H;have c:cellOf h (a.add 8)=some (wK (some pw)):=d.cell (lf ok.l8);have f:cellOf h (a.add 9)=some (wI wO offs):=d.cell (ox ok.l8);refine⟨a,rfl,some pw,c,pw,rfl,w.off,b.cell0 rfl,aN (fun e=>⟨by unfold gP;rw[e];rfl,rfl⟩) fun e=>?_⟩;refine⟨a,rfl,some pw,c,pw,rfl,w.offs,b.cell rfl,a,rfl,offs,f,by unfold gP;rw[e];rfl,rfl⟩
theorem td(x x2:bn)(m:ba)(hx:cK h x m)(F:cK h x2 m)(I:co m)(T:∀y∈m.drives,0<=y/\y<64){k:Int}(u:k=offs)
  (H:aa B h0 h (aI bU a pw (aE x) offs da w ds::aI bZ a2 pw2 (aE x2) k da2 w ds::As)):
  ac wS jx #[wK (some a),wK (some a2)] h fun v h'=>v=wM true/\Sp h h' []:=by
 subst u;refine jd (some a) (some a2) ?_;unfold eX;have D:=H.uF;refine aN (fun e=>by cases e) fun _=>aN (fun e=>by cases e) fun _=>?_;obtain⟨ok,hb⟩:=aa.dc H;obtain⟨z,g⟩:=aa.eG D;obtain⟨l2,a4,J⟩:=aa.sB D;obtain⟨X,ad,G⟩:=aa.tC H;have a1:=I.dr;refine dN (fun _ h'=>Sp h h' []) ?_ ?_
 ·refine⟨a2,rfl,x2,g.aO _ rfl,(pi x m hx I H).mono ?_⟩;rintro _ h1 ⟨y,rfl,K⟩;have r:=g.ai K.ai g.lt;refine⟨y,rfl,⟨r.cell0 rfl,r.cell rfl,r.cell rfl,r.cell rfl,r.cell rfl,r.cell rfl,r.cell rfl,r.cell rfl,trivial⟩,?_⟩;refine(pl y x2 m h1 (K.at 0 rfl) (F.up K.ai) I).mono ?_;rintro _ h2 ⟨rfl,R2⟩;have Q:=up K.ai R2.ai;refine⟨true,rfl,trivial,aK (fun e=>by cases e) fun _=>?_⟩;refine(ph x m (hx.up Q) I (aa.up H Q)).mono ?_;rintro _ h3 ⟨Y,rfl,W⟩;have S:=up Q W.ai;refine⟨Y,rfl,trivial,(oD x2 m (F.up S) I T (aa.up D S)).mono ?_⟩;rintro _ h4 ⟨r6,rfl,M⟩;have l:=up S M.ai;have a3:(bR ds m.drives).length<=m.drives.length:=zH _ _;refine⟨r6,rfl,trivial,(iw Y r6 _ _ h4 ((W.seq 0 rfl fun _=>rfl).up M.ai) (M.seq 0 rfl fun _=>rfl) (by omega)).mono ?_⟩;rintro _ h5 ⟨rfl,rfl⟩;refine⟨_,rfl,trivial,aK (fun e=>absurd e (by simp)) fun _=>?_⟩;refine(gI (aa.up H l)).mono ?_;rintro _ h6 ⟨rfl,rfl⟩;refine⟨_,rfl,trivial,(oE (aa.up D l)).mono ?_⟩;rintro _ N ⟨rfl,rfl⟩;refine⟨_,rfl,trivial,aK (fun e=>absurd e (by simp)) fun _=>?_⟩;have t:cellOf N (a2.add 8)=some (wK (some pw2)):=(g.ai l g.lt).cell (lf z.l8);have o:=J.ai l J.lt;have q:cellOf N pw2=some (wM w.off):=o.cell0 rfl;have c3:cellOf N (pw2.add 3)=some (wI wO w.offs):=o.cell rfl;have s:=G.ai l G.lt;refine(iv (aa.up H l)).mono ?_;rintro _ _ ⟨rfl,rfl⟩;refine⟨_,rfl,trivial,aN (fun e=>by cases e) fun _=>?_⟩;refine⟨a2,rfl,some pw2,t,pw2,rfl,w.off,q,(iv (aa.up H l)).mono ?_⟩;rintro _ _ ⟨rfl,rfl⟩;refine⟨_,rfl,⟨q,t,trivial⟩,(mO X s).mono ?_⟩;rintro _ _ ⟨rfl,rfl⟩;refine⟨_,rfl,⟨q,t,trivial⟩,aN (fun e=>absurd e (by cases w.off<;>decide)) fun _=>?_⟩;refine⟨a2,rfl,some pw2,t,pw2,rfl,w.offs,c3,(iv (aa.up H l)).mono ?_⟩;rintro _ _ ⟨rfl,rfl⟩;refine⟨_,rfl,⟨c3,t,q,t,trivial⟩,(mw X s).mono ?_⟩;rintro _ _ ⟨rfl,rfl⟩;exact⟨_,rfl,⟨c3,t,q,t,trivial⟩,bq (fun e=>absurd rfl e) fun _=>.zip l⟩
 ·rintro _ a5 L;refine aB (fun i:Nat=>(i:Int)) (fun i h'=>i<=64/\Sp h h' []) (fun i=>64-i) 0 rfl ⟨by omega,L⟩ ?_;rintro i a0 ⟨hi,j⟩;have c:=hb.ai j.ai hb.lt;have f:=g.ai j.ai g.lt;refine af (fun e=>?_) (fun e=>?_)
  ·have U:i<64:=by omega
   obtain⟨p,Z,E⟩:=sz z f i U;refine⟨a2,rfl,⟨by omega,by omega⟩,p,by rw[qm];exact Z,(dn (i:Int) ok c).mono ?_⟩;rintro _ _ ⟨rfl,rfl⟩;refine⟨_,rfl,⟨by rw[qm];exact Z,trivial⟩,?_⟩;have next:∀{h':Heap},Sp h h' []->∃P:Nat,qa wO ((i:Int)+1)=(P:Int)/\(P<=64/\Sp h h' [])/\64-P<64-i:=fun R=>⟨i+1,by rw[Go.Vc.wrap_small _ (by omega) (by omega)];rfl,⟨by omega,R⟩,by omega⟩
   have Hc:=aa.up H j.ai;have O:=aa.up D j.ai;rcases dm ok (i:Int)with⟨c1,c2⟩|⟨n,d,b,q,c1,c2,c3,c4,c5⟩
   ·rcases dm z (i:Int)with⟨g1,g2⟩|⟨n,d,b,g0,g1,g2,g3,g4,g5⟩
    ·have:p=none:=by
      unfold dl at g2;rw[if_pos (by omega),qm,E]at g2;exact g2
     subst this;rw[c2];refine(kE _).mono ?_;rintro _ V ⟨rfl,A⟩;exact⟨true,rfl,trivial,aK (fun e=>by cases e) fun _=>next (aa.up j A.ai)⟩
    ·rw[c1]at g3;cases g3
   ·have q:i=n:=by omega
    subst q;rw[c5];obtain⟨b',c,H5⟩:=Go.Vc.aa.cL Hc c2;rw[c4]at c;injection c with c
    injection c with c
    subst c;obtain⟨b2,f,H6⟩:=Go.Vc.aa.cL O c2;rw[E]at f;injection f with f
    subst f;refine(nt H5 H6).mono ?_;rintro _ V ⟨rfl,A⟩;exact⟨true,rfl,trivial,aK (fun e=>by cases e) fun _=>next (aa.up j A.ai)⟩
  ·refine(dn (-1) ok c).mono ?_;rintro _ _ ⟨rfl,rfl⟩;have e1:dl da (-1)=none:=by unfold dl;rw[if_neg (by decide)]
   rw[e1];refine⟨_,rfl,aN (fun _=>?_) fun e=>by cases e⟩;refine(dn 64 ok c).mono ?_;rintro _ _ ⟨rfl,rfl⟩;have e2:dl da 64=none:=by unfold dl;rw[if_neg (by decide)]
   rw[e2];exact⟨_,rfl,rfl,j⟩
end
section
variable {B:am} {h0 h:Heap} {As:List HP} {a pw b:Addr} {x:bn} {offs:Int} {da:List (Option Addr)} {w:Pow} {ds:aY} {d:aU}
theorem aa.vU(n:Nat)(f:n<64)(g:ds[n]?=some none)(H:aa B h0 h (aI bU a pw (aE x) offs da w ds::gG pw b d::As)){K:Unit->Heap->Prop}
  (j:∀h',aa B h0 h' (aI bU a pw (aE x) offs (da.set n (some b)) w (ds.set n (some d))::As)->K () h'):
  ab wS (qb mS (wK (some ((a.add 10).add n))) (wK (some b))) h K:=by
 obtain⟨ok,i⟩:=Go.Vc.aa.fp H;have e:(a.add 10).add n=a.add (10+n):=by unfold Addr.add;simp[z8]
 rw[e];refine i.storeAt ae 0 rfl rfl rfl rfl rfl (by simp[ok.la];omega) fun h' c=>j h' ?_;rw[List.set_cons_zero,pM ok.l8]at c;exact aa.tE ok f g c
end
end Go.Proofs.YtcamechmadjclaaGreatDoor
namespace Go.Vc
open Go Wl Go.Proofs.YtcamechmadjclaaGreatDoor
theorem li{l:List Int}(h:(bo l).2=true):(bo l).1=az l l.length/\l.length<=64/\∀n:Nat,l.getD n 0<=512:=by
 unfold bo at h⊢;by_cases a:l.all (bz · 0 512)=true
 ·rw[if_pos a]at h⊢;refine⟨rfl,by simp at h;exact h.1,fun n=>?_⟩;rw[qj];by_cases b:n<l.length
  ·rw[qc b];have:=qH.1 a _ (qt b);unfold bz at this;simp at this⊢;omega
  ·rw[qO (by omega)];simp
 ·rw[if_neg a]at h;cases h
theorem mD(l:List Int)(i n:Nat)(e:i<(az l l.length).length)(f:(az l l.length)[i]=(n:Int))(d:n<64):(bQ l i)[n]?=some none:=by
 unfold bQ;rw[qE,zi d,qQ,if_neg];intro g;obtain⟨j,h,c⟩:=List.mem_take_iff_getElem.1 g;have:=mg (kD l l.length) (a:=j) (b:=i) (by omega) e (by rw[c,f]);omega
theorem nu(m:ba):∀S:List Int,(aQ m S).length=S.length*(aX m).length
 |[]=>by simp[aQ]
 |n::S=>by
  have e:aQ m (n::S)=(aX m).map (fun c=>(n,c))++aQ m S:=by unfold aQ;rw[qF]
  rw[e,qu,qT,nu m S,qV,zS,Nat.add_comm]
theorem iM(p:Pm)(a:Int)(l:List Int)(b:l.length<=64):co (aR p a l):=⟨by have:=dH l l.length;simp[aR];omega,by simp[aR],by simp[aR]⟩
end Go.Vc
namespace Go.Proofs.YtcamechmadjclaaGreatDoor
open Go Go.Vc Go.Proofs Wl
section
variable {B:am} {h0 h:Heap} {As:List HP} {pw:Addr} {w:Pow}
theorem te(p:Pm)(c:Int)(s:Sl)(l:List Int)(hS:St B h0 As fun h=>Rd h s 1 ay l)(hl:l.length<=2^20)(H:aa B h0 h (bT aS pw w::As)):
  ac wS oa #[kC p,wI wO c,wK (some pw),wJ s.ptr s.len s.cap] h fun v h'=>
   ((aC p c w l).1≠0->v=.tuple #[wK none,wI wO (aC p c w l).1]/\aa B h0 h' As)/\
   ((aC p c w l).1=0->∃(a:Addr) (x:bn) (da:List (Option Addr)),v=.tuple #[wK (some a),wI wO 0]/\aa B h0 h' (aI bU a pw (aE x) w.offs da (aC p c w l).2.1 (aC p c w l).2.2::dG x (aR p c l)::As)):=by
 refine nF p c (some pw) s ?_;unfold kx;refine H.boxed fun a1 h1 H1=>?_;have H1:=H1.bv;refine(eR s l h1 (hS.at [_,_] H1) hl).mono ?_;rintro _ h2 ⟨r,rfl,R2⟩;have H2:=H1.dO R2;refine⟨(r,(bo l).2),rfl,?_⟩;have o:∀{h':Heap},aa B h0 h' As->((bo l).2&&(cV p&&bz c 0 16))=false->
   ((aC p c w l).1≠0->Value.tuple #[wK none,wI wO 1]=.tuple #[wK none,wI wO (aC p c w l).1]/\aa B h0 h' As)/\
   ((aC p c w l).1=0->∃(a:Addr) (x:bn) (da:List (Option Addr)),Value.tuple #[wK none,wI wO 1]=.tuple #[wK (some a),wI wO 0]/\aa B h0 h' (aI bU a pw (aE x) w.offs da (aC p c w l).2.1 (aC p c w l).2.2::dG x (aR p c l)::As)):=fun{h'} H' hc=>by
  have e:aC p c w l=(1,w,[]):=by unfold aC;rw[hc];rfl
  rw[e];exact⟨fun _=>⟨rfl,H'⟩,fun h=>absurd h (show¬(1:Int)=0 by decide)⟩
 refine aG (aK (fun e=>o H2.rest.rest.rest (by rw[e];rfl)) fun e=>?_);have ep:(bo l).2=true:=by simpa using e
 obtain⟨a8,A,M⟩:=li ep;refine⟨p,(H2.box 1 rfl).aO _ rfl,(jo p h2).mono ?_⟩;rintro _ h3 ⟨rfl,R3⟩;have E:aa B h0 h3 (au aL r 1 ay (bo l).1::ao a1 aw [wI wO p.1,wI wO p.2.1,wI wO p.2.2]::bT aS pw w::As):=by
  have:=H2.comp R3;rw[qU]at this;exact this
 refine⟨_,rfl,aK (fun e2=>o E.rest.rest.rest (by rw[e2];simp)) fun e2=>?_⟩;have em:cV p=true:=by simpa using e2
 refine af (fun e3=>o E.rest.rest.rest (by unfold bz;simp;omega)) fun e3=>af (fun e4=>o E.rest.rest.rest (by unfold bz;simp;omega)) fun e4=>aN (fun e5=>by cases e5) fun _=>?_;rw[a8]at E;refine aG ⟨p,(E.box 1 rfl).aO _ rfl,?_⟩;obtain⟨lw,c2,a7⟩:=(E.aV 3 [2,1,0]).eJ;refine(mw lw (a7.box 0 rfl)).mono ?_;rintro _ h4 ⟨rfl,rfl⟩;have J:=E.box 1 rfl;refine⟨_,rfl,⟨J.cell0 rfl,J.cell rfl,J.cell rfl,trivial⟩,?_⟩;obtain⟨m,Q⟩:∃m,m=aR p c l:=⟨_,rfl⟩
 refine⟨_,vl (1,0,p.1,p.2.1,p.2.2,c,r,⟨none,0,0⟩) pw w.offs,?_⟩;refine E.boxed fun a9 h6 g=>?_;obtain⟨x,hx⟩:∃x:bn,x=(1,0,p.1,p.2.1,p.2.2,c,r,⟨none,0,0⟩):=⟨_,rfl⟩
 rw[<-hx]at g;have K:(Value.agg (bh (aE x) pw w.offs (qd 64 none)).toArray).cells.toList=bh (aE x) pw w.offs (qd 64 none):=by simp[Value.cells]
 rw[K]at g;have g:=g.bv;have G:=g.box 2 rfl;refine⟨⟨G.cell0 rfl,G.cell rfl,G.cell rfl,trivial⟩,?_⟩;have g:aa B h0 h6 (ao a9 db (bh (aE x) pw w.offs (qd 64 none))::bT aS pw w::au aL r 1 ay (az l l.length)::As):=g.aV 4 [0,3,1];have g:=aa.pL (k:=bU) (h8:=by simp) g;obtain⟨P,z⟩:∃P,P=az l l.length:=⟨_,rfl⟩
 rw[<-z]at g;have hz:co m:=Q▸iM p c l A;have bd:P.length<=64:=by rw[z];exact zw (dH _ _) A
 have T:∀{h':Heap} {Bs:List HP} {X:HP},aa B h0 h' (X::au aL r 1 ay P::Bs)->cK h' x m:=fun{h' Bs X} H'=>by
  have hs:=H'.seq 1 rfl fun _=>rfl;have hc:=(H'.own 1 rfl).cap;subst hx;subst Q;exact⟨rfl,rfl,rfl,rfl,by show Seq _ _ r 1 ay (az l l.length);rw[<-z];exact hs,bt.nil _ _ _ _,hc,qM _⟩
 have W:((bo l).2&&(cV p&&bz c 0 16))=true:=by
  rw[ep,em];unfold bz;simp;omega
 have ad:(P.any fun i=>decide (l.getD i.toNat 0<((aX m).length:Int)))=true->aC p c w l=(7,w,[]):=fun hh=>by
  unfold aC;rw[if_pos W,<-z,<-Q,if_pos hh]
 have S:(P.any fun i=>decide (l.getD i.toNat 0<((aX m).length:Int)))=false->aC p c w l=layAll (aQ m P) w (bQ l P.length):=fun hh=>by
  unfold aC;rw[if_pos W,<-z,<-Q,hh,if_neg (by decide)]
 have I:∀i (N:i<P.length),∃n:Nat,n<l.length/\P[i]=(n:Int)/\0<l.getD n 0:=by
  subst z;exact fun i N=>kj l l.length i N
 refine aB (fun i:Nat=>(i:Int)) (fun i h'=>i<=P.length/\((P.take i).any fun i=>decide (l.getD i.toNat 0<((aX m).length:Int)))=false/\aa B h0 h' (aI bU a9 pw (aE x) w.offs (qd 64 none) w (qd 64 none)::au aL r 1 ay P::As)) (fun i=>P.length-i) 0 rfl ⟨by omega,by simp,g⟩ ?_;rintro i h7 ⟨N,j,D⟩;dsimp only at*;obtain⟨cc,b4⟩:=aa.dc D;have ch:r.len=P.length:=(D.own 1 rfl).len;refine af (fun e5=>?_) (fun e5=>?_)
 ·have d:i<P.length:=by omega
  obtain⟨n,O,F,V⟩:=I i d;refine(D.seq 1 rfl fun _=>rfl).cd i rfl d (n:Int) (by rw[F];rfl) ?_;refine(hS.at [_,_] D).wl n rfl O (l.getD n 0) (by rw[getD_lt O];rfl) fun b9 Z=>?_;refine⟨a9,rfl,x,b4.aO _ (by rfl),(ov x m h7 (T D) hz).mono ?_⟩;rintro _ h9 ⟨u,rfl,R9⟩;have H9:=D.dO R9;have c0:=(aa.oR H9).1;refine⟨u,rfl,gV R9.ai ⟨Z,trivial⟩,?_⟩;refine af (fun e6=>?_) (fun e6=>?_)
  ·rw[ad (List.any_eq_true.2 ⟨P[i],qt d,by rw[F,qm];exact decide_eq_true (by omega)⟩)];exact⟨fun _=>⟨rfl,H9.rest.rest.rest⟩,fun h=>absurd h (show¬(7:Int)=0 by decide)⟩
  ·refine⟨i+1,by rw[Go.Vc.wrap_small _ (by omega) (by omega)];rfl,⟨by omega,?_,H9.rest⟩,by omega⟩;rw[aD _ _ d,List.any_append,j,Bool.false_or,List.any_cons,List.any_nil,wG,F,qm];exact decide_eq_false (by omega)
 ·have L:i=P.length:=by omega
  subst L;rw[qK]at j;have bb:=S j;rw[<-mA l]at D;refine aB (fun t:Nat×List (Option Addr)=>(t.1:Int)) (fun t h'=>t.1<=P.length/\aa B h0 h' (aI bU a9 pw (aE x) w.offs t.2 w (bQ l t.1)::au aL r 1 ay P::As)) (fun t=>P.length-t.1) (0,qd 64 none) rfl ⟨by simp,D⟩ ?_;rintro⟨i,da⟩ a2 ⟨N,f⟩;dsimp only at*;obtain⟨cs,a0⟩:=aa.dc f;refine af (fun e6=>?_) (fun e6=>?_)
  ·have d:i<P.length:=by omega
   obtain⟨n,O,F,V⟩:=I i d;have b5:=M n;refine(f.seq 1 rfl fun _=>rfl).cd i rfl d (n:Int) (by rw[F];rfl) ?_;refine(hS.at [_,_] f).cd n rfl O (l.getD n 0) (by rw[getD_lt O];rfl) ?_;refine⟨a9,rfl,(ua (l.getD n 0) pw a2).mono ?_⟩;rintro _ b7 ⟨Q1,_⟩;obtain⟨b,rfl,b1⟩:=Q1 (by omega);have b3:=(f.dO b1).aV 2 [1,0];refine⟨_,rfl,trivial,⟨by omega,by omega⟩,?_⟩;rw[qm,za];have Y:i<(az l l.length).length:=by rw[<-z];exact d
   have U:(az l l.length)[i]=(n:Int):=by rw[<-F];simp only[z]
   refine Go.Proofs.YtcamechmadjclaaGreatDoor.aa.vU n (by omega) (mD l i n Y U (by omega)) b3 fun cp b2=>?_;refine⟨trivial,(i+1,da.set n (some b)),by dsimp only;rw[Go.Vc.wrap_small _ (by omega) (by omega)];rfl,⟨by dsimp only;omega,?_⟩,by dsimp only;omega⟩;dsimp only;rw[<-mB l i n Y U (by omega)];exact b2
  ·have L:i=P.length:=by omega
   subst L;refine⟨a9,rfl,x,a0.aO _ (by rfl),(sW x m r P a2 (T f) hz (f.seq 1 rfl fun _=>rfl) (by omega)).mono ?_⟩;rintro _ c1 ⟨u,ys,rfl,a5⟩;have b0:=(f.dO a5).aV 2 [1,0];refine⟨u,rfl,?_⟩;have a4:=mz m hz;refine(vh u ys (aQ m P) (St.mK 0 rfl fun _ R=>R) ?_ ?_ b0).mono ?_
   ·rw[nu];have:=wo bd a4;omega
   ·intro y hy;obtain⟨br,a6⟩:=gO hy;obtain⟨i,N,e⟩:=List.getElem_of_mem br;obtain⟨n,O,F,_⟩:=I i N;rw[<-e,F,a6];exact⟨⟨by omega,by omega⟩,by decide⟩
   rintro _ b6 ⟨rfl,a3⟩;rw[bb];refine⟨_,rfl,bq (fun e7=>⟨fun _=>⟨rfl,a3.rest.rest.rest⟩,fun h=>absurd h e7⟩) fun e7=>⟨fun h=>absurd e7 h,fun _=>⟨a9,x,da,rfl,?_⟩⟩⟩;rw[<-Q];exact a3.fg.io 1 rfl fun q R=>by
    subst hx;subst Q;exact⟨rfl,rfl,rfl,rfl,by show Seq _ _ r 1 ay (az l l.length);rw[<-z];exact R.1.seq (fun _=>rfl) R.2,bt.nil _ _ _ _,R.1.cap,qM _⟩
end
end Go.Proofs.YtcamechmadjclaaGreatDoor
namespace Go.Vc
open Go Wl Go.Proofs.YtcamechmadjclaaGreatDoor
def cZ(p:Pm)(a:Int)(l:List Int):Int:=
 if(bo l).2&&(cV p&&bz a 0 16)then
  if(az l l.length).any fun i=>decide (l.getD i.toNat 0<((aX (aR p a l)).length:Int))then 7 else 0
 else 1
theorem lj(p:Pm)(a:Int)(w:Pow)(l:List Int):aC p a w l=if cZ p a l=0 then layAll (aQ (aR p a l) (az l l.length)) w (bQ l (az l l.length).length)else(cZ p a l,w,[]):=by
 unfold aC cZ;by_cases h:((bo l).2&&(cV p&&bz a 0 16))=true
 ·rw[if_pos h,if_pos h];by_cases b:((az l l.length).any fun i=>decide (l.getD i.toNat 0<((aX (aR p a l)).length:Int)))=true
  ·rw[if_pos b,if_pos b];rfl
  ·rw[if_neg b,if_neg b];rfl
 ·rw[if_neg h,if_neg h];rfl
theorem oF{p:Pm}{a:Int}{l:List Int}(h:cZ p a l=0):cV p=true/\0<=a/\a<=16/\(bo l).2=true/\((az l l.length).any fun i=>decide (l.getD i.toNat 0<((aX (aR p a l)).length:Int)))=false:=by
 unfold cZ at h;by_cases b:((bo l).2&&(cV p&&bz a 0 16))=true
 ·rw[if_pos b]at h;by_cases c:((az l l.length).any fun i=>decide (l.getD i.toNat 0<((aX (aR p a l)).length:Int)))=true
  ·rw[if_pos c]at h;cases h
  ·unfold bz at b;simp only[qB,decide_eq_true_eq]at b;exact⟨b.2.1,b.2.2.1,b.2.2.2,b.1,by simpa using c⟩
 ·rw[if_neg b]at h;cases h
abbrev gR:bn:=(0,0,0,0,0,0,⟨none,0,0⟩,⟨none,0,0⟩)
end Go.Vc
namespace Go.Proofs.YtcamechmadjclaaGreatDoor
open Go Go.Vc Go.Proofs Wl
theorem oG(p:Pm)(a:Int)(s:Sl)(l:List Int)(h:Heap)(S:Rd h s 1 ay l)(hl:l.length<=2^20):
  ac wS gw #[kC p,wI wO a,wJ s.ptr s.len s.cap] h fun v h'=>∃y:bn,v=.tuple #[cE y,wI wO (cZ p a l)]/\(cZ p a l≠0->Sp h h' [])/\(cZ p a l=0->Sp h h' [dG y (aR p a l)]):=by
 refine fX p a s ?_;unfold dK;have a3:=S.len;refine(Sp.refl h).boxed fun a1 h1 H1=>?_;refine H1.alloc ae rfl fun a2 h2 Q=>?_;have Q:Sp h h2 [ao a1 aw [wI wO p.1,wI wO p.2.1,wI wO p.2.2],ao a2 al (aE gR)]:=Q;have f:∀(e:Int) {h':Heap} {Bs:List HP},Sp h h' (ao a2 al (aE gR)::Bs)->cZ p a l=e->e≠0->
   ab wS (qb al (wK (some a2)) (cE gR)) h' fun _ L=>∃M:bn,ap L a2 0 (aE M)/\∃y:bn,Value.tuple #[cE M,wI wO e]=.tuple #[cE y,wI wO (cZ p a l)]/\(cZ p a l≠0->Sp h L [])/\(cZ p a l=0->Sp h L [dG y (aR p a l)]):=fun e {h' Bs} H' he h0=>by
  refine H'.storeAll ae 0 rfl rfl (aE gR) rfl rfl rfl rfl fun L R=>?_;exact⟨gR,(R.box 0 rfl).aO _ rfl,gR,by rw[he],fun _=>.zip R.ai,fun A=>absurd (he.symm.trans A) h0⟩
 have B:((bo l).2&&(cV p&&bz a 0 16))=false->cZ p a l=1:=fun A=>by unfold cZ;rw[A];rfl
 refine aG ⟨p,(Q.box 0 rfl).aO _ rfl,(ki p h2).mono ?_⟩;rintro _ h3 ⟨rfl,R3⟩;have F:Sp h h3 [ao a2 al (aE gR),ao a1 aw [wI wO p.1,wI wO p.2.1,wI wO p.2.2]]:=(Q.up R3.ai).cH [1,0];refine⟨_,rfl,aK (fun b=>f 1 F (B (by rw[b];simp)) (by decide)) fun b1=>af (fun b=>f 1 F (B (by unfold bz;simp;omega)) (by decide)) fun b2=>af (fun b=>f 1 F (B (by unfold bz;simp;omega)) (by decide)) fun b3=>af (fun b=>f 1 F (B ?_) (by decide)) fun b4=>?_⟩
 ·have:(bo l).2=false:=by
   unfold bo;by_cases A:l.all (bz · 0 512)=true
   ·rw[if_pos A];simp;omega
   ·rw[if_neg A]
  rw[this];rfl
 have r:l.length<=64:=by omega
 refine⟨p,(F.box 1 rfl).aO _ rfl,?_⟩;refine F.alloc ae rfl fun z L R=>?_;refine R.storeAll ae 2 rfl rfl (aE (1,0,p.1,p.2.1,p.2.2,a,⟨none,0,0⟩,⟨none,0,0⟩)) rfl rfl rfl rfl fun h5 T=>?_;have T:Sp h h5 [ao a2 al (aE gR),ao z al (aE (1,0,p.1,p.2.1,p.2.2,a,⟨none,0,0⟩,⟨none,0,0⟩)),au aL ⟨none,0,0⟩ 1 ay (az l 0)]:=(T.nil aL 1 ay).cH [0,2,3];refine aB (fun t:Sl×Nat=>(t.2:Int)) (fun t h'=>t.2<=l.length/\(l.take t.2).all (bz · 0 512)=true/\Sp h h' [ao a2 al (aE gR),ao z al (aE (1,0,p.1,p.2.1,p.2.2,a,t.1,⟨none,0,0⟩)),au aL t.1 1 ay (az l t.2)]) (fun t=>l.length-t.2) (⟨none,0,0⟩,0) rfl ⟨by simp,by simp,T⟩ ?_;rintro⟨o,i⟩ h6 ⟨hi,d,g⟩;dsimp only at*;have D:∀(c:i<l.length),bz l[i] 0 512=false->cZ p a l=1:=fun c hb=>B (by
  have:(bo l).2=false:=by
   unfold bo;rw[if_neg];intro Z;have:=qH.1 Z _ (qt c);rw[hb]at this;cases this
  rw[this];rfl)
 refine af (fun e=>?_) (fun e=>?_)
 ·have c:i<l.length:=by omega
  have a4:=dH l i;refine(Seq.up S g.ai).cd i rfl c l[i] rfl ?_;refine aG (af (fun B=>f 1 g (D c (by unfold bz;simp;omega)) (by decide)) (fun B=>af (fun e2=>f 1 g (D c (by unfold bz;simp;omega)) (by decide)) (fun e2=>?_)));have k:(l.take (i+1)).all (bz · 0 512)=true:=by
   rw[aD l i c,List.all_append,d,wa,List.all_cons,List.all_nil,Bool.and_true];unfold bz;simp;omega
  refine af (fun e3=>?_) (fun e3=>?_)
  ·refine⟨o,(g.box 1 rfl).cell rfl,?_⟩;refine g.push ae 2 rfl jp rfl (by decide) (fun _=>rfl) gq (i:Int) rfl (by decide) (by omega) fun o' h7 w=>?_;refine w.storeAt ae 1 rfl rfl rfl rfl rfl (by simp[aE]) fun h8 O=>?_;refine⟨(o',i+1),by dsimp only;rw[Go.Vc.wrap_small _ (by omega) (by omega)];rfl,⟨by dsimp only;omega,k,?_⟩,by dsimp only;omega⟩;dsimp only;rw[fk l i c,if_pos (by omega)];exact O
  ·refine⟨(o,i+1),by dsimp only;rw[Go.Vc.wrap_small _ (by omega) (by omega)];rfl,⟨by dsimp only;omega,k,?_⟩,by dsimp only;omega⟩;dsimp only;rw[fk l i c,if_neg (by omega),qU];exact g
 ·have X:i=l.length:=by omega
  subst X;rw[qK]at d;have ad:=(g.own 2 rfl).len;have hp:bo l=(az l l.length,decide (l.length<=64)&&decide (0<(az l l.length).length)):=by unfold bo;rw[if_pos d]
  refine⟨o,(g.box 1 rfl).cell rfl,bp (fun b=>f 1 g (B ?_) (by decide)) fun b=>?_⟩
  ·rw[hp];dsimp only;rw[decide_eq_false (show¬0<(az l l.length).length by omega),Bool.and_false];rfl
  have J:((bo l).2&&(cV p&&bz a 0 16))=true:=by
   rw[hp,b1,decide_eq_true r,decide_eq_true (show 0<(az l l.length).length by omega)];unfold bz;simp;omega
  obtain⟨m,N⟩:∃m,m=aR p a l:=⟨_,rfl⟩
  obtain⟨P,E⟩:∃P,P=az l l.length:=⟨_,rfl⟩
  have hz:co m:=N▸iM p a l r;have a5:P.length<=64:=by rw[E];exact zw (dH _ _) r
  obtain⟨x,W⟩:∃x:bn,x=(1,0,p.1,p.2.1,p.2.2,a,o,⟨none,0,0⟩):=⟨_,rfl⟩
  rw[<-W,<-E]at g;rw[<-E]at ad;have I:∀{h':Heap} {q:am},Seq h' q o 1 ay P->o.len<=o.cap->fU h' q x m:=fun{h' q} G Z=>by
   subst W;subst N;exact⟨rfl,rfl,rfl,rfl,by show Seq _ _ o 1 ay (az l l.length);rw[<-E];exact G,bt.nil _ _ _ _,Z,qM _⟩
  have V:cellOf h6 (z.add 6)=some (wJ o.ptr o.len o.cap):=by
   have:=(g.box 1 rfl).cell (j:=6) (v:=wJ o.ptr o.len o.cap) (by rw[W];rfl);exact this
  refine⟨o,V,?_⟩;refine aB (fun i:Nat=>(i:Int)) (fun i h'=>i<=P.length/\((P.take i).any fun i=>decide (l.getD i.toNat 0<((aX m).length:Int)))=false/\Sp h h' [ao a2 al (aE gR),ao z al (aE x),au aL o 1 ay P]) (fun i=>P.length-i) 0 rfl ⟨by omega,by simp,g⟩ ?_;rintro i h7 ⟨hi,d,w⟩;dsimp only at*;refine af (fun e5=>?_) (fun e5=>?_)
  ·have c:i<P.length:=by omega
   obtain⟨n,hn,U,a0⟩:∃n:Nat,n<l.length/\P[i]=(n:Int)/\0<l.getD n 0:=by subst E;exact kj l l.length i c
   refine(w.seq 2 rfl fun _=>rfl).cd i rfl c (n:Int) (by rw[U];rfl) ?_;refine(Seq.up S w.ai).wl n rfl hn (l.getD n 0) (by rw[getD_lt hn];rfl) fun a6 K=>?_;refine⟨x,(w.box 1 rfl).aO _ rfl,(np x m h7 (I (w.seq 2 rfl fun _=>rfl) (w.own 2 rfl).cap) hz).mono ?_⟩;rintro _ h9 ⟨u,rfl,R9⟩;have H:=w.dO R9;have a7:=(aa.oR H).1;refine⟨u,rfl,gV R9.ai ⟨K,trivial⟩,?_⟩;refine af (fun e6=>f 7 H.mJ ?_ (by decide)) (fun e6=>?_)
   ·unfold cZ;rw[if_pos J,<-E,<-N,if_pos (List.any_eq_true.2 ⟨P[i],qt c,by rw[U,qm];exact decide_eq_true (by omega)⟩)]
   ·refine⟨i+1,by rw[Go.Vc.wrap_small _ (by omega) (by omega)];rfl,⟨by omega,?_,H.mJ⟩,by omega⟩;rw[aD _ _ c,List.any_append,d,Bool.false_or,List.any_cons,List.any_nil,wG,U,qm];exact decide_eq_false (by omega)
  ·have Y:i=P.length:=by omega
   subst Y;rw[qK]at d;refine⟨x,(w.box 1 rfl).aO _ rfl,?_⟩;refine w.storeAll ae 0 rfl rfl (aE x) rfl rfl rfl rfl fun h8 O=>?_;have h0:cZ p a l=0:=by unfold cZ;rw[if_pos J,<-E,<-N,d];rfl
   refine⟨x,(O.box 0 rfl).aO _ rfl,x,by rw[h0],fun A=>absurd h0 A,fun _=>?_⟩;rw[<-N];have H:Sp h h8 [au aL o 1 ay P]:=O.cH [2];exact H.io 0 rfl fun q G=>I (G.1.seq (fun _=>rfl) G.2) G.1.cap
section
theorem un(x:bn)(pw:Addr)(a:Int):aj wS (zy bW #[(0,cE x),(1,wK (some pw)),(2,wI wO a)]) (wN (bh (aE x) pw a (qd 64 none)).toArray):=
 fF ae (i:=_) rfl rfl rfl (vs:=[(0,cE x),(1,wK (some pw)),(2,wI wO a)]) (cells:=(bh (aE x) pw a (qd 64 none)).toArray) (by kernel_rfl)
variable {B:am} {h0 h:Heap} {As:List HP} {a pw b:Addr} {x:bn} {offs:Int} {da:List (Option Addr)} {w:Pow} {ds:aY} {d:aU}
theorem aa.vp(n:Nat)(f:n<64)(g:ds[n]?=some none)(H:aa B h0 h (aI bZ a pw (aE x) offs da w ds::fj pw b d::As)){K:Unit->Heap->Prop}
  (j:∀h',aa B h0 h' (aI bZ a pw (aE x) offs (da.set n (some b)) w (ds.set n (some d))::As)->K () h'):
  ab wS (qb gY (wK (some ((a.add 10).add n))) (wK (some b))) h K:=by
 obtain⟨ok,i⟩:=Go.Vc.aa.fp H;have e:(a.add 10).add n=a.add (10+n):=by unfold Addr.add;simp[z8]
 rw[e];refine i.storeAt ae 0 rfl rfl rfl rfl rfl (by simp[ok.la];omega) fun h' c=>j h' ?_;rw[List.set_cons_zero,pM ok.l8]at c;exact aa.tE ok f g c
theorem sC(p:Pm)(c:Int)(s:Sl)(l:List Int)(hS:St B h0 As fun h=>Rd h s 1 ay l)(hl:l.length<=2^20)(H:aa B h0 h (dg pw w::As)):
  ac wS iH #[kC p,wI wO c,wK (some pw),wJ s.ptr s.len s.cap] h fun v h'=>
   ((aC p c w l).1≠0->v=.tuple #[wK none,wI wO (aC p c w l).1]/\aa B h0 h' As)/\
   ((aC p c w l).1=0->∃(a:Addr) (x:bn) (da:List (Option Addr)),v=.tuple #[wK (some a),wI wO 0]/\aa B h0 h' (aI bZ a pw (aE x) w.offs da (aC p c w l).2.1 (aC p c w l).2.2::dG x (aR p c l)::As)):=by
 refine ip p c (some pw) s ?_;unfold eB;refine H.boxed fun a1 h1 K=>aN (fun e=>by cases e) fun _=>?_;have K:aa B h0 h1 (ao a1 aw [wI wO p.1,wI wO p.2.1,wI wO p.2.2]::dg pw w::As):=K.bv;refine⟨p,(K.box 0 rfl).aO _ rfl,(oG p c s l h1 (hS.at [_,_] K) hl).mono ?_⟩;rintro _ h2 ⟨x,rfl,Z,a3⟩;refine⟨(x,cZ p c l),rfl,?_⟩;dsimp only;by_cases r:cZ p c l=0
 case neg=>
  have ef:aC p c w l=(cZ p c l,w,[]):=by rw[lj,if_neg r]
  rw[ef];have H2:=K.up (Z r).ai;refine H2.alloc ae rfl fun a4 h3 H3=>?_;refine H3.bv.storeAll ae 0 rfl rfl (aE x) rfl rfl rfl rfl fun h4 G=>?_;exact bq (fun _=>⟨fun _=>⟨rfl,G.rest.rest.rest⟩,fun h=>absurd h r⟩) fun e=>absurd e r
 have Z:=a3 r;obtain⟨em,b7,cs,ep,L⟩:=oF r;obtain⟨b5,o,J⟩:=li ep;have E:aC p c w l=layAll (aQ (aR p c l) (az l l.length)) w (bQ l (az l l.length).length):=by rw[lj,if_pos r]
 have T:=tb p c w l o L;rw[<-E]at T;obtain⟨m,V⟩:∃m,m=aR p c l:=⟨_,rfl⟩
 obtain⟨P,D⟩:∃P,P=az l l.length:=⟨_,rfl⟩
 have y:m.drives=P:=by rw[V,D];rfl
 rw[<-V,<-D]at E;rw[<-V]at Z;have hz:co m:=V▸iM p c l o;have b6:P.length<=64:=by rw[D];exact zw (dH _ _) o
 have H2:aa B h0 h2 (dG x m::dg pw w::As):=(K.mJ).dO Z;refine H2.alloc ae rfl fun a4 h3 H3=>?_;refine H3.bv.storeAll ae 0 rfl rfl (aE x) rfl rfl rfl rfl fun h4 G=>?_;have G:aa B h0 h4 (ao a4 al (aE x)::dG x m::dg pw w::As):=G;refine bq (fun e=>absurd r e) fun _=>?_;obtain⟨lw,ch,a5⟩:=(G.aV 3 [2,1,0]).eJ;have a2:=G.box 0 rfl;refine⟨x,a2.aO _ rfl,pw,rfl,w.offs,(a5.box 0 rfl).cell rfl,_,un x pw w.offs,?_⟩;refine G.boxed fun a9 h5 q=>?_;have F:(Value.agg (bh (aE x) pw w.offs (qd 64 none)).toArray).cells.toList=bh (aE x) pw w.offs (qd 64 none):=by simp[Value.cells]
 rw[F]at q;have q:aa B h0 h5 (ao a9 bW (bh (aE x) pw w.offs (qd 64 none))::ao a4 al (aE x)::dG x m::dg pw w::As):=q.bv;have d:=q.box 1 rfl;obtain⟨cp,b0,ad⟩:=(q.aV 4 [3,0,1,2]).eJ;refine⟨⟨(ad.box 0 rfl).cell rfl,d.cell0 rfl,d.cell rfl,d.cell rfl,d.cell rfl,d.cell rfl,d.cell rfl,d.cell rfl,d.cell rfl,trivial⟩,?_⟩;have q:=aa.pL (k:=bZ) (h8:=by simp) (q.aV 4 [0,3,1,2]);refine⟨x.2.2.2.2.2.2.1,d.cell rfl,?_⟩;have N:∀i (hi:i<P.length),∃n:Nat,n<l.length/\P[i]=(n:Int)/\0<l.getD n 0:=by
  subst D;exact fun i hi=>kj l l.length i hi
 rw[<-mA l]at q;have U:∀{h':Heap} {X Y:HP} {Bs:List HP},aa B h0 h' (X::Y::dG x m::Bs)->cK h' x m:=fun{h' X Y Bs} H'=>H'.at 2 rfl;have a0:=(U q).drives.len;rw[y]at a0;refine aB (fun t:Nat×List (Option Addr)=>(t.1:Int)) (fun t h'=>t.1<=P.length/\aa B h0 h' (aI bZ a9 pw (aE x) w.offs t.2 w (bQ l t.1)::ao a4 al (aE x)::dG x m::As)) (fun t=>P.length-t.1) (0,qd 64 none) rfl ⟨by simp,q⟩ ?_;rintro⟨i,da⟩ a6 ⟨hi,g⟩;dsimp only at*;obtain⟨cc,b1⟩:=aa.eG g;have R:=U g;have u:=R.drives;rw[y]at u;refine af (fun e6=>?_) (fun e6=>?_)
 ·have z:i<P.length:=by omega
  obtain⟨n,hn,S,br⟩:=N i z;have b2:=J n;refine Seq.cd (f:=ay) u i rfl z (n:Int) (by rw[S];rfl) ?_;refine(hS.at [_,_,_] g).cd n rfl hn (l.getD n 0) (by rw[getD_lt hn];rfl) ?_;refine⟨a9,rfl,(sX (l.getD n 0) pw a6).mono ?_⟩;rintro _ b4 ⟨Q1,_⟩;obtain⟨b,rfl,a8⟩:=Q1 (by omega);have bd:=(g.dO a8).aV 4 [1,0,2,3];refine⟨_,rfl,trivial,⟨by omega,by omega⟩,?_⟩;rw[qm,za];have O:i<(az l l.length).length:=by rw[<-D];exact z
  have M:(az l l.length)[i]=(n:Int):=by rw[<-S];simp only[D]
  refine Go.Proofs.YtcamechmadjclaaGreatDoor.aa.vp n (by omega) (mD l i n O M (by omega)) bd fun b9 bb=>?_;refine⟨trivial,(i+1,da.set n (some b)),by dsimp only;rw[Go.Vc.wrap_small _ (by omega) (by omega)];rfl,⟨by dsimp only;omega,?_⟩,by dsimp only;omega⟩;dsimp only;rw[<-mB l i n O M (by omega)];exact bb
 ·have a7:i=P.length:=by omega
  subst a7;refine⟨x,(g.box 1 rfl).aO _ rfl,x.2.2.2.2.2.2.1,(g.box 1 rfl).cell rfl,?_⟩;have Q:Has (bQ l P.length) P:=⟨nr _ _,fun s hs=>by
   obtain⟨j,hj,ej⟩:=List.getElem_of_mem hs;obtain⟨n,hn,S,_⟩:=N j hj;rw[<-ej,S];refine⟨aU.new (l.getD n 0).toNat,?_⟩;unfold gW bQ;rw[if_pos (by omega),qm,qE,zi (by omega),qQ,if_pos (by rw[<-D,qK,<-S];exact qt hj)];rfl⟩
  refine(tc (As:=ao a4 al (aE x)::dG x m::As) x m x.2.2.2.2.2.2.1 P (St.mono (St.mK (A:=dG x m) 1 rfl fun h' W=>W) fun h' W=>⟨W,by have:=fU.drives W;rw[y]at this;exact this⟩) hz (by omega) Q g).mono ?_;rintro _ b3 ⟨rfl,I⟩;rw[<-E]at I⊢;refine⟨_,rfl,bq (fun e7=>⟨fun _=>⟨?_,I.rest.rest.rest⟩,fun h=>absurd h e7⟩) fun e7=>⟨fun h=>absurd e7 h,fun _=>⟨a9,x,da,rfl,?_⟩⟩⟩
  ·rcases T with f|f
   ·exact absurd f e7
   ·rw[f]
  ·rw[<-V];exact I.fg
end
def sD(a b c:Int):Int×Int×Int:=(1+a%6,1+b%3,1+c%9)
theorem uo(a b c:Int)(h:Heap):ac wS jw #[wI wO a,wI wO b,wI wO c] h fun v h'=>v=kC (sD a b c)/\Sp h h' []:=by
 refine jc a b c ?_;unfold eW;refine(Sp.refl h).alloc ae rfl fun x g f=>?_;refine(cm a 6 g (by decide) (by decide)).mono ?_;rintro v e ⟨rfl,rfl⟩;refine⟨_,rfl,(cm b 3 e (by decide) (by decide)).mono ?_⟩;rintro v i ⟨rfl,rfl⟩;refine⟨_,rfl,(cm c 9 i (by decide) (by decide)).mono ?_⟩;rintro v k ⟨rfl,rfl⟩;refine⟨_,rfl,?_⟩;dsimp only;rw[wrap_small _ (by omega) (by omega),wrap_small _ (by omega) (by omega),wrap_small _ (by omega) (by omega)];refine f.storeAll ae 0 rfl rfl [wI wO (1+a%6),wI wO (1+b%3),wI wO (1+c%9)] rfl rfl rfl rfl fun j d=>?_;exact⟨sD a b c,(d.box 0 rfl).aO _ rfl,rfl,.zip d.ai⟩
end Go.Proofs.YtcamechmadjclaaGreatDoor
namespace Go.Vc
open Go Wl Go.Proofs.YtcamechmadjclaaGreatDoor
def gJ(l:List Int)(k:Nat):Int:=l.getD k 0
def bM(l:List Int):Pm:=sD (gJ l 0) (gJ l 1) (gJ l 2)
def jt(l:List Int):Nat:=(2+gJ l 4%4).toNat
def cR(l:List Int):List Int:=(zf (jt l)).map fun i=>8+gJ l (5+i)%50
def xP(l:List Int):Int:=gJ l 3%7
theorem tF(l:List Int):2<=jt l/\jt l<=5:=by unfold jt;omega
theorem sE(l:List Int):(cR l).length=jt l:=by simp[cR]
end Go.Vc
namespace Go.Proofs.YtcamechmadjclaaGreatDoor
open Go Go.Vc Go.Proofs Wl
section
variable {B:am} {h0 h:Heap} {As:List HP} {a pw:Addr} {offs:Int} {da:List (Option Addr)} {w:Pow} {ds:aY}
theorem gK(s:Sl)(l:List Int)(k:Nat)(h:Heap)(a:Rd h s 1 ay l):ac wS kw #[wJ s.ptr s.len s.cap,wI wO k] h fun v h'=>v=wI wO (gJ l k)/\h'=h:=by
 refine jZ s k ?_;unfold fK gJ;have c:=a.len;refine af (fun e=>?_) (fun e=>⟨?_,rfl⟩)
 ·have b:k<l.length:=by omega
  refine a.cd k rfl b (l.getD k 0) (by rw[getD_lt b];rfl) ⟨rfl,rfl⟩
 ·rw[qj,qO (by omega)];rfl
theorem tf(s:Sl)(l:List Int)(h:Heap)(q:Rd h s 1 ay l):ac wS iZ #[wJ s.ptr s.len s.cap] h fun v h'=>∃r:Sl,v=.tuple #[kC (bM l),wI wO (xP l),wJ r.ptr r.len r.cap]/\Sp h h' [au aL r 1 ay (cR l)]:=by
 refine iF s ?_;unfold eL;refine(Sp.refl h).alloc ae rfl fun p D u=>?_;have a:=q.up u.ai;refine(gK s l 0 D a).mono ?_;rintro _ _ ⟨rfl,rfl⟩;refine⟨_,rfl,(gK s l 1 _ a).mono ?_⟩;rintro _ _ ⟨rfl,rfl⟩;refine⟨_,rfl,(gK s l 2 _ a).mono ?_⟩;rintro _ M ⟨rfl,rfl⟩;refine⟨_,rfl,(uo _ _ _ M).mono ?_⟩;rintro _ N ⟨rfl,K⟩;have x:=u.up K.ai;refine⟨bM l,rfl,?_⟩;refine x.alloc ae rfl fun c P y=>?_;refine y.storeAll ae 1 rfl rfl [wI wO (bM l).1,wI wO (bM l).2.1,wI wO (bM l).2.2] rfl rfl rfl rfl fun A k=>?_;have k:Sp h A [au aL ⟨none,0,0⟩ 1 ay ((cR l).take 0),ao c aw [wI wO (bM l).1,wI wO (bM l).2.1,wI wO (bM l).2.2],ao p aw [wI wO 0,wI wO 0,wI wO 0]]:=(k.nil aL 1 ay).cH [2,1,0];have O:=tF l;have E:=sE l;refine aB (fun t:Sl×Nat=>(t.1,(t.2:Int))) (fun t h'=>t.2<=jt l/\Sp h h' [au aL t.1 1 ay ((cR l).take t.2),ao c aw [wI wO (bM l).1,wI wO (bM l).2.1,wI wO (bM l).2.2],ao p aw [wI wO 0,wI wO 0,wI wO 0]]) (fun t=>jt l-t.2) (⟨none,0,0⟩,0) rfl ⟨by simp,k⟩ ?_;rintro⟨o,i⟩ h8 ⟨Q,d⟩;dsimp only at*;have b:=q.up d.ai;refine(gK s l 4 h8 b).mono ?_;rintro _ _ ⟨rfl,rfl⟩;refine⟨_,rfl,(cm _ 4 _ (by decide) (by decide)).mono ?_⟩;rintro _ h8 ⟨rfl,rfl⟩;refine⟨_,rfl,?_⟩;have g:=d.box 1 rfl;dsimp only;rw[Go.Vc.wrap_small (2+gJ l 4%4) (by omega) (by omega)];have j:2+gJ l 4%4=(jt l:Int):=by unfold jt;omega
 rw[j];refine af (fun e=>?_) (fun e=>?_)
 ·have I:i<jt l:=by omega
  rw[Go.Vc.wrap_small ((5:Int)+i) (by omega) (by omega)];have G:(5:Int)+i=((5+i:Nat):Int):=by omega
  rw[G];refine(gK s l (5+i) h8 b).mono ?_;rintro _ _ ⟨rfl,rfl⟩;refine⟨_,rfl,(cm _ 50 _ (by decide) (by decide)).mono ?_⟩;rintro _ L ⟨rfl,rfl⟩;refine⟨_,rfl,?_⟩;dsimp only;rw[Go.Vc.wrap_small (8+gJ l (5+i)%50) (by omega) (by omega)];refine d.push ae 0 rfl jp rfl (by decide) (fun _=>rfl) gq (8+gJ l (5+i)%50) rfl (by decide) (by simp;omega) fun F H n=>?_;refine⟨(F,i+1),by dsimp only;rw[Go.Vc.wrap_small _ (by omega) (by omega)];rfl,⟨by dsimp only;omega,?_⟩,by dsimp only;omega⟩;dsimp only;rw[aD _ _ (show i<(cR l).length by omega)];have B:(cR l)[i]'(by omega)=8+gJ l (5+i)%50:=by simp[cR]
  rw[B];exact n
 ·have m:i=jt l:=by omega
  subst m;rw[qi (by omega)]at d;have w:an.ok [(c,(wI wO (bM l).1)),(c.add 1,(wI wO (bM l).2.1)),(c.add 2,(wI wO (bM l).2.2))] h8:=⟨g.cell0 rfl,g.cell rfl,g.cell rfl,trivial⟩
  refine⟨bM l,g.aO _ rfl,(gK s l 3 h8 b).mono ?_⟩;rintro _ _ ⟨rfl,rfl⟩;refine⟨_,rfl,w,(cm _ 7 _ (by decide) (by decide)).mono ?_⟩;rintro _ J ⟨rfl,rfl⟩;refine⟨_,rfl,w,?_⟩;refine d.storeAll ae 2 rfl rfl [wI wO (bM l).1,wI wO (bM l).2.1,wI wO (bM l).2.2] rfl rfl rfl rfl fun z f=>⟨trivial,?_⟩
  exact⟨bM l,(f.box 2 rfl).aO _ rfl,o,rfl,f.cH [0]⟩
theorem vV:(aC (1,1,1) 0 Pow.new [5]).1=0:=by decide+kernel
end
section
variable {B:am} {h0 h:Heap} {As:List HP} {a pw:Addr} {offs:Int} {da:List (Option Addr)} {w:Pow} {ds:aY}
theorem ra(x:bn)(m:ba)(d:cK h x m)(f:m.objs=[])(H:aa B h0 h (aI bU a pw (aE x) offs da w ds::As)):
  ac wS lL #[wK (some a)] h fun v h'=>v=wJ none 0 0/\h'=h:=by
 refine kX (some a) ?_;unfold ic;obtain⟨ok,c⟩:=aa.dc H;refine(lM (some a) (R:=fun v h'=>v=wM (gP w offs)/\h'=h) ?_).mono ?_
 ·unfold iB;refine aN (fun e=>by cases e) fun _=>(gI H).mono ?_;rintro _ _ ⟨rfl,rfl⟩;exact⟨_,rfl,rfl,rfl⟩
 rintro _ _ ⟨rfl,rfl⟩;refine⟨_,rfl,aN (fun _=>⟨rfl,rfl⟩) fun _=>⟨a,rfl,x.2.2.2.2.2.2.2,c.cell rfl,?_⟩⟩;have b:=bt.len d.objs;rw[f]at b;refine aB (fun _:Unit=>((⟨none,0,0⟩:Sl),(0:Int))) (fun _ h'=>h'=_) (fun _=>0) () rfl rfl ?_;rintro _ g rfl;exact af (fun e=>absurd e (by rw[b];decide)) fun _=>⟨rfl,rfl⟩
end
section
variable {B:am} {h0 h h':Heap} {As:List HP} {a:Addr} {w:Pow}
end
abbrev dS(p s:Option Addr):List Value:=.pointer p::.pointer s::qd 64 (wK none)
abbrev vW:=Int×Sl×Sl×Int×Int×Int×Sl×Int
abbrev kl(y:vW):List Value:=[wI wO y.1,wJ y.2.1.ptr y.2.1.len y.2.1.cap,wJ y.2.2.1.ptr y.2.2.1.len y.2.2.1.cap,wI wO y.2.2.2.1,wI wO y.2.2.2.2.1,wI wO y.2.2.2.2.2.1,wJ y.2.2.2.2.2.2.1.ptr y.2.2.2.2.2.2.1.len y.2.2.2.2.2.2.1.cap,wI wO y.2.2.2.2.2.2.2]
abbrev uq(y:vW):Value:=wN (kl y).toArray
abbrev nJ:Sl:=⟨none,0,0⟩
abbrev cS(e:Int):vW:=(e,nJ,nJ,0,0,0,nJ,0)
abbrev tG(k:Int):List Value:=[wI wO k,wL mm,wJ none 0 0,wI wO 0,wI wO 0,wI wO 0,wI wQ 0,wJ none 0 0,wJ none 0 0]
abbrev wX(k:Int):Value:=wN (tG k).toArray
abbrev vq(k:Int):Int×ByteArray×Sl×Int×Int×Int×Int×Sl×Sl:=(k,mm,nJ,0,0,0,0,nJ,nJ)
section
variable {B:am} {h0 h:Heap} {As:List HP} {a pw a2 pw2 b b2:Addr} {offs:Int} {da da2:List (Option Addr)} {w:Pow} {ds:aY} {mc:List Value}
theorem vr(pw s:Addr):aj wS (zy bA #[(0,wK (some pw)),(1,wK (some s))]) (wN (dS (some pw) (some s)).toArray):=
 fF ae (i:=_) rfl rfl rfl (vs:=[(0,wK (some pw)),(1,wK (some s))]) (cells:=(dS (some pw) (some s)).toArray) (by kernel_rfl)
theorem ur(s pw:Addr):aj wS (zy ck #[(0,wK (some s)),(1,wK (some pw))]) (wN (dS (some s) (some pw)).toArray):=
 fF ae (i:=_) rfl rfl rfl (vs:=[(0,wK (some s)),(1,wK (some pw))]) (cells:=(dS (some s) (some pw)).toArray) (by kernel_rfl)
theorem pN(p:Pm)(c:Int)(s:Sl)(l:List Int)(r:St B h0 As fun h=>Rd h s 1 ay l)(o:l.length<=2^20)(H:aa B h0 h As):
  ac wS oU #[kC p,wI wO c,wJ s.ptr s.len s.cap] h fun v h'=>
   ((aC p c Pow.new l).1≠0->v=.tuple #[wK none,wI wO (aC p c Pow.new l).1]/\aa B h0 h' As)/\
   ((aC p c Pow.new l).1=0->∃(b a pw:Addr) (x:bn) (da:List (Option Addr)),v=.tuple #[wK (some b),wI wO 0]/\
    aa B h0 h' (ao b bA (dS (some pw) (some a))::aI bU a pw (aE x) Pow.new.offs da (aC p c Pow.new l).2.1 (aC p c Pow.new l).2.2::dG x (aR p c l)::As)):=by
 refine nZ p c s ?_;unfold lr;refine H.boxed fun k m g=>?_;have g:aa B h0 m (ao k aw [wI wO p.1,wI wO p.2.1,wI wO p.2.2]::As):=g.bv;refine(uR m).mono ?_;rintro _ y ⟨pw,rfl,q⟩;have j:=g.dO q;refine⟨_,rfl,p,(j.box 1 rfl).aO _ rfl,?_⟩;refine(te p c s l (r.cons) o j).mono ?_;rintro _ w ⟨t,n⟩;by_cases d:(aC p c Pow.new l).1=0
 ·obtain⟨a,x,da,rfl,f⟩:=n d;refine⟨(some a,0),rfl,bq (fun e=>absurd rfl e) fun _=>⟨_,vr pw a,f.boxed fun b u i=>?_⟩⟩;have i:aa B h0 u (ao b bA (dS (some pw) (some a))::aI bU a pw (aE x) Pow.new.offs da (aC p c Pow.new l).2.1 (aC p c Pow.new l).2.2::dG x (aR p c l)::ao k aw [wI wO p.1,wI wO p.2.1,wI wO p.2.2]::As):=i.bv;exact⟨fun e=>absurd d e,fun _=>⟨b,a,pw,x,da,rfl,i.aV 4 [0,1,2]⟩⟩
 ·obtain⟨rfl,f⟩:=t d;refine⟨(none,(aC p c Pow.new l).1),rfl,bq (fun _=>⟨fun _=>⟨rfl,f.rest⟩,fun e=>absurd e d⟩) fun e=>absurd e d⟩
theorem oH(p:Pm)(c:Int)(s:Sl)(l:List Int)(r:St B h0 As fun h=>Rd h s 1 ay l)(q:l.length<=2^20)(H:aa B h0 h As):
  ac wS jY #[kC p,wI wO c,wJ s.ptr s.len s.cap] h fun v h'=>
   ((aC p c Pow.new l).1≠0->v=.tuple #[wK none,wI wO (aC p c Pow.new l).1]/\aa B h0 h' As)/\
   ((aC p c Pow.new l).1=0->∃(b a pw:Addr) (x:bn) (da:List (Option Addr)),v=.tuple #[wK (some b),wI wO 0]/\
    aa B h0 h' (ao b ck (dS (some a) (some pw))::aI bZ a pw (aE x) Pow.new.offs da (aC p c Pow.new l).2.1 (aC p c Pow.new l).2.2::dG x (aR p c l)::As)):=by
 refine ju p c s ?_;unfold fv;refine H.boxed fun i o j=>?_;have j:aa B h0 o (ao i aw [wI wO p.1,wI wO p.2.1,wI wO p.2.2]::As):=j.bv;refine j.boxed fun pw u f=>?_;have f:aa B h0 u (dg pw Pow.new::ao i aw [wI wO p.1,wI wO p.2.1,wI wO p.2.2]::As):=aa.gE (l:=0) (w:=Pow.new) (fun k e=>by cases e) f.bv;refine⟨p,(f.box 1 rfl).aO _ rfl,?_⟩;refine(sC p c s l (r.cons) q f).mono ?_;rintro _ z ⟨t,n⟩;by_cases d:(aC p c Pow.new l).1=0
 ·obtain⟨a,x,da,rfl,g⟩:=n d;refine⟨(some a,0),rfl,bq (fun e=>absurd rfl e) fun _=>⟨_,ur a pw,g.boxed fun b y m=>?_⟩⟩;have m:aa B h0 y (ao b ck (dS (some a) (some pw))::aI bZ a pw (aE x) Pow.new.offs da (aC p c Pow.new l).2.1 (aC p c Pow.new l).2.2::dG x (aR p c l)::ao i aw [wI wO p.1,wI wO p.2.1,wI wO p.2.2]::As):=m.bv;exact⟨fun e=>absurd d e,fun _=>⟨b,a,pw,x,da,rfl,m.aV 4 [0,1,2]⟩⟩
 ·obtain⟨rfl,g⟩:=t d;refine⟨(none,(aC p c Pow.new l).1),rfl,bq (fun _=>⟨fun _=>⟨rfl,g.rest⟩,fun e=>absurd e d⟩) fun e=>absurd e d⟩
theorem tg{p:Option Addr}(c:bE h b bA (dS p (some a))):ac wS ez #[wK (some b)] h fun v h'=>v=wK (some a)/\h'=h:=by
 refine eh (some b) ?_;unfold cX;exact aN (fun e=>by cases e) fun _=>⟨b,rfl,some a,c.cell rfl,rfl,rfl⟩
theorem pm(h:Heap):ac wS ez #[wK none] h fun v h'=>v=wK none/\h'=h:=by
 refine eh none ?_;unfold cX;exact aN (fun _=>⟨rfl,rfl⟩) fun e=>by cases e
theorem km{p:Option Addr}(k:Int)(c:bE h b bA (dS p (some a)))(ok:cf mc da ds)(f:bE h a db (bh mc pw offs da)):ac wS eA #[wK (some b),wI wO k] h fun v h'=>v=.pointer (dl da k)/\h'=h:=by
 refine ei (some b) k ?_;unfold cY;have d:¬(0<=k/\k<64)->Value.pointer none=.pointer (dl da k)/\h=h:=fun e=>by unfold dl;rw[if_neg e];exact⟨rfl,rfl⟩
 refine aG (aG (aN (fun e=>by cases e) fun _=>af (fun e=>aN (fun _=>d (by omega)) fun e=>by cases e) fun g=>?_));refine aN (fun e=>d (by have:=of_decide_eq_true e;omega)) fun e=>?_;refine⟨b,rfl,some a,c.cell rfl,aN (fun _=>⟨b,rfl,some a,c.cell rfl,(dn k ok f).mono ?_⟩) fun e=>by cases e⟩;rintro _ _ ⟨rfl,rfl⟩;exact⟨_,rfl,rfl,rfl⟩
theorem pn(k:Int)(h:Heap):ac wS eA #[wK none,wI wO k] h fun v h'=>v=wK none/\h'=h:=by
 refine ei none k ?_;unfold cY;exact aG (aG (aN (fun _=>aN (fun _=>⟨rfl,rfl⟩) fun e=>by cases e) fun e=>by cases e))
theorem ut(k:Int)(h:Heap):ac wS dy #[wK none,wX k] h fun v h'=>v=uq (cS 14)/\Sp h h' []:=by
 refine dj none (vq k) ?_;unfold cD;refine(Sp.refl h).boxed fun i f b=>b.alloc ae rfl fun a2 d c=>aN (fun _=>?_) fun e=>by cases e
 refine c.storeAll ae 1 rfl rfl (kl (cS 14)) rfl rfl rfl rfl fun g a=>?_;exact⟨cS 14,(a.box 1 rfl).aO _ rfl,rfl,.zip a.ai⟩
theorem th(b:Addr)(h:Heap):ac wS dy #[wK (some b),wX 0] h fun v h'=>v=uq (cS 1)/\Sp h h' []:=by
 refine dj (some b) (vq 0) ?_;unfold cD;refine(Sp.refl h).boxed fun f k i=>i.alloc ae rfl fun a2 g c=>aN (fun e=>by cases e) fun _=>aG ?_;have c:Sp h g [ao f fI (tG 0),ao a2 ey (kl (cS 0))]:=c;refine⟨0,(c.box 0 rfl).cell0 rfl,aG ?_⟩;refine bp (fun e=>absurd e (by decide)) fun _=>bp (fun e=>absurd e (by decide)) fun _=>bp (fun e=>absurd e (by decide)) fun _=>bp (fun e=>absurd e (by decide)) fun _=>?_;refine aN (fun e=>by cases e) fun _=>?_;refine bp (fun e=>absurd e (by decide)) fun _=>bp (fun e=>absurd e (by decide)) fun _=>bp (fun e=>absurd e (by decide)) fun _=>bp (fun e=>absurd e (by decide)) fun _=>?_;refine bp (fun e=>absurd e (by decide)) fun _=>bp (fun e=>absurd e (by decide)) fun _=>bp (fun e=>absurd e (by decide)) fun _=>bp (fun e=>absurd e (by decide)) fun _=>?_;refine c.md ae 1 rfl rfl [wI wO 1] rfl rfl rfl (by decide) fun j a=>?_;have a:Sp h j [ao f fI (tG 0),ao a2 ey (kl (cS 1))]:=a;refine⟨cS 1,(a.box 1 rfl).aO _ rfl,a.storeAll ae 1 rfl rfl (kl (cS 1)) rfl rfl rfl rfl fun l d=>?_⟩;exact⟨cS 1,(d.box 1 rfl).aO _ rfl,rfl,.zip d.ai⟩
theorem rc{p:Option Addr}(x:bn)(m:ba)(n:m.objs=[])(o:gP w offs=false)(c:bE h b bA (dS p (some a)))(s:cK h x m)(H:aa B h0 h (aI bU a pw (aE x) offs da w ds::As)):
  ac wS jy #[wK (some b),wX 4] h fun v h'=>v=uq (cS 0)/\Sp h h' []:=by
 refine je (some b) (vq 4) ?_;unfold eY;refine(Sp.refl h).boxed fun k u q=>q.alloc ae rfl fun a2 t f=>aG ?_;have f:Sp h t [ao k fI (tG 4),ao a2 ey (kl (cS 0))]:=f;refine⟨4,(f.box 0 rfl).cell0 rfl,?_⟩;refine bp (fun e=>absurd e (by decide)) fun _=>bp (fun e=>absurd e (by decide)) fun _=>bp (fun e=>absurd e (by decide)) fun _=>bp (fun _=>?_) fun e=>absurd rfl e;have j:=f.ai;have i:=c.ai j c.lt;refine⟨b,rfl,some a,i.cell rfl,(ra x m (s.up j) n (aa.up H j)).mono ?_⟩;rintro _ _ ⟨rfl,rfl⟩;refine⟨nJ,rfl,?_⟩;refine f.store ae 1 rfl rfl 2 [wJ none 0 0] rfl rfl rfl (by decide) fun r d=>?_;have d:Sp h r [ao k fI (tG 4),ao a2 ey (kl (cS 0))]:=d;have g:=c.ai d.ai c.lt;refine⟨b,rfl,some a,g.cell rfl,aN (fun e=>by cases e) fun _=>⟨b,rfl,some a,g.cell rfl,(gI (aa.up H d.ai)).mono ?_⟩⟩;rintro _ _ ⟨rfl,rfl⟩;refine⟨_,rfl,aN (fun e=>by rw[o]at e;cases e) fun _=>?_⟩;refine⟨cS 0,(d.box 1 rfl).aO _ rfl,d.storeAll ae 1 rfl rfl (kl (cS 0)) rfl rfl rfl rfl fun y l=>?_⟩;exact⟨cS 0,(l.box 1 rfl).aO _ rfl,rfl,.zip l.ai⟩
theorem tj{p:Option Addr}(x:bn)(m:ba)(i:m.objs=[])(l:gP w offs=false)(d:bE h b bA (dS p (some a)))(o:cK h x m)(H:aa B h0 h (aI bU a pw (aE x) offs da w ds::As)):
  ac wS dy #[wK (some b),wX 4] h fun v h'=>v=uq (cS 0)/\Sp h h' []:=by
 refine dj (some b) (vq 4) ?_;unfold cD;refine(Sp.refl h).boxed fun j r n=>n.alloc ae rfl fun a2 q c=>aN (fun e=>by cases e) fun _=>aG ?_;have c:Sp h q [ao j fI (tG 4),ao a2 ey (kl (cS 0))]:=c;refine⟨4,(c.box 0 rfl).cell0 rfl,aG ?_⟩;refine bp (fun e=>absurd e (by decide)) fun _=>bp (fun e=>absurd e (by decide)) fun _=>bp (fun e=>absurd e (by decide)) fun _=>bp (fun _=>?_) fun e=>absurd rfl e;refine aN (fun _=>?_) fun e=>by cases e
 have f:=c.ai;refine⟨vq 4,(c.box 0 rfl).aO _ rfl,(rc x m i l (d.ai f d.lt) (o.up f) (aa.up H f)).mono ?_⟩;rintro _ s ⟨rfl,k⟩;refine⟨cS 0,rfl,?_⟩;refine(aa.up c k.ai).storeAll ae 1 rfl rfl (kl (cS 0)) rfl rfl rfl rfl fun t g=>?_;exact⟨cS 0,(g.box 1 rfl).aO _ rfl,rfl,.zip g.ai⟩
theorem uu:gP (aC (1,1,1) 0 Pow.new [5]).2.1 Pow.new.offs=false:=by decide+kernel
theorem mE(h:Heap):ac wS iY #[] h fun v h'=>v=wM true/\Sp h h' []:=by
 refine iE ?_;unfold eK;refine(Sp.refl h).lit ae ay jp rfl [5] rfl (show 1*1<=2^20 by decide) rfl fun d n j=>?_;refine(pN (1,1,1) 0 d [5] (As:=[au aL d 1 ay [5]]) (St.mK 0 rfl fun h' f=>f.1.seq (fun _=>rfl) f.2) (by decide) j).mono ?_;rintro _ m ⟨_,Q⟩;obtain⟨b,a,pw,x,da,rfl,c⟩:=Q vV;have k:cK m x (aR (1,1,1) 0 [5]):=c.at 2 rfl;refine⟨(some b,0),rfl,bp (fun _=>aN (fun _=>?_) fun e=>by cases e) fun e=>absurd rfl e⟩;refine(tj x _ rfl uu (c.box 0 rfl) k (c.rest)).mono ?_;rintro _ l ⟨rfl,i⟩;refine⟨cS 0,rfl,bp (fun _=>?_) fun e=>absurd rfl e⟩;refine(th b l).mono ?_;rintro _ o ⟨rfl,g⟩;exact⟨cS 1,rfl,rfl,.zip (aa.up (aa.up c i.ai) g.ai).ai⟩
theorem tk(x x2:bn)(m:ba)(V:cK h x m)(A:cK h x2 m)(Y:co m)(J:∀y∈m.drives,0<=y/\y<64){p:Option Addr}{q:Option Addr}(L:bE h b bA (dS p (some a)))(j:bE h b2 ck (dS (some a2) q))
  (H:aa B h0 h (aI bU a pw (aE x) offs da w ds::aI bZ a2 pw2 (aE x2) offs da2 w ds::As)):
  ac wS jv #[wK (some b),wK (some b2)] h fun v h'=>v=wM true/\Sp h h' []:=by
 refine ja (some b) (some b2) ?_;unfold eV;have O:=H.uF;obtain⟨ok,P⟩:=aa.dc H;obtain⟨u,r⟩:=aa.eG O;refine dN (fun _ h'=>Sp h h' []) ?_ ?_
 ·refine⟨b2,rfl,some a2,j.cell0 rfl,(tg L).mono ?_⟩;rintro _ _ ⟨rfl,rfl⟩;refine⟨_,rfl,⟨j.cell0 rfl,trivial⟩,(td x x2 m V A Y J rfl H).mono ?_⟩;rintro _ h2 ⟨rfl,W⟩;exact⟨true,rfl,trivial,aK (fun e=>by cases e) fun _=>W⟩
 rintro _ X z;refine aB (fun i:Nat=>(i:Int)) (fun i h'=>i<=64/\Sp h h' []) (fun i=>64-i) 0 rfl ⟨by omega,z⟩ ?_;rintro i I ⟨hi,c⟩;have G:=L.ai c.ai L.lt;have o:=j.ai c.ai j.lt;have F:=P.ai c.ai P.lt;have D:=r.ai c.ai r.lt;refine af (fun e=>?_) (fun e=>?_)
 ·have t:i<64:=by omega
  have l:cellOf I ((b2.add 2).add (i*1))=some (wK none):=by
   rw[za];refine o.lA 2 i ?_;rw[show 2+i=i+1+1 by omega,qe,qe,wk,if_pos t]
  obtain⟨p,U,s⟩:=sz u D i t;refine⟨b2,rfl,⟨by omega,by omega⟩,none,by rw[qm];exact l,aG ⟨b2,rfl,some a2,o.cell0 rfl,aN (fun _=>?_) fun e=>by cases e⟩⟩;refine⟨b2,rfl,some a2,o.cell0 rfl,a2,rfl,⟨by omega,by omega⟩,p,by rw[qm];exact U,(km (i:Int) G ok F).mono ?_⟩;rintro _ _ ⟨rfl,rfl⟩;refine⟨_,rfl,?_⟩;have next:∀{h':Heap},Sp h h' []->∃E:Nat,qa wO ((i:Int)+1)=(E:Int)/\(E<=64/\Sp h h' [])/\64-E<64-i:=fun R=>⟨i+1,by rw[Go.Vc.wrap_small _ (by omega) (by omega)];rfl,⟨by omega,R⟩,by omega⟩
  have Z:=aa.up H c.ai;have K:=aa.up O c.ai;rcases dm ok (i:Int)with⟨c1,c2⟩|⟨n,d,bb,N,c1,c2,c3,c4,c5⟩
  ·rcases dm u (i:Int)with⟨g1,g2⟩|⟨n,d,bb,g0,g1,g2,g3,g4,g5⟩
   ·have:p=none:=by
     unfold dl at g2;rw[if_pos (by omega),qm,s]at g2;exact g2
    subst this;rw[c2];refine(kE _).mono ?_;rintro _ M ⟨rfl,k⟩;exact⟨true,rfl,aK (fun e=>by cases e) fun _=>next (aa.up c k.ai)⟩
   ·rw[c1]at g3;cases g3
  ·have N:i=n:=by omega
   subst N;rw[c5];obtain⟨b',g,Q⟩:=Go.Vc.aa.cL Z c2;rw[c4]at g;injection g with g
   injection g with g
   subst g;obtain⟨b3,f,S⟩:=Go.Vc.aa.cL K c2;rw[s]at f;injection f with f
   subst f;refine(nt Q S).mono ?_;rintro _ M ⟨rfl,k⟩;exact⟨true,rfl,aK (fun e=>by cases e) fun _=>next (aa.up c k.ai)⟩
 ·refine(km (-1) G ok F).mono ?_;rintro _ _ ⟨rfl,rfl⟩;have T:dl da (-1)=none:=by unfold dl;rw[if_neg (by decide)]
  rw[T];refine⟨_,rfl,aN (fun _=>?_) fun e=>by cases e⟩;refine(km 64 G ok F).mono ?_;rintro _ _ ⟨rfl,rfl⟩;have e2:dl da 64=none:=by unfold dl;rw[if_neg (by decide)]
  rw[e2];exact⟨_,rfl,rfl,c⟩
end
end Go.Proofs.YtcamechmadjclaaGreatDoor
