/- Part of the proofs that the laws of this seat answer true whatever the input reads, and leave it as it was; no condition. -/
import Derived.Test.YtdhamoojccmbdaaGreatDoorTabS
import Derived.Test.YtdhamoojccmbdaaGreatDoorPlA
import Derived.Test.YtdhamoojccmbdaaGreatDoorPlB
import Derived.Test.YtdhamoojccmbdaaGreatDoorShelfA
import Derived.Test.YtdhamoojccmbdaaGreatDoorPlC
import Derived.Test.YtdhamoojccmbdaaGreatDoorPlD
import Derived.Test.YtdhamoojccmbdaaGreatDoorPlE
import Derived.Test.YtdhamoojccmbdaaGreatDoorPlF
import Derived.Test.YtdhamoojccmbdaaGreatDoorPlG
set_option linter.unusedVariables false
set_option linter.unusedSimpArgs false
open Go.Proofs.Tryz renaming prog -> xl
open Go.Value renaming agg -> xg, bool -> xf, int -> vX, pointer -> vZ, slice -> vY, string -> xd
open Go.IntKind renaming bits -> qk, i64 -> xh, signed -> yO, u32 -> xj, u64 -> xk, u8 -> xi, wrap -> qc
open Option renaming isSome_iff_exists -> vj, map_some -> qN, some -> zL
open Int renaming emod_lt_of_pos -> wC, emod_nonneg -> yk, fdiv -> qT, fdiv_eq_ediv_of_nonneg -> y8, mul_le_mul -> wi, mul_nonneg -> y9, mul_pos -> vR, natCast_mul -> wh, ofNat_inj -> vT, tdiv -> wH, tmod -> zX, tmod_eq_emod_of_nonneg -> yx, tmod_lt_of_pos -> vn, toNat_natCast -> qo
open UInt8 renaming ofNat -> yq, ofNat_toNat -> yG, toNat_inj -> yl, toNat_lt -> wP, xor_comm -> vz, zero_xor -> wg
open List renaming all_append -> yD, all_cons -> vU, all_eq_false -> yh, all_eq_true -> qM, any_append -> yX, any_eq_true -> wm, append_assoc -> qp, append_nil -> qQ, cons_append -> zx, drop_drop -> zy, drop_eq_getElem_cons -> qW, drop_of_length_le -> zg, eq_nil_of_length_eq_zero -> qX, exists_cons_of_length_eq_add_one -> yi, ext_getElem? -> zK, filter_append -> zk, filter_cons -> zp, filter_nil -> yW, find?_eq_some_iff_append -> wL, findIdx_lt_length_of_exists -> yH, flatMap_append -> zc, flatMap_cons -> zl, flatMap_nil -> wj, foldl_append -> wM, foldl_cons -> zD, foldl_nil -> wQ, getD_eq_getElem?_getD -> qe, getElem?_append_left -> qn, getElem?_append_right -> qj, getElem?_cons_succ -> qy, getElem?_drop -> wB, getElem?_eq_getElem -> qd, getElem?_eq_none -> zf, getElem?_eq_some_iff -> qm, getElem?_map -> qP, getElem?_range -> zt, getElem?_replicate -> zY, getElem?_set -> q8, getElem?_set_ne -> z7, getElem?_set_self -> zA, getElem?_zipWith -> wO, getElem_append_left -> ya, getElem_drop -> zZ, getElem_map -> wo, getElem_mem -> qg, getElem_of_mem -> qG, getElem_set_self -> vC, getElem_take -> w5, getElem_zip -> yS, length -> y6, length_append -> qw, length_cons -> zb, length_drop -> q7, length_filter_le -> qY, length_map -> qx, length_mergeSort -> wx, length_nil -> ym, length_range -> zw, length_replicate -> yz, length_set -> zH, length_take -> qZ, map_append -> qS, map_cons -> zT, map_map -> wS, map_mergeSort -> vt, map_nil -> vA, mem_append -> qB, mem_cons -> za, mem_cons_of_mem -> qO, mem_cons_self -> qU, mem_filter -> qI, mem_flatMap -> zo, mem_map -> qu, mem_mergeSort -> yw, mem_of_getElem? -> ye, mem_range -> qF, mem_singleton -> qH, nil_append -> zW, pairwise_cons -> zN, range -> qC, range_succ -> zI, replicate -> qh, replicate_append_replicate -> yK, replicate_succ -> yL, set_append_right -> zh, set_cons_succ -> wD, set_cons_zero -> zB, take_append_drop -> qE, take_append_of_le_length -> yd, take_length -> qR, take_of_length_le -> qi, take_zero -> vO, zipWith -> zm
open Nat renaming add_assoc -> yp, add_sub_cancel_left -> zn, add_zero -> w9, le_refl -> ql, le_trans -> q9, lt_of_lt_of_le -> qV, lt_succ_iff_lt_or_eq -> zq, lt_trichotomy -> yg, min_eq_left -> w6, mod_eq_of_lt -> vb, mod_lt -> yJ, mul_le_mul -> we, mul_le_mul_right -> zr, mul_one -> wJ, sub_self -> zj, succ_mul -> zJ, zero_add -> zR, zero_le -> w7
open BitVec renaming ofInt -> qA, ofInt_natCast -> wU, ofNat -> vN
open Go.Instr renaming build -> vI, buildSlice -> qq, fill -> wu, storeAt -> qf
open Go.Builtin renaming append_ -> qt
open Bool renaming and_eq_true -> qz, eq_iff_iff -> yC, false_eq_true -> ze, false_or -> vi, not_false -> wY, not_true -> wW, or_eq_true -> wc, true_and -> zU
open Prod renaming ext -> yT, fst -> qJ, snd -> zC
set_option maxRecDepth 100000
namespace Go.Vc
open Go Wl
abbrev Cells:=List (List UInt8)
abbrev powC(w:Pow)(l:Int):List Value:=[xf w.off,xf w.fuse.isSome,vX xh l,vX xh w.offs]
def MY(w:Pow)(l:Int):Prop:=∀k,w.fuse=some k->l=k/\k<2^62
def dR(t:Nat)(a:Addr)(w:Pow):HP:=HP.ex fun l:Int=>(aq a t (powC w l)).and (MY w l)
section
variable {B:aA} {h0 h h':Heap} {As:List HP} {t:Nat} {a:Addr} {w:Pow}
theorem aa.Dt(H:aa B h0 h (dR t a w::As)):∃l,MY w l/\aa B h0 h (aq a t (powC w l)::As):=by
 obtain⟨l,H⟩:=H.IJ;obtain⟨H,b⟩:=H.Kj;exact⟨l,b,H⟩
theorem aa.KQ{l:Int}(b:MY w l)(H:aa B h0 h (aq a t (powC w l)::As)):aa B h0 h (dR t a w::As):=
 (H.toKj b).Ly (F:=fun l:Int=>(aq a t (powC w l)).and (MY w l)) l
end
end Go.Vc
namespace Go.Proofs.YtdhamoojccmbdaaGreatDoor
open Go Go.Vc Go.Proofs Wl
section
variable {B:aA} {h0 h h':Heap} {As:List HP} {t:Nat} {a:Addr} {w:Pow}
theorem Ja(l:Int)(b:cy h a bD (powC w l)):ae xl Ji #[vZ (some a)] h fun v h'=>v=xf (!w.off)/\h'=h:=by
 refine Hl (some a) ?_;unfold xS;exact bs (fun _=>⟨a,rfl,w.off,b.cell0 rfl,rfl,rfl⟩) fun e=>by cases e
theorem Qj(l:Int)(b:cy h a bD (powC w l)):ae xl FR #[vZ (some a)] h fun v h'=>v=vX xh w.offs/\h'=h:=by
 refine Eo (some a) ?_;unfold tk;exact bs (fun e=>by cases e) fun _=>⟨a,rfl,w.offs,b.cell rfl,rfl,rfl⟩
theorem HU(h:Heap):ae xl Tr #[] h fun v h'=>∃a,v=vZ (some a)/\Sp h h' [dR bD a Pow.new]:=by
 refine QU ?_;unfold JC;refine(Sp.refl h).boxed fun a c b=>⟨a,rfl,aa.KQ (l:=0) (w:=Pow.new) (fun k e=>by cases e) b⟩
theorem HV(H:aa B h0 h (dR bD a w::As)):ae xl FQ #[vZ (some a)] h fun v h'=>v=xf w.step.1/\aa B h0 h' (dR bD a w.step.2::As):=by
 obtain⟨l,s,c⟩:=H.Dt;refine En (some a) ?_;unfold tj;refine(Ja l (c.box 0 rfl)).mono ?_;rintro _ x ⟨rfl,rfl⟩;refine⟨_,rfl,bi (fun e=>?_) (fun e=>?_)⟩
 ·have:w.step=(false,w):=by unfold Pow.step;rw[if_pos (by simpa using e)]
  rw[this];exact⟨rfl,H⟩
 have g:w.off=false:=by simpa using e
 refine⟨a,rfl,_,(c.box 0 rfl).cell rfl,bi (fun e2=>?_) (fun e2=>?_)⟩
 ·have:w.step=(true,w):=by
   unfold Pow.step;rw[if_neg (by simp[g])];cases d:w.fuse with
   |none=>rfl
   |some k=>rw[d]at e2;cases e2
  rw[this];exact⟨rfl,H⟩
 obtain⟨k,d⟩:∃k,w.fuse=some k:=vj.1 e2;obtain⟨rfl,t⟩:=s k d;have o:powC w (k:Int)=[xf false,xf true,vX xh k,vX xh w.offs]:=by simp[powC,g,d]
 rw[o]at c;refine⟨a,rfl,_,(c.box 0 rfl).cell rfl,cw (fun r=>?_) (fun r=>?_)⟩
 ·have i:k=0:=by omega
  subst i;have m:w.step=(false,⟨true,some 0,qc xh (w.offs+1)⟩):=by unfold Pow.step;rw[if_neg (by simp[g]),d]
  rw[m];refine⟨a,rfl,c.jS af 0 rfl rfl [xf true] rfl rfl rfl (by simp) fun u n=>?_⟩;refine⟨a,rfl,w.offs,(n.box 0 rfl).cell rfl,a,rfl,n.store af 0 rfl rfl 3 [vX xh (qc xh (w.offs+1))] rfl rfl rfl (by simp[powC]) fun h3 f=>⟨rfl,?_⟩⟩;refine aa.KQ (l:=((0:Nat):Int)) (fun p b=>by cases b;exact⟨rfl,by decide⟩) ?_;exact f
 ·obtain⟨j,rfl⟩:∃j,k=j+1:=⟨k-1,by omega⟩
  have m:w.step=(true,⟨false,some j,w.offs⟩):=by unfold Pow.step;rw[if_neg (by simp[g]),d]
  rw[m];refine⟨a,rfl,_,(c.box 0 rfl).cell rfl,a,rfl,c.store af 0 rfl rfl 2 [vX xh (qc xh (((j+1:Nat):Int)-1))] rfl rfl rfl (by simp[powC]) fun h3 f=>⟨rfl,?_⟩⟩;refine aa.KQ (l:=(j:Int)) (fun p b=>by cases b;exact⟨rfl,by omega⟩) ?_;rw[Go.Vc.wrap_small _ (by omega) (by omega)]at f;have q:((j+1:Nat):Int)-1=(j:Int):=by omega
  rw[q]at f;exact f
end
abbrev Pm:=Int×Int×Int
abbrev kA(p:Pm):Value:=xg #[vX xh p.1,vX xh p.2.1,vX xh p.2.2]
theorem dS(p:Pm)(h:Heap):ae xl YD #[kA p] h fun v h'=>v=xf (bJ p)/\Sp h h' []:=by
 refine VE p ?_;unfold Qb;refine(Sp.refl h).boxed fun a d j=>?_;have e:=j.box 0 rfl;have c:Sp h d []:=.zip j.ai;have f:cellOf d a=some (vX xh p.1):=e.cell0 rfl;have i:cellOf d (a.add 1)=some (vX xh p.2.1):=e.cell rfl;have g:cellOf d (a.add 2)=some (vX xh p.2.2):=e.cell rfl;unfold bJ;refine⟨_,f,ak (fun b=>?_) (fun b=>⟨by rw[decide_eq_false b];rfl,c⟩)⟩;rw[decide_eq_true b];refine⟨_,f,ak (fun b=>?_) (fun b=>⟨by rw[decide_eq_false b];rfl,c⟩)⟩;rw[decide_eq_true b];refine⟨_,i,ak (fun b=>?_) (fun b=>⟨by rw[decide_eq_false b];rfl,c⟩)⟩;rw[decide_eq_true b];refine⟨_,i,ak (fun b=>?_) (fun b=>⟨by rw[decide_eq_false b];rfl,c⟩)⟩;rw[decide_eq_true b];refine⟨_,g,ak (fun b=>?_) (fun b=>⟨by rw[decide_eq_false b];rfl,c⟩)⟩;rw[decide_eq_true b];exact⟨_,g,rfl,c⟩
abbrev me:bN C.toCB oD aT 1 [vX xh 0] 8:=⟨_,_,rfl,rfl,rfl,rfl,rfl,rfl⟩
abbrev fX:bN C.toCB aH aC 1 [vX xi 0] 1:=⟨_,_,rfl,rfl,rfl,rfl,rfl,rfl⟩
abbrev fJ:bN C.toCB dz aH 1 [vY none 0 0] 24:=⟨_,_,rfl,rfl,rfl,rfl,rfl,rfl⟩
theorem jr(s:Sl)(l:List Int)(h:Heap)(b:Rd h s 1 aD l)(c:l.length<=2^30):ae xl AG #[vY s.ptr s.len s.cap] h fun v h'=>∃r:Sl,v=vY r.ptr r.len r.cap/\Sp h h' [an aT r 1 aD l]:=by
 refine xQ s ?_;unfold od;refine bs (fun e=>?_) (fun e=>?_)
 ·have:=b.isNil e;subst this;exact⟨⟨none,0,0⟩,rfl,(Sp.refl h).nil aT 1 aD⟩
 ·refine(Sp.refl h).lit af aD me rfl [] rfl (by decide) rfl fun g j a=>?_;refine a.append af 0 rfl me ⟨_,_,rfl,rfl⟩ rfl (by decide) (fun _=>rfl) (b.up a.ai) jp (by simp;omega) fun f i d=>⟨f,rfl,d⟩
theorem fO(s:Sl)(l:List UInt8)(h:Heap)(b:Rd h s 1 aB l)(c:l.length<=2^30):ae xl sj #[vY s.ptr s.len s.cap] h fun v h'=>∃r:Sl,v=vY r.ptr r.len r.cap/\Sp h h' [an aC r 1 aB l]:=by
 refine Mm s ?_;unfold Fl;refine bs (fun e=>?_) (fun e=>?_)
 ·have:=b.isNil e;subst this;exact⟨⟨none,0,0⟩,rfl,(Sp.refl h).nil aC 1 aB⟩
 ·refine(Sp.refl h).lit af aB fX rfl [] rfl (by decide) rfl fun g j a=>?_;refine a.append af 0 rfl fX ⟨_,_,rfl,rfl⟩ rfl (by decide) (fun _=>rfl) (b.up a.ai) gp (by simp;omega) fun f i d=>⟨f,rfl,d⟩
theorem Qk{e:TypeId}(s:Sl)(l:List Int)(h:Heap)(c:Own h e s 1 aD l)(a:l.length<2^40):ae xl Ce #[vY s.ptr s.len s.cap] h fun v h'=>v=.tuple #[]/\Own h' e s 1 aD (ni l)/\aU (fun b=>¬s.on b) h h':=
 SG Tryz.slices_Sort_int Tryz.slices_Sort_int_none c a
theorem bW(x n:Int)(h:Heap)(a:0<n)(e:n<=2^62):ae xl xM #[vX xh x,vX xh n] h fun v h'=>v=vX xh (x%n)/\h'=h:=by
 refine uN x n ?_;unfold nG;have g:=vn x a;have f:-n<x.tmod n:=Int.lt_tmod_of_pos x a;have d:=Sw x n a;refine⟨by omega,aX ?_⟩;refine ak (fun b=>?_) (fun c=>?_)
 ·rw[wrap_small _ (by omega) (by omega)];exact⟨by rw[d,if_pos b],rfl⟩
 ·exact⟨by rw[d,if_neg c],rfl⟩
theorem YM{p q:aA}(a b:Sl)(c g:Row)(h:Heap)(o:Seq h p a 1 aB c)(r:Seq h q b 1 aB g)(x:c.length<=2^40):
  ae xl tg #[vY a.ptr a.len a.cap,vY b.ptr b.len b.cap] h fun v h'=>v=xf (decide (c=g))/\h'=h:=by
 refine si a b ?_;unfold lK;have n:=o.len;have l:=r.len;refine ci (fun d=>⟨?_,rfl⟩) (fun m=>?_)
 ·rw[decide_eq_false (fun e=>d (by rw[n,l,e]))]
 ·refine aw (fun k:Nat=>(k:Int)) (fun k h'=>h'=h/\k<=c.length/\c.take k=g.take k) (fun k=>c.length-k) 0 rfl ⟨rfl,by omega,by simp⟩ ?_;rintro k h' ⟨rfl,w,j⟩;refine ak (fun s=>?_) (fun t=>?_)
  ·have f:k<c.length:=by omega
   have i:k<g.length:=by omega
   refine o.bz k rfl f _ rfl ?_;refine r.bz k rfl i _ rfl ?_;refine ci (fun d=>⟨?_,rfl⟩) (fun m=>?_)
   ·rw[decide_eq_false];intro e;subst e;exact d rfl
   ·rw[wrap_small _ (by omega) (by omega)];have u:c[k]=g[k]:=yl.1 (by omega);exact⟨k+1,by simp,⟨rfl,by omega,by rw[aJ _ _ f,aJ _ _ i,j,u]⟩,by omega⟩
  ·have:k=c.length:=by omega
   subst this;rw[qi (by omega),qi (by omega)]at j;exact⟨by rw[decide_eq_true j],rfl⟩
end Go.Proofs.YtdhamoojccmbdaaGreatDoor
namespace Wl
structure gm (d:bC):Prop where
 wait:d.wait<=d.l.length
 len:d.l.length<=d.room
 room:d.room<=512
 cell:∀c∈d.l,c.length=64
 laid:d.laid.length<=d.room
 cellL:∀c∈d.laid,c.length=64
section
variable {d:bC} {w:Pow} {b:List UInt8}
theorem gm.new{n:Nat}(h:n<=512):gm (bC.new n):=⟨ql _,w7 _,h,by simp[bC.new],w7 _,by simp[bC.new]⟩
theorem gm.rewrite{l:List (List UInt8)}(h:gm d):gm (d.rewrite w l).2.2:=by
 obtain⟨e,b,h3,a,i,f⟩:=h;unfold bC.rewrite;split
 ·exact⟨e,b,h3,a,i,f⟩
 ·rename_i g;have g:∀c∈l,c.length=64:=by simpa using g
  split
  ·exact⟨e,b,h3,a,i,f⟩
  ·split
   ·exact⟨e,b,h3,a,i,f⟩
   ·split
    ·exact⟨e,b,h3,a,i,f⟩
    ·split
     ·exact⟨w7 _,by dsimp only;omega,h3,g,w7 _,by simp⟩
     ·exact⟨e,b,h3,a,by dsimp only;omega,g⟩
end
end Wl
namespace Go.Vc
open Go Wl Go.Proofs.YtdhamoojccmbdaaGreatDoor
abbrev dV(s:Sl)(l:Cells):HP:=mi aH s aC 1 aB l
def lC(t:Nat)(f:bC->Sl->Sl->List Value)(a:Addr)(d:bC):HP:=
 (HP.ex fun b:Sl×Sl=>(aq a t (f d b.1 b.2)).sep ((dV b.1 d.l).sep (dV b.2 d.laid))).and (gm d)
section
variable {B:aA} {h0 h h':Heap} {As:List HP} {t:Nat} {f:bC->Sl->Sl->List Value} {a:Addr} {d:bC}
theorem aa.uT(H:aa B h0 h (lC t f a d::As)):gm d/\∃s b:Sl,aa B h0 h (aq a t (f d s b)::dV s d.l::dV b d.laid::As):=by
 obtain⟨H,ok⟩:=H.Kj;obtain⟨c,H⟩:=H.IJ;exact⟨ok,c.1,c.2,H.Lz.Lz.bo 3 [2,1,0]⟩
theorem aa.HW{s b:Sl}(ok:gm d)(H:aa B h0 h (aq a t (f d s b)::dV s d.l::dV b d.laid::As)):aa B h0 h (lC t f a d::As):=
 ((((H.bo 3 [2,1,0]).pA).pA).Ly (F:=fun c:Sl×Sl=>(aq a t (f d c.1 c.2)).sep ((dV c.1 d.l).sep (dV c.2 d.laid))) (s,b)).toKj ok
end
end Go.Vc
namespace Go.Proofs.YtdhamoojccmbdaaGreatDoor
open Go Go.Vc Go.Proofs Wl
abbrev gS(pw:Addr)(d:bC)(s b:Sl):List Value:=[vZ (some pw),vX xh d.room,vY s.ptr s.len s.cap,vX xh d.wait,vY b.ptr b.len b.cap,xf d.has,xf d.lost]
abbrev mV(pw a:Addr)(d:bC):HP:=lC cE (gS pw) a d
section
variable {B:aA} {h0 h h':Heap} {As:List HP} {a pw:Addr} {d:bC} {w:Pow}
theorem YN(n:Int)(pw:Addr)(h:Heap):ae xl Ts #[vX xh n,vZ (some pw)] h fun v h'=>
  (1<=n/\n<=512->∃a,v=vZ (some a)/\Sp h h' [mV pw a (bC.new n.toNat)])/\(¬(1<=n/\n<=512)->v=vZ none/\Sp h h' []):=by
 refine QV n (some pw) ?_;unfold JD;refine aX (ak (fun e=>⟨fun c=>absurd c (by omega),fun _=>⟨rfl,Sp.refl h⟩⟩) fun i=>ak (fun e=>⟨fun c=>absurd c (by omega),fun _=>⟨rfl,Sp.refl h⟩⟩) fun e2=>bs (fun e=>by cases e) fun _=>?_);refine(Sp.refl h).boxed fun a g d=>⟨fun _=>⟨a,rfl,?_⟩,fun c=>absurd (by omega) c⟩
 refine aa.HW (s:=⟨none,0,0⟩) (b:=⟨none,0,0⟩) (gm.new (by omega)) ?_;have e:((n.toNat:Nat):Int)=n:=by omega
 have f:=((d.Gy aH aC 1 aB).Gy aH aC 1 aB).bo 3 [2,1,0];have e2:gS pw (bC.new n.toNat) ⟨none,0,0⟩ ⟨none,0,0⟩=[vZ (some pw),vX xh n,vY none 0 0,vX xh 0,vY none 0 0,xf false,xf false]:=by
  simp only[gS,bC.new,e];rfl
 rw[e2];exact f
theorem HX(s b:Sl)(c:bC)(H:aa B h0 h (aq a cE (gS pw d s b)::dV s d.l::dV b d.laid::dR bD pw w::As))(ok:gm d)(e:c={d with laid:=[],has:=false}):
  ae xl FZ #[vZ (some a)] h fun v h'=>v=vX xh 0/\aa B h0 h' (mV pw a c::dR bD pw w::As):=by
 refine Ey (some a) ?_;unfold tw;refine⟨a,rfl,H.store af 0 rfl rfl 4 [vY none 0 0] rfl rfl rfl (by simp[gS]) fun i f=>?_⟩;refine⟨a,rfl,f.store af 0 rfl rfl 5 [xf false] rfl rfl rfl (by simp[gS]) fun h3 g=>⟨rfl,?_⟩⟩;subst e;refine aa.HW (s:=s) (b:=⟨none,0,0⟩) ⟨ok.wait,ok.len,ok.room,ok.cell,w7 _,by simp⟩ ?_;exact((g.Gy aH aC 1 aB).bo 5 [1,2,0,4])
theorem Wc(x:Sl)(row:List UInt8)(H:aa B h0 h (mV pw a d::dR bD pw w::As))(P:Rd h x 1 aB row)(hr:row.length<=2^20):
  ae xl oU #[vZ (some a),vY x.ptr x.len x.cap] h fun v h'=>v=vX xh (d.append w row).1/\aa B h0 h' (mV pw a (d.append w row).2.2::dR bD pw (d.append w row).2.1::As):=by
 refine oe (some a) x ?_;unfold ly;have Y:=P.len;obtain⟨ok,s,b,E⟩:=H.uT;have y:=E.box 0 rfl;obtain⟨T,_⟩:=aa.DS (E.bo 4 [1]);have M:=ok.room;have O:=ok.len;have K:=ok.wait;have g:∀(e:Int),d.append w row=(e,w,d)->(Value.int .i64 e=vX xh (d.append w row).1/\aa B h0 h (mV pw a (d.append w row).2.2::dR bD pw (d.append w row).2.1::As)):=fun e W=>by
  rw[W];exact⟨rfl,H⟩
 refine aX (ci (fun e=>g 1 (by unfold bC.append;rw[if_pos (by omega)])) fun X=>?_);have q:row.length=64:=by omega
 refine aX (bs (fun e=>by cases e) fun _=>⟨a,rfl,d.lost,y.cell rfl,bs (fun e=>g 5 ?_) fun f=>?_⟩)
 ·unfold bC.append;rw[if_neg (by omega),if_pos e]
 refine⟨a,rfl,s,y.cell rfl,a,rfl,(d.room:Int),y.cell rfl,ak (fun e=>g 7 ?_) fun L=>?_⟩
 ·unfold bC.append;rw[if_neg (by omega),if_neg (by simp[f]),if_pos (by omega)]
 obtain⟨l,hl,G⟩:=(E.bo 4 [3,0,1,2]).Dt;refine⟨a,rfl,some pw,y.cell0 rfl,(Ja l (G.box 0 rfl)).mono ?_⟩;rintro _ Q ⟨rfl,rfl⟩;refine⟨_,rfl,bi (fun e=>g 14 ?_) fun t=>?_⟩
 ·unfold bC.append;rw[if_neg (by omega),if_neg (by simp[f]),if_neg (by omega),if_pos (by simpa using e)]
 have k:w.off=false:=by simpa using t
 refine aX ⟨a,rfl,s,y.cell rfl,(fO x row Q P (by omega)).mono ?_⟩;rintro _ h4 ⟨r,rfl,U⟩;have A:=(E.dc U).bo 5 [2,0,1,3,4];have u:=A.box 2 rfl;refine⟨r,rfl,⟨u.cell rfl,trivial⟩,?_⟩;have V:=A;refine A.rU af bQ fJ rfl [r] rfl (show 1*1<=2^20 by decide) rfl ⟨u.cell rfl,trivial⟩ ?_;refine A.IK af fJ (by omega) fun m h6 F=>⟨trivial,?_⟩
 have F:=F.bo 4 [1,0,2,3];refine⟨a,rfl,F.store af 0 rfl rfl 2 [vY m.ptr m.len m.cap] rfl rfl rfl (by simp[gS]) fun Z N=>⟨trivial,?_⟩⟩;have I:=N.box 0 rfl;refine⟨a,rfl,(d.wait:Int),I.cell rfl,a,rfl,?_⟩;rw[Go.Vc.wrap_small ((d.wait:Int)+1) (by omega) (by omega)];refine N.store af 0 rfl rfl 3 [vX xh ((d.wait:Int)+1)] rfl rfl rfl (by simp[gS]) fun h8 R=>?_;obtain⟨i,j⟩:∃i:bC,i={d with l:=d.l++[row],wait:=d.wait+1}:=⟨_,rfl⟩
 have p:gm i:=by
  subst j;refine⟨by simp;omega,by simp;omega,ok.room,fun c n=>?_,ok.laid,ok.cellL⟩;rcases qB.1 n with n|n
  ·exact ok.cell c n
  ·rw[qH.1 n];exact q
 have o:aa B h0 h8 (aq a cE (gS pw i m b)::dV m i.l::dV b i.laid::dR bD pw w::As):=by rw[j];exact R
 refine⟨a,rfl,some pw,(o.box 0 rfl).cell0 rfl,(HV (o.bo 4 [3,0,1,2])).mono ?_⟩;rintro _ h9 ⟨rfl,D⟩;have D:=D.bo 4 [1,2,3,0];have z:d.append w row=if w.step.1 then(0,w.step.2,{i with laid:=[],has:=false})else(14,w.step.2,i):=by
  rw[j];unfold bC.append;rw[if_neg (by omega),if_neg (by simp[f]),if_neg (by omega),if_neg (by simp[k])]
 rw[z];refine⟨_,rfl,bi (fun e=>?_) (fun e=>?_)⟩
 ·rw[e];exact⟨rfl,D.HW p⟩
 ·rw[e];refine(HX m b _ D p rfl).mono ?_;rintro _ S ⟨rfl,J⟩;exact⟨0,rfl,rfl,J⟩
theorem Pf(x:Sl)(row:List UInt8)(h:Heap)(b:Rd h x 1 aB row):ae xl oU #[vZ none,vY x.ptr x.len x.cap] h fun v h'=>v=vX xh (if row.length≠64 then 1 else 5)/\h'=h:=by
 refine oe none x ?_;unfold ly;have a:=b.len;refine aX (ci (fun e=>⟨by rw[if_pos (by omega)],rfl⟩) fun e=>?_);exact aX (bs (fun _=>⟨by rw[if_neg (by omega)],rfl⟩) fun e=>by cases e)
theorem abe(H:aa B h0 h (mV pw a d::dR bD pw w::As)):
  ae xl rK #[vZ (some a)] h fun v h'=>v=vX xh (d.sync w).1/\aa B h0 h' (mV pw a (d.sync w).2.2::dR bD pw (d.sync w).2.1::As):=by
 refine pY (some a) ?_;unfold mQ;obtain⟨ok,s,b,i⟩:=H.uT;have j:=i.box 0 rfl;refine aX (bs (fun e=>by cases e) fun _=>⟨a,rfl,d.lost,j.cell rfl,bs (fun e=>?_) fun c=>?_⟩)
 ·have:d.sync w=(5,w,d):=by unfold bC.sync;rw[if_pos e]
  rw[this];exact⟨rfl,H⟩
 refine⟨a,rfl,some pw,j.cell0 rfl,(HV (i.bo 4 [3,0,1,2])).mono ?_⟩;rintro _ m ⟨rfl,g⟩;have g:=g.bo 4 [1,2,3,0];have f:d.sync w=if w.step.1 then(0,w.step.2,{{d with wait:=0}with laid:=[],has:=false})else(14,w.step.2,d):=by
  unfold bC.sync;rw[if_neg (by simp[c])]
 rw[f];refine⟨_,rfl,bi (fun e=>?_) (fun e=>?_)⟩
 ·rw[e];exact⟨rfl,g.HW ok⟩
 ·rw[e];refine⟨a,rfl,g.store af 0 rfl rfl 3 [vX xh 0] rfl rfl rfl (by simp[gS]) fun h3 k=>?_⟩;refine(HX (d:={d with wait:=0}) s b _ k ⟨w7 _,ok.len,ok.room,ok.cell,ok.laid,ok.cellL⟩ rfl).mono ?_;rintro _ n ⟨rfl,l⟩;exact⟨0,rfl,rfl,l⟩
theorem Uc(h:Heap):ae xl rK #[vZ none] h fun v h'=>v=vX xh 5/\h'=h:=by
 refine pY none ?_;unfold mQ;exact aX (bs (fun _=>⟨rfl,rfl⟩) fun e=>by cases e)
theorem mV.box(H:aa B h0 h (mV pw a d::As)):∃s b:Sl,cy h a cE (gS pw d s b)/\gr h s 1 aB d.l/\s.len=d.l.length:=by
 obtain⟨ok,s,b,c⟩:=H.uT;exact⟨s,b,c.box 0 rfl,(c.bo 3 [1]).PG fun _=>rfl,(aa.DS (c.bo 3 [1])).1⟩
theorem abf(s b:Sl)(c:cy h a cE (gS pw d s b)):ae xl FY #[vZ (some a)] h fun v h'=>v=vX xh d.room/\h'=h:=by
 refine Ex (some a) ?_;unfold tv;exact bs (fun e=>by cases e) fun _=>⟨a,rfl,_,c.cell rfl,rfl,rfl⟩
theorem Ql(s b:Sl)(c:cy h a cE (gS pw d s b))(f:s.len=d.l.length):ae xl HB #[vZ (some a)] h fun v h'=>v=vX xh (d.l.length:Int)/\h'=h:=by
 refine Gb (some a) ?_;unfold ut;exact bs (fun e=>by cases e) fun _=>⟨a,rfl,_,c.cell rfl,by rw[f],rfl⟩
theorem HY(s b:Sl)(c:cy h a cE (gS pw d s b)):ae xl FU #[vZ (some a)] h fun v h'=>v=xf d.lost/\h'=h:=by
 refine Et (some a) ?_;unfold tq;exact bs (fun _=>⟨a,rfl,_,c.cell rfl,rfl,rfl⟩) fun e=>by cases e
theorem KR(l:Sl)(a:Cells)(h:Heap)(f:gr h l 1 aB a)(x:a.length<=2^20)(k:∀c∈a,c.length<=2^20):ae xl Tu #[vY l.ptr l.len l.cap] h fun v h'=>∃r:Sl,v=vY r.ptr r.len r.cap/\Sp h h' [dV r a]:=by
 refine QY l ?_;unfold JF;have g:=f.len;refine aw (fun t:Sl×Nat=>(t.1,(t.2:Int))) (fun t h'=>t.2<=a.length/\Sp h h' [dV t.1 (a.take t.2)]) (fun t=>a.length-t.2) (⟨none,0,0⟩,0) rfl ⟨by simp,by simpa using(Sp.refl h).Gy aH aC 1 aB⟩ ?_;rintro⟨s,i⟩ j ⟨u,d⟩;dsimp only at*;refine ak (fun e=>?_) (fun e=>?_)
 ·have b:i<a.length:=by omega
  refine(f.up d.ai).get i rfl b fun r n=>?_;have:=k _ (qg b);refine(fO r _ j n (by omega)).mono ?_;rintro _ w ⟨p,rfl,q⟩;refine⟨p,rfl,?_⟩;refine aa.IK af (d.comp q) fJ (by simp;omega) fun o h3 m=>?_;refine⟨(o,i+1),by dsimp only;rw[Go.Vc.wrap_small _ (by omega) (by omega)];rfl,⟨by dsimp only;omega,?_⟩,by dsimp only;omega⟩;dsimp only;rw[aJ _ _ b];exact m
 ·rw[qi (by omega)]at d;exact⟨s,rfl,d⟩
theorem Ud(s b:Sl)(f:cy h a cE (gS pw d s b))(j:gr h s 1 aB d.l)(ok:gm d):ae xl Hi #[vZ (some a)] h fun v h'=>∃r:Sl,v=vY r.ptr r.len r.cap/\Sp h h' [dV r d.l]:=by
 refine FV (some a) ?_;unfold ur;have:=ok.len;have:=ok.room;refine bs (fun e=>by cases e) fun _=>⟨a,rfl,s,f.cell rfl,(KR s d.l h j (by omega) fun c i=>by rw[ok.cell c i];decide).mono ?_⟩
 rintro _ k ⟨r,rfl,g⟩;exact⟨r,rfl,r,rfl,g⟩
end
theorem adC(b:Sl)(l:List UInt8)(h:Heap)(q:Rd h b 1 aB l)(D:l.length<=2^40):ae xl YH #[vY b.ptr b.len b.cap] h fun v h'=>v=vX xj (CH l).toNat/\h'=h:=by
 refine VQ b ?_;unfold Qe;have E:=q.len;refine aw (fun t:Nat=>(((uD (l.take t)).toNat:Int),(t:Int))) (fun t h'=>t<=l.length/\h'=h) (fun t=>l.length-t) 0 rfl ⟨by omega,rfl⟩ ?_;rintro i r ⟨A,rfl⟩;refine ak (fun e=>?_) (fun e=>?_)
 ·have d:i<l.length:=by
   have u:(i:Int)<(b.len:Int):=e;omega
  refine q.bz i rfl d (l[i].toNat:Int) rfl ?_;have w:qc xj (l[i].toNat:Int)=((vN 32 l[i].toNat).toNat:Int):=by rw[PK,wU]
  rw[w,Yg];refine aw (fun k:Nat=>(((CG k (uD (l.take i)^^^vN 32 l[i].toNat)).toNat:Int),(k:Int))) (fun k h'=>k<=8/\h'=r) (fun k=>8-k) 0 rfl ⟨by omega,rfl⟩ ?_;rintro k p ⟨B,rfl⟩;obtain⟨c,j⟩:∃c,c=CG k (uD (l.take i)^^^vN 32 l[i].toNat):=⟨_,rfl⟩
  dsimp only;rw[<-j];refine ak (fun e2=>⟨by decide,?_⟩) (fun e2=>?_)
  ·have a:∀n:sV,n=LG c->∃f:Nat,(((n.toNat:Nat):Int),qc xh ((k:Int)+1))=(((CG f (uD (l.take i)^^^vN 32 l[i].toNat)).toNat:Int),(f:Int))/\(f<=8/\p=p)/\8-f<8-k:=fun n z=>
    ⟨k+1,by rw[Go.Vc.wrap_small _ (by omega) (by omega),z,j];rfl,⟨by omega,rfl⟩,by omega⟩
   have x:qc xj ((qA (qk xj) (c.toNat:Int)&&&qA (qk xj) (1:Int)).toNat:Nat)=((c&&&1#32).toNat:Int):=ahI c 1#32;have s:qc xj ((qA (qk xj) ((c>>>1).toNat:Int)^^^qA (qk xj) (3988292384:Int)).toNat:Nat)=(((c>>>1)^^^3988292384#32).toNat:Int):=Yg (c>>>1) 3988292384#32;rw[x,afq,s];refine cw (fun o=>a _ ?_) (fun o=>a _ ?_)
   ·unfold LG;rw[if_pos ((Xh c).1 o)]
   ·unfold LG;rw[if_neg (fun y=>o ((Xh c).2 y))]
  ·have m:k=8:=by omega
   subst m;refine⟨i+1,?_,⟨by omega,rfl⟩,by omega⟩;rw[Go.Vc.wrap_small _ (by omega) (by omega),aJ _ _ d,Yf,j];rfl
 ·have g:i=l.length:=by
   have u:¬(i:Int)<(b.len:Int):=e;omega
  subst g;refine⟨?_,rfl⟩;rw[qR];exact congrArg (Value.int .u32) (Yg 4294967295#32 (uD l))
theorem HZ(a:Int)(b:Sl)(l:List UInt8)(h:Heap)(B:Rd h b 1 aB l)(Q:l.length<=2^40):ae xl VM #[vX xh a,vY b.ptr b.len b.cap] h fun v h'=>∃r:Sl,v=vY r.ptr r.len r.cap/\Sp h h' [an aC r 1 aB (eu a l)]:=by
 refine TJ a b ?_;unfold Mx;have S:=B.len;have g:¬(1<=a/\a<=255/\l.length<=55)->∃r:Sl,Value.slice none 0 0=vY r.ptr r.len r.cap/\Sp h h [an aC r 1 aB (eu a l)]:=fun e=>by
  unfold eu;rw[if_neg e];exact⟨⟨none,0,0⟩,rfl,(Sp.refl h).nil aC 1 aB⟩
 refine aX (ak (fun e=>g (by omega)) fun P=>ak (fun e=>g (by omega)) fun e2=>ak (fun e=>g (by omega)) fun R=>?_);refine(Sp.refl h).make af aB fX (by decide) 0 rfl rfl 64 64 rfl rfl (ql _) (by decide) fun o w n p J=>?_;rw[dQ];refine J.lit af aB fX rfl [87,115,1,b8 a] rfl (show 4*1<=2^20 by decide) rfl fun v3 h3 y=>?_;refine y.Lv af 0 rfl fX (fun _=>rfl) (y.seq 1 rfl fun _=>rfl) gp fun _ t k=>⟨⟨by decide,by rw[n];decide⟩,?_⟩
 have k:Sp h t [an aC o 1 aB ([87,115,1,b8 a]++qh 60 0)]:=by
  have:=k.bO [0];simpa using this
 refine k.SJ af 0 rfl fX (fun _=>rfl) (Seq.up B k.ai) gp 4 (by simp) rfl rfl fun _ z u=>⟨⟨by decide,by rw[p];decide⟩,?_⟩
 have F:([87,115,1,b8 a]++qh 60 0).take 4++(l.take (([87,115,1,b8 a]++qh 60 (0:UInt8)).length-4)++([87,115,1,b8 a]++qh 60 0).drop (4+l.length))=dJ a l++qh 5 0:=by
  have G:([87,115,1,b8 a]++qh 60 (0:UInt8)).length=64:=by simp
  rw[G,qi (l:=l) (by omega),<-zy];have w:([87,115,1,b8 a]++qh 60 (0:UInt8)).drop 4=qh 60 0:=rfl;have h3:([87,115,1,b8 a]++qh 60 (0:UInt8)).take 4=[87,115,1,b8 a]:=rfl;rw[w,h3,List.drop_replicate];unfold dJ;have t:qh (60-l.length) (0:UInt8)=qh (55-l.length) 0++qh 5 0:=by rw[yK];congr 1;omega
  rw[t];simp[qp]
 rw[F]at u;have d:(dJ a l).length=59:=GC (by omega);have L:Rd z ⟨o.ptr,59,o.cap⟩ 1 aB (dJ a l):=by
  have:=(u.seq 0 rfl fun _=>rfl).take 59 (by simp[d]);rw[yd (by omega),qi (by omega)]at this;exact this
 refine(adC ⟨o.ptr,59,o.cap⟩ (dJ a l) z L (by omega)).mono ?_;rintro _ O ⟨rfl,rfl⟩;obtain⟨c,x⟩:∃c,c=CH (dJ a l):=⟨_,rfl⟩
 rw[<-x];refine⟨_,rfl,?_⟩;refine aw (fun i:Nat=>(i:Int)) (fun i h'=>i<=4/\Sp h h' [an aC o 1 aB (dJ a l++((oA c).take i++qh (5-i) 0))]) (fun i=>4-i) 0 rfl ⟨by omega,by simpa using u⟩ ?_;rintro i M ⟨N,A⟩;have f:=SL c;refine ak (fun e=>?_) (fun e=>?_)
 ·have H:i<4:=by
   have I:(i:Int)<4:=e;omega
  rw[Go.Vc.wrap_small ((8:Int)*i) (by omega) (by omega),Go.Vc.wrap_small ((59:Int)+i) (by omega) (by omega)];refine⟨by omega,?_⟩;have D:((8:Int)*(i:Int)).toNat=8*i:=by omega
  have K:min (8*i) (qk xj)=8*i:=by
   have:qk xj=32:=rfl;omega
  rw[D,K,dQ];have E:b8 (qT (c.toNat:Int) (2^(8*i)))=(oA c)[i]'(by omega):=by simp[oA]
  rw[E];refine A.set af 0 rfl (fun _=>rfl) rfl (59+i) (by omega) (by simp[d];omega) ((oA c)[i]'(by omega)) rfl rfl rfl fun h8 j=>?_;refine⟨i+1,by rw[Go.Vc.wrap_small _ (by omega) (by omega)];rfl,⟨by omega,?_⟩,by omega⟩;have s:(dJ a l++((oA c).take i++qh (5-i) 0)).set (59+i) ((oA c)[i]'(by omega))=dJ a l++((oA c).take (i+1)++qh (5-(i+1)) 0):=by
   rw[zh _ _ (by omega),d,zn,zh _ _ (by simp;omega),aJ _ _ (by omega)];have:5-i=(5-(i+1))+1:=by omega
   rw[this,yL];simp[f,w6 (show i<=4 by omega)];rw[aJ _ _ (show i<(oA c).length by omega),qp];rfl
  rw[s]at j;exact j
 ·have m:i=4:=by
   have I:¬(i:Int)<4:=e;omega
  subst m;refine A.set af 0 rfl (fun _=>rfl) rfl 63 rfl (by simp[d,f]) 165 rfl rfl rfl fun h8 j=>⟨o,rfl,?_⟩
  have q:(dJ a l++((oA c).take 4++qh (5-4) 0)).set 63 165=eu a l:=by
   unfold eu;rw[if_pos ⟨by omega,by omega,by omega⟩,<-x,qi (by omega),zh _ _ (by omega),d,zh _ _ (by simp[f])];simp[f]
  rw[q]at j;exact j
end Go.Proofs.YtdhamoojccmbdaaGreatDoor
namespace Go.Vc
open Go Wl
abbrev dZ:=ByteArray×Int×Int×Sl
abbrev cv:=Int×Int×Int×Int×Int×Int×Sl×Sl
abbrev bI(x:dZ):List Value:=[xd x.1,vX xh x.2.1,vX xh x.2.2.1,vY x.2.2.2.ptr x.2.2.2.len x.2.2.2.cap]
abbrev aZ(x:cv):List Value:=[vX xh x.1,vX xh x.2.1,vX xh x.2.2.1,vX xh x.2.2.2.1,vX xh x.2.2.2.2.1,vX xh x.2.2.2.2.2.1,vY x.2.2.2.2.2.2.1.ptr x.2.2.2.2.2.2.1.len x.2.2.2.2.2.2.1.cap,vY x.2.2.2.2.2.2.2.ptr x.2.2.2.2.2.2.2.len x.2.2.2.2.2.2.2.cap]
abbrev go(x:cv):Value:=xg #[vX xh x.1,vX xh x.2.1,vX xh x.2.2.1,vX xh x.2.2.2.1,vX xh x.2.2.2.2.1,vX xh x.2.2.2.2.2.1,vY x.2.2.2.2.2.2.1.ptr x.2.2.2.2.2.2.1.len x.2.2.2.2.2.2.1.cap,vY x.2.2.2.2.2.2.2.ptr x.2.2.2.2.2.2.2.len x.2.2.2.2.2.2.2.cap]
def oq:je dZ Wl.bY:=⟨fun h q a b=>(a.1=b.name/\a.2.1=b.object/\a.2.2.1=b.length)/\Seq h q a.2.2.2 1 aD b.tries,fun a d=>⟨a.1,a.2.ai d⟩,fun a c=>⟨a.1,a.2.mono c⟩⟩
abbrev xp:je Sl (List Wl.bY):=cO oq 4 bI
structure uU (h:Heap) (q:aA) (x:cv) (m:aE):Prop where
 seq:x.1=m.seq
 next:x.2.1=m.next
 p:(x.2.2.1,x.2.2.2.1,x.2.2.2.2.1)=m.p
 extra:x.2.2.2.2.2.1=m.extra
 drives:Seq h q x.2.2.2.2.2.2.1 1 aD m.drives
 objs:xp.p h q x.2.2.2.2.2.2.2 m.objs
 dcap:x.2.2.2.2.2.2.1.len<=x.2.2.2.2.2.2.1.cap
 ocap:x.2.2.2.2.2.2.2.len<=x.2.2.2.2.2.2.2.cap
abbrev ff(h:Heap)(x:cv)(m:aE):Prop:=uU h (fun b=>b<h.size) x m
theorem uU.ai{h h':Heap}{q:aA}{x:cv}{m:aE}(a:uU h q x m)(b:aU q h h'):uU h' q x m:=⟨a.seq,a.next,a.p,a.extra,a.drives.ai b,xp.loc a.objs b,a.dcap,a.ocap⟩
theorem uU.mono{h:Heap}{q q':aA}{x:cv}{m:aE}(a:uU h q x m)(c:∀b,q b->q' b):uU h q' x m:=⟨a.seq,a.next,a.p,a.extra,a.drives.mono c,xp.mono a.objs c,a.dcap,a.ocap⟩
theorem ff.up{h h':Heap}{x:cv}{m:aE}(a:ff h x m)(c:aU (fun b=>b<h.size) h h'):ff h' x m:=(uU.ai a c).mono fun _ d=>qV d c.1
def dl(x:cv)(m:aE):HP:=⟨fun h q=>uU h q x m,fun a c=>a.ai c,fun a b=>a.mono b⟩
theorem Ph:∀x,∀c∈bI x,c.oneCell'=true:=by intro x c a;simp[bI]at a;rcases a with rfl|rfl|rfl|rfl<;>rfl
end Go.Vc
namespace Go.Proofs.YtdhamoojccmbdaaGreatDoor
open Go Go.Vc Go.Proofs Wl
theorem sn(n a b:Int)(h:Heap):ae xl OG #[vX xh n,vX xh a,vX xh b] h fun v h'=>v=xf (eV n a b)/\h'=h:=by
 refine Mq n a b ?_;unfold Ft eV;refine ak (fun e=>⟨?_,rfl⟩) (fun e=>⟨?_,rfl⟩)
 ·rw[decide_eq_true (show a<=n from e)];rfl
 ·rw[decide_eq_false (show¬a<=n from e)];rfl
theorem Qm(s:ByteArray)(h:Heap)(G:s.size<=2^40):ae xl TD #[xd s] h fun v h'=>v=xf (jG s)/\Sp h h' []:=by
 refine Re s ?_;unfold JJ;refine afr af ⟨_,rfl,rfl⟩ ⟨_,rfl,rfl⟩ ⟨_,rfl,rfl⟩ s fun r z o=>?_;have w:=o.rd 0 rfl;have E:=w.len;have D:=DV s;refine aw (fun i:Nat=>(i:Int)) (fun i h'=>i<=s.size/\h'=z/\∀c∈(iH s).take i,mH c=true) (fun i=>s.size-i) 0 rfl ⟨by omega,rfl,by simp⟩ ?_;rintro i q ⟨F,rfl,d⟩;refine ak (fun e=>?_) (fun e=>?_)
 ·have j:i<(iH s).length:=by
   have B:(i:Int)<(r.len:Int):=e;omega
  refine w.bz i rfl j ((iH s)[i].toNat:Int) rfl ?_;obtain⟨c,t⟩:∃c,c=(iH s)[i]:=⟨_,rfl⟩
  rw[<-t];have a:mH c=true->∃n:Nat,qc xh ((i:Int)+1)=(n:Int)/\(n<=s.size/\q=q/\∀c∈(iH s).take n,mH c=true)/\s.size-n<s.size-i:=fun p=>
   ⟨i+1,by rw[Go.Vc.wrap_small _ (by omega) (by omega)];rfl,⟨by omega,rfl,fun x k=>by
    rw[aJ _ _ j]at k;rcases qB.1 k with k|k
    ·exact d x k
    ·rw[qH.1 k,<-t];exact p⟩,by omega⟩
  have f:mH c=false->Value.bool false=xf (jG s)/\Sp h q []:=fun p=>by
   refine⟨?_,o.bO []⟩;unfold jG;have:s.data.toList.all mH=false:=yh.2 ⟨c,by rw[t];exact qg j,by rw[p];simp⟩;rw[this];rfl
  have b:mH c=true↔((97<=(c.toNat:Int)/\(c.toNat:Int)<=122)∨(48<=(c.toNat:Int)/\(c.toNat:Int)<=57)∨(c.toNat:Int)=45):=by
   unfold mH;simp[or_assoc];omega
  have g:mH c=false↔¬((97<=(c.toNat:Int)/\(c.toNat:Int)<=122)∨(48<=(c.toNat:Int)/\(c.toNat:Int)<=57)∨(c.toNat:Int)=45):=by
   rw[<-b];cases mH c<;>simp
  refine ak (fun u=>ak (fun e2=>ci (fun m=>f (g.2 (by omega))) fun m=>a (b.2 (by omega))) fun e2=>ak (fun m=>ci (fun l=>f (g.2 (by omega))) fun l=>a (b.2 (by omega))) fun m=>a (b.2 (by omega))) fun u=>ak (fun e2=>ak (fun m=>ci (fun l=>f (g.2 (by omega))) fun l=>a (b.2 (by omega))) fun m=>ak (fun l=>ci (fun A=>f (g.2 (by omega))) fun A=>a (b.2 (by omega))) fun l=>a (b.2 (by omega))) fun e2=>a (b.2 (by omega))
 ·have B:¬(i:Int)<(r.len:Int):=e;rw[qi (by omega)]at d;have y:s.data.toList.all mH=true:=qM.2 d;refine ak (fun u=>⟨?_,o.bO []⟩) (fun u=>⟨?_,o.bO []⟩)
  ·unfold jG;rw[y,decide_eq_true (show 1<=s.size by omega)];congr 1;simp;omega
  ·unfold jG;rw[y,decide_eq_false (show¬1<=s.size by omega)];rfl
theorem abg(s:Sl)(l:List Int)(a:Int)(h:Heap)(r:Rd h s 1 aD l)(z:l.length<=2^40):ae xl TH #[vY s.ptr s.len s.cap,vX xh a] h fun v h'=>v=xf (pC l a)/\h'=h:=by
 refine Rj s a ?_;unfold JM;have u:=r.len;refine aw (fun i:Nat=>(i:Int)) (fun i h'=>i<=l.length/\h'=h/\∀j,j<i->jw l a j=true) (fun i=>l.length-i) 0 rfl ⟨by omega,rfl,by omega⟩ ?_;rintro i f ⟨y,rfl,c⟩;refine ak (fun e=>?_) (fun e=>?_)
 ·have d:i<l.length:=by
   have t:(i:Int)<(s.len:Int):=e;omega
  refine r.bz i rfl d l[i] rfl ?_;have n:l.getD i 0=l[i]:=getD_lt d;have g:jw l a i=false->Value.bool false=xf (pC l a)/\f=f:=fun q=>⟨by unfold pC;rw[GD d q],rfl⟩
  have b:jw l a i=true->∃o:Nat,qc xh ((i:Int)+1)=(o:Int)/\(o<=l.length/\f=f/\∀j,j<o->jw l a j=true)/\l.length-o<l.length-i:=fun q=>
   ⟨i+1,by rw[Go.Vc.wrap_small _ (by omega) (by omega)];rfl,⟨by omega,rfl,fun j x=>by
    by_cases p:j=i
    ·rw[p];exact q
    ·exact c j (by omega)⟩,by omega⟩
  refine(sn l[i] 0 a f).mono ?_;rintro _ _ ⟨rfl,rfl⟩;refine⟨_,rfl,bi (fun m=>g (by unfold jw;rw[n,m];rfl)) fun m=>ak (fun e2=>?_) fun e2=>b (by unfold jw;rw[n,m,decide_eq_true (show i=0 by omega)];rfl)⟩;rw[Go.Vc.wrap_small ((i:Int)-1) (by omega) (by omega)];refine r.bz (i-1) (by omega) (by omega) (l[i-1]'(by omega)) rfl ?_;have k:l.getD (i-1) 0=l[i-1]'(by omega):=getD_lt (by omega);refine ak (fun w=>g ?_) (fun w=>b ?_)
  ·unfold jw;rw[n,k,m,decide_eq_false (show¬i=0 by omega),decide_eq_false (by omega)];rfl
  ·unfold jw;rw[n,k,m,decide_eq_true (show l[i-1]'(by omega)<l[i]by omega)];simp
 ·have t:¬(i:Int)<(s.len:Int):=e;exact⟨by unfold pC;rw[ub fun j x=>c j (by omega)],rfl⟩
theorem rj(p:Pm)(n:Int)(h:Heap)(r:n<=2^40):ae xl Ou #[kA p,vX xh n] h fun v h'=>v=vX xh (countP p n)/\Sp h h' []:=by
 refine Mb p n ?_;unfold Fg;refine(Sp.refl h).boxed fun q d g=>?_;refine aX ⟨p,(g.box 0 rfl).aO _ rfl,(dS p d).mono ?_⟩;rintro _ i ⟨rfl,l⟩;have b:=g.up l.ai;refine⟨_,rfl,bi (fun e=>⟨?_,b.bO []⟩) fun f=>ak (fun e=>⟨?_,b.bO []⟩) fun e=>?_⟩
 ·unfold countP;rw[e];rfl
 ·unfold countP;rw[decide_eq_false (show¬0<n by omega),Bool.and_false];rfl
 ·have k:=(bK p).1 f;refine⟨p,(b.box 0 rfl).aO _ rfl,?_⟩;refine(CW p (R:=fun v h'=>v=vX xh (p.1*p.2.2)/\Sp h h' []) ?_).mono ?_
  ·unfold xR;refine b.boxed fun m h3 c=>⟨p.1,(c.box 1 rfl).cell0 rfl,p.2.2,(c.box 1 rfl).cell rfl,?_,c.bO []⟩
   have o:p.1*p.2.2<=16*24:=wi (by omega) (by omega) (by omega) (by omega);have a:0<=p.1*p.2.2:=y9 (by omega) (by omega);rw[Go.Vc.wrap_small _ (by omega) (by omega)]
  ·rintro _ h3 ⟨rfl,j⟩;have a:0<p.1*p.2.2:=vR (by omega) (by omega);refine⟨_,rfl,Int.ne_of_gt a,?_,j⟩;have d:(n-1)/(p.1*p.2.2)<=n-1:=Int.ediv_le_self _ (by omega);have i:0<=(n-1)/(p.1*p.2.2):=Int.ediv_nonneg (by omega) (by omega);rw[Go.Vc.wrap_small (n-1) (by omega) (by omega),Int.tdiv_eq_ediv_of_nonneg (by omega),Go.Vc.wrap_small ((n-1)/(p.1*p.2.2)) (by omega) (by omega),Go.Vc.wrap_small _ (by omega) (by omega)];unfold countP;rw[f,decide_eq_true (show 0<n by omega)];rfl
theorem Wd(s:Sl)(l:List Int)(h:Heap)(f:Rd h s 1 aD l)(k:l.length<=2^40):ae xl jX #[vY s.ptr s.len s.cap,.func (.func pZ) #[] #[]] h fun v h'=>v=xf (!l.all (eV · 0 15))/\h'=h:=by
 refine jL s (pZ,#[],#[]) ?_;unfold gQ;have j:=f.len;refine(ia s (pZ,#[],#[]) (R:=fun v h'=>(∃i:Int,v=vX xh i/\(decide (i>=0)=!l.all (eV · 0 15)))/\h'=h) ?_).mono ?_
 ·unfold fT;refine aw (fun i:Nat=>(i:Int)) (fun i h'=>i<=l.length/\(l.take i).all (eV · 0 15)=true/\h'=h) (fun i=>l.length-i) 0 rfl ⟨by omega,by simp,rfl⟩ ?_;rintro i c ⟨d,a,rfl⟩;refine ak (fun e=>?_) (fun e=>?_)
  ·have b:i<l.length:=by
    have g:(i:Int)<(s.len:Int):=e;omega
   refine f.bz i rfl b l[i] rfl (fa (by rfl) ?_);refine(KH l[i] (R:=fun v h'=>v=xf (!eV l[i] 0 15)/\h'=c) ?_).mono ?_
   ·unfold Df;refine(sn l[i] 0 15 c).mono ?_;rintro _ _ ⟨rfl,rfl⟩;exact⟨_,rfl,rfl,rfl⟩
   ·rintro _ _ ⟨rfl,rfl⟩;refine⟨_,rfl,bi (fun e2=>?_) (fun e2=>?_)⟩
    ·refine⟨⟨i,rfl,?_⟩,rfl⟩;rw[decide_eq_true (show(i:Int)>=0 by omega)];have:l.all (eV · 0 15)=false:=yh.2 ⟨_,qg b,by rw[e2];simp⟩;rw[this];rfl
    ·refine⟨i+1,by rw[Go.Vc.wrap_small _ (by omega) (by omega)];rfl,⟨by omega,?_,rfl⟩,by omega⟩;rw[aJ _ _ b,yD,a];simp[e2]
  ·have g:¬(i:Int)<(s.len:Int):=e;refine⟨⟨-1,rfl,?_⟩,rfl⟩;rw[qi (by omega)]at a;rw[a];rfl
 ·rintro _ c ⟨⟨i,rfl,d⟩,rfl⟩;exact⟨i,rfl,by rw[d],rfl⟩
end Go.Proofs.YtdhamoojccmbdaaGreatDoor
namespace Wl
structure dp (m:aE):Prop where
 dr:m.drives.length<=2^30
 ob:m.objs.length<=2^30
 nm:∀e∈m.objs,e.name.size<=2^30/\e.tries.length<=2^30
end Wl
namespace Go.Vc
open Go
theorem addr_add(a:Addr)(i j:Nat):(a.add i).add j=a.add (i+j):=by
 unfold Addr.add;by_cases b:i=0<;>by_cases c:j=0<;>simp[b,c,yp]
theorem cy.uy{h:Heap}{a:Addr}{e:TypeId}{b:List Value}{v:Value}(c:cy h a e b)(i j:Nat)(d:b[i+j]?=some v):cellOf h ((a.add i).add j)=some v:=by
 rw[addr_add];exact c.cell d
theorem cy.Jb{h:Heap}{a:Addr}{e:TypeId}{b:List Value}{u v w:Value}(c:cy h a e b)(i:Nat)(d:b[i]?=some u)(g:b[i+1]?=some v)(f:b[i+2]?=some w):aj h (a.add i) 0 [u,v,w]:=
 ⟨c.uy i 0 d,c.uy i 1 g,c.uy i 2 f,trivial⟩
end Go.Vc
namespace Go.Proofs.YtdhamoojccmbdaaGreatDoor
open Go Go.Vc Go.Proofs Wl
abbrev Pj:bN C.toCB Oo aV 4 [xd ⟨#[]⟩,vX xh 0,vX xh 0,vY none 0 0] 56:=⟨_,_,rfl,rfl,rfl,rfl,rfl,rfl⟩
theorem YO(x:cv)(m:aE)(e:dZ)(E:Wl.bY)(h:Heap)(l:ff h x m)(G:fG oq h e E)(J:kD m=true)(R:E.name.size<=2^30)(L:E.tries.length<=2^30):
  ae xl Rk #[go x,xg #[xd e.1,vX xh e.2.1,vX xh e.2.2.1,vY e.2.2.2.ptr e.2.2.2.len e.2.2.2.cap]] h fun v h'=>v=xf (gv m E)/\Sp h h' []:=by
 refine OH x e ?_;unfold Hr;obtain⟨_,y,c,_⟩:=SM J;have F:=(bK m.p).1 c;obtain⟨⟨H,e2,w⟩,r⟩:=G;have g:x.2.2.1=m.p.1:=congrArg (·.1) l.p;have n:x.2.2.2.1=m.p.2.1:=congrArg (·.2.1) l.p;have d:x.2.2.2.2.1=m.p.2.2:=congrArg (·.2.2) l.p;have N:m.p.1*m.p.2.2<=16*24:=wi (by omega) (by omega) (by omega) (by omega);have A:0<=m.p.1*m.p.2.2:=y9 (by omega) (by omega);refine(Sp.refl h).boxed fun Q O I=>?_;refine I.boxed fun M z t=>?_;have j:∀{h':Heap} {As:List HP},Sp h h' As->gv m E=false->Value.bool false=xf (gv m E)/\Sp h h' []:=fun{h' As} H' f=>⟨by rw[f],.zip H'.ai⟩
 refine aX ⟨E.name,by rw[<-H];exact(t.box 1 rfl).cell0 rfl,(Qm E.name z (by omega)).mono ?_⟩;rintro _ h3 ⟨rfl,B⟩;have a:=t.up B.ai;refine⟨_,rfl,bi (fun b=>j a (by unfold gv;rw[b];rfl)) fun k=>?_⟩;refine⟨E.object,by rw[<-e2];exact(a.box 1 rfl).cell rfl,m.next,by rw[<-l.next];exact(a.box 0 rfl).cell rfl,?_⟩;rw[Go.Vc.wrap_small (m.next-1) (by omega) (by omega)];refine(sn E.object 0 (m.next-1) h3).mono ?_;rintro _ _ ⟨rfl,rfl⟩;refine⟨_,rfl,bi (fun b=>j a (by unfold gv;rw[k,b];rfl)) fun q=>?_⟩;have f:=a.box 0 rfl;refine⟨E.length,by rw[<-w];exact(a.box 1 rfl).cell rfl,m.p.1,by rw[<-g];exact f.cell rfl,m.p.2.2,by rw[<-d];exact f.uy 2 2 rfl,?_⟩;rw[Go.Vc.wrap_small (m.p.1*m.p.2.2) (by omega) (by omega),Go.Vc.wrap_small (m.p.1*m.p.2.2*8) (by omega) (by omega)];refine(sn E.length 0 (m.p.1*m.p.2.2*8) _).mono ?_;rintro _ _ ⟨rfl,rfl⟩;refine⟨_,rfl,bi (fun b=>j a (by unfold gv;rw[k,q,b];rfl)) fun i=>?_⟩;have u:0<=E.length/\E.length<=m.p.1*m.p.2.2*8:=by unfold eV at i;simpa using i
 refine⟨e.2.2.2,(a.box 1 rfl).cell rfl,?_⟩;refine(Wd e.2.2.2 E.tries _ (Seq.up r a.ai) (by omega)).mono ?_;rintro _ _ ⟨rfl,rfl⟩;refine⟨_,rfl,bi (fun b=>?_) (fun b=>⟨trivial,j a ?_⟩)⟩
 ·have o:E.tries.all (eV · 0 15)=true:=by simpa using b
  refine⟨e.2.2.2,(a.box 1 rfl).cell rfl,m.p,?_,E.length,by rw[<-w];exact(a.box 1 rfl).cell rfl,?_⟩
  ·rw[<-g,<-n,<-d];exact f.Jb 2 rfl rfl rfl
  ·refine(rj m.p E.length _ (by omega)).mono ?_;rintro _ P ⟨rfl,D⟩;have s:=a.up D.ai;refine⟨_,rfl,⟨(s.box 1 rfl).cell rfl,trivial⟩,?_,.zip s.ai⟩;unfold gv;have K:=r.len;rw[k,q,i,o,K];simp;rfl
 ·have o:E.tries.all (eV · 0 15)=false:=by simpa using b
  unfold gv;rw[k,q,i,o];rfl
theorem We(a:Addr)(e:dZ)(l:Sl)(b:List Wl.bY)(h:Heap)(q:cy h a aV (bI e))(r:fG xp h l b)(F:b.length<=2^30):
  ae xl ge #[vY l.ptr l.len l.cap,.func (.func ue) #[] #[vZ (some a)]] h fun v h'=>v=xf (b.any fun y=>decide (y.object=e.2.1))/\Sp h h' []:=by
 refine fV l (ue,#[],#[vZ (some a)]) ?_;unfold dY;refine(gE l (ue,#[],#[vZ (some a)]) (R:=fun v h'=>(∃i:Int,v=vX xh i/\(decide (i>=0)=b.any fun y=>decide (y.object=e.2.1)))/\Sp h h' []) ?_).mono ?_
 ·unfold eZ;obtain⟨p,z,E,w⟩:=cO.sH r;have s:=cO.len r;refine aw (fun i:Nat=>(i:Int)) (fun i h'=>i<=b.length/\(b.take i).any (fun y=>decide (y.object=e.2.1))=false/\Sp h h' []) (fun i=>b.length-i) 0 rfl ⟨by omega,by simp,Sp.refl h⟩ ?_;rintro i k ⟨o,c,j⟩;refine ak (fun m=>?_) (fun m=>?_)
  ·have d:i<b.length:=by
    have x:(i:Int)<(l.len:Int):=m;omega
   obtain⟨⟨_,u,_⟩,_⟩:=w i (by omega) d;refine(Seq.up z j.ai).dI (g:=bI) i rfl (by omega) (p[i]'(by omega)) rfl (fa (by rfl) ?_);refine(OI (p[i]'(by omega)) a (R:=fun v h'=>v=xf (b[i].object==e.2.1)/\Sp k h' []) ?_).mono ?_
   ·unfold Hs;refine(Sp.refl k).boxed fun D t f=>?_;have n:=q.ai (up j.ai f.ai) q.lt;exact⟨b[i].object,by rw[<-u];exact(f.box 0 rfl).cell rfl,e.2.1,n.cell rfl,rfl,.zip f.ai⟩
   ·rintro _ t ⟨rfl,A⟩;have f:=j.up A.ai;refine⟨_,rfl,cw (fun e2=>?_) (fun e2=>?_)⟩
    ·refine⟨⟨i,rfl,?_⟩,f⟩;rw[decide_eq_true (show(i:Int)>=0 by omega)];exact(wm.2 ⟨_,qg d,by simpa using e2⟩).symm
    ·refine⟨i+1,by rw[Go.Vc.wrap_small _ (by omega) (by omega)];rfl,⟨by omega,?_,f⟩,by omega⟩;rw[aJ _ _ d,yX,c];simpa using e2
  ·have x:¬(i:Int)<(l.len:Int):=m;refine⟨⟨-1,rfl,?_⟩,j⟩;rw[qi (by omega)]at c;rw[c];rfl
 ·rintro _ k ⟨⟨i,rfl,o⟩,B⟩;exact⟨i,rfl,by rw[o],B⟩
theorem KS(x:cv)(m:aE)(h:Heap)(f:ff h x m)(I:dp m):ae xl VG #[go x] h fun v h'=>v=xf (bP m)/\Sp h h' []:=by
 refine Tw x ?_;unfold Mg;refine(Sp.refl h).boxed fun J h1 E=>?_;have w:=E.box 0 rfl;have O:x.2.2.1=m.p.1:=congrArg (·.1) f.p;have L:x.2.2.2.1=m.p.2.1:=congrArg (·.2.1) f.p;have T:x.2.2.2.2.1=m.p.2.2:=congrArg (·.2.2) f.p;have s:∀{h':Heap} {As:List HP},Sp h h' As->bP m=false->Value.bool false=xf (bP m)/\Sp h h' []:=fun{h' As} H' w=>⟨by rw[w],.zip H'.ai⟩
 refine aX ⟨m.seq,by rw[<-f.seq];exact w.cell0 rfl,(sn m.seq 1 2147483647 h1).mono ?_⟩;rintro _ _ ⟨rfl,rfl⟩;refine⟨_,rfl,bi (fun b=>s E (by unfold bP kD;rw[b];rfl)) fun H=>?_⟩;refine⟨m.next,by rw[<-f.next];exact w.cell rfl,(sn m.next 0 16777216 _).mono ?_⟩;rintro _ _ ⟨rfl,rfl⟩;refine⟨_,rfl,bi (fun b=>s E (by unfold bP kD;rw[H,b];rfl)) fun U=>?_⟩;refine⟨m.p,by rw[<-O,<-L,<-T];exact w.Jb 2 rfl rfl rfl,(dS m.p _).mono ?_⟩;rintro _ h2 ⟨rfl,R2⟩;have o:=E.up R2.ai;refine⟨_,rfl,bi (fun b=>s o (by unfold bP kD;rw[H,U,b];rfl)) fun b3=>?_⟩;refine⟨m.extra,by rw[<-f.extra];exact(o.box 0 rfl).cell rfl,(sn m.extra 0 16 _).mono ?_⟩;rintro _ _ ⟨rfl,rfl⟩;refine⟨_,rfl,bi (fun b=>s o (by unfold bP kD;rw[H,U,b3,b];rfl)) fun b4=>?_⟩;have G:kD m=true:=by unfold kD;rw[H,U,b3,b4];rfl
 have N:=f.up o.ai;have y:=o.box 0 rfl;have ah:=I.dr;have ad:=I.ob;refine aX ⟨_,y.cell rfl,(abg _ m.drives 63 _ N.drives (by omega)).mono ?_⟩;rintro _ _ ⟨rfl,rfl⟩;refine⟨_,rfl,bi (fun b=>s o (by unfold bP;rw[G,b];rfl)) fun W=>?_⟩;have Y:=cO.len f.objs;refine⟨x.2.2.2.2.2.2.2,y.cell rfl,ak (fun e=>s o ?_) fun ab=>?_⟩
 ·unfold bP;rw[G,W,decide_eq_false (by omega)];rfl
 have R:m.objs.length<=12:=by omega
 refine⟨x.2.2.2.2.2.2.2,y.cell rfl,?_⟩;obtain⟨l,B⟩:=cO.fix f.objs;have am:=B.2.1;refine aw (fun i:Nat=>(i:Int)) (fun i h'=>i<=m.objs.length/\(∀j,j<i->pD m j=true)/\Sp h h' [aq J aF (aZ x)]) (fun i=>m.objs.length-i) 0 rfl ⟨by omega,by omega,o⟩ ?_;rintro i h3 ⟨hi,q,S⟩;refine ak (fun e=>?_) (fun e=>?_)
 ·have c:i<m.objs.length:=by
   have e':(i:Int)<(x.2.2.2.2.2.2.2.len:Int):=e;omega
  have D:=I.nm _ (qg c);have d:pB m.objs i=m.objs[i]:=oB c;have z:∀{h':Heap} {As:List HP},Sp h h' As->pD m i=false->Value.bool false=xf (bP m)/\Sp h h' []:=fun{h' As} H' w=>s H' (by unfold bP;rw[GD c w];simp);have F3:=nX.up B S.ai;refine F3.1.dI (g:=bI) i rfl (by omega) (l[i]'(by omega)) rfl ?_;refine S.alloc af rfl fun u h4 H4=>?_;refine H4.storeAll af 1 rfl rfl (bI (l[i]'(by omega))) rfl rfl rfl rfl fun X A=>?_;have A:Sp h X [aq J aF (aZ x),aq u aV (bI (l[i]'(by omega)))]:=A;have V:=nX.up B A.ai;obtain⟨⟨y1,y2,y3⟩,y4⟩:=Fix.row V c;obtain⟨b6,k⟩:∃b,b=(decide (i=0)||eG (pB m.objs (i-1)).name (pB m.objs i).name):=⟨_,rfl⟩
  refine co (fun _ h'=>gv m m.objs[i]=true/\b6=true/\Sp h h' [aq J aF (aZ x),aq u aV (bI (l[i]'(by omega)))]) ?_ ?_
  ·refine⟨x,(A.box 0 rfl).aO _ rfl,l[i]'(by omega),(A.box 1 rfl).aO _ rfl,?_⟩;refine(YO x m (l[i]'(by omega)) m.objs[i] X (f.up A.ai) (Fix.row V c) G D.1 D.2).mono ?_;rintro _ h6 ⟨rfl,R6⟩;have a:=A.up R6.ai;have F:=nX.up B a.ai;refine⟨_,rfl,trivial,bi (fun b=>z a (by unfold pD;rw[d,b];rfl)) fun b=>ak (fun e2=>?_) fun e2=>⟨b,by rw[k,decide_eq_true (show i=0 by omega)];rfl,a⟩⟩;rw[Go.Vc.wrap_small ((i:Int)-1) (by omega) (by omega)];obtain⟨M,ha,zz,hc,rfl⟩:=F.1.dI (g:=bI) (i:=(i:Int)-1) (i-1) (by omega) (by omega) (l[i-1]'(by omega)) rfl (K:=fun t=>t=l[i-1]'(by omega)) rfl;refine⟨x.2.2.2.2.2.2.2,(a.box 0 rfl).cell rfl,M,ha,m.objs[i-1].name,?_,m.objs[i].name,?_,?_⟩
   ·rw[<-(Fix.row F (show i-1<m.objs.length by omega)).1.1];exact hc.1
   ·rw[<-y1];exact(a.box 1 rfl).cell0 rfl
   ·have n:pB m.objs (i-1)=m.objs[i-1]:=oB (by omega);rw[d,n]at k;refine bi (fun r=>z a ?_) (fun r=>⟨b,?_,a⟩)
    ·unfold pD;rw[d,n,b,decide_eq_false (show¬i=0 by omega)];unfold eG;rw[r];rfl
    ·rw[k];unfold eG;rw[r];simp
  ·rintro _ h6 ⟨b,Q,a⟩;have F:=nX.up B a.ai;refine⟨x.2.2.2.2.2.2.2,(a.box 0 rfl).cell rfl,⟨by omega,by have:=f.ocap;omega⟩,?_⟩;rw[qo];refine(We u (l[i]'(by omega)) ⟨x.2.2.2.2.2.2.2.ptr,i,x.2.2.2.2.2.2.2.cap⟩ (m.objs.take i) h6 (a.box 1 rfl) (cO.take F.elt i (by omega)) (by simp;omega)).mono ?_;rintro _ h7 ⟨rfl,R7⟩;have Z:=a.up R7.ai;rw[y2];refine⟨_,rfl,bs (fun r=>z Z ?_) fun r=>?_⟩
   ·unfold pD;rw[d,r];simp
   ·refine⟨i+1,by rw[Go.Vc.wrap_small _ (by omega) (by omega)];rfl,⟨by omega,fun j hj=>?_,Z.bO [0]⟩,by omega⟩;by_cases P:j=i
    ·subst P;rw[Q]at k;unfold pD;rw[<-k,d,b,r];rfl
    ·exact q j (by omega)
 ·have e':¬(i:Int)<(x.2.2.2.2.2.2.2.len:Int):=e;refine⟨?_,.zip S.ai⟩;unfold bP;rw[G,W,decide_eq_true R,ub fun j hj=>q j (by omega)];rfl
section
variable {B:aA} {h0 h:Heap} {As:List HP}
theorem sN(s:Sl)(l:List UInt8)(n:Int)(k:Nat)(q:k<=4)(x:l.length<=2^20)(H:aa B h0 h (an aC s 1 aB l::As)):
  ae xl OP #[vY s.ptr s.len s.cap,vX xh n,vX xh k] h fun v h'=>∃a:Sl,v=vY a.ptr a.len a.cap/\aa B h0 h' (an aC a 1 aB (l++bL n k)::As):=by
 refine Mw s n k ?_;unfold Fx;have f:=ck n k;refine aw (fun t:Sl×Nat=>(t.1,(k:Int)-1-t.2)) (fun t h'=>t.2<=k/\aa B h0 h' (an aC t.1 1 aB (l++(bL n k).take t.2)::As)) (fun t=>k-t.2) (s,0) (by rw[Go.Vc.wrap_small _ (by omega) (by omega)];simp) ⟨by simp,by simpa using H⟩ ?_;rintro⟨o,j⟩ u ⟨w,b⟩;dsimp only at*;refine ak (fun e=>?_) (fun e=>?_)
 ·have m:j<k:=by omega
  rw[Go.Vc.wrap_small ((8:Int)*((k:Int)-1-j)) (by omega) (by omega)];refine⟨by omega,?_⟩;have c:((8:Int)*((k:Int)-1-j)).toNat=8*(k-1-j):=by omega
  have g:min (8*(k-1-j)) (qk xh)=8*(k-1-j):=by
   have:qk xh=64:=rfl;omega
  rw[c,g,dQ];have d:b8 (qT n (2^(8*(k-1-j))))=(bL n k)[j]'(by omega):=by simp[bL]
  rw[d];refine b.push af 0 rfl fX rfl (by decide) (fun _=>rfl) gp ((bL n k)[j]'(by omega)) rfl (by decide) (by simp;omega) fun p r i=>?_;refine⟨(p,j+1),by dsimp only;rw[Go.Vc.wrap_small _ (by omega) (by omega)];congr 1;omega,⟨by dsimp only;omega,?_⟩,by dsimp only;omega⟩;dsimp only;rw[aJ _ _ (show j<(bL n k).length by omega),<-qp];exact i
 ·rw[qi (by omega)]at b;exact⟨o,rfl,b⟩
theorem MZ(b:Sl)(l:List Int)(o:Sl)(c:List UInt8)(H:aa B h0 h (an aC o 1 aB c::As))(q:St B h0 As fun h=>Rd h b 1 aD l)(F:c.length<=2^30)(G:l.length<=2^30){K:Sl×Int->Heap->Prop}
  (v:∀r h',aa B h0 h' (an aC r 1 aB (c++l.map b8)::As)->K (r,(l.length:Int)) h'):
  aM (σ:=Sl×Int) (fun a z h8=>
 Br (decide (a.2<((b.len:Nat):Int)))
 (∃j:Addr,(b.ptr=some j/\0<=a.2/\a.2<((b.len:Nat):Int))/\
 ∃k:Int,cellOf h8 (j.add (a.2.toNat*1))=some (vX xh k)/\
 av xl (qq aH 1 #[(0,(vX xi (qc xi k)))]) (.one (.sc .slc)) h8 fun d s=>
 av xl (qt #[aH,aH] aH #[(vY a.1.ptr a.1.len a.1.cap),(vY d.ptr d.len d.cap)]) (.one (.sc .slc)) s fun f p=>
 z ((⟨f.ptr,f.len,f.cap⟩:Sl),qc xh (a.2+(1:Int))) p)
 (K a h8)) (o,(0:Int)) h:=by
 have y:b.len=l.length:=(q.at [_] H).len;refine aw (fun t:Sl×Nat=>(t.1,(t.2:Int))) (fun t h'=>t.2<=l.length/\aa B h0 h' (an aC t.1 1 aB (c++(l.take t.2).map b8)::As)) (fun t=>l.length-t.2) (o,0) rfl ⟨by simp,by simpa using H⟩ ?_;rintro⟨u,i⟩ w ⟨D,m⟩;dsimp only at*;refine ak (fun e=>?_) (fun e=>?_)
 ·have g:i<l.length:=by omega
  refine(q.at [_] m).bz i rfl g l[i] rfl ?_;rw[dQ];refine m.push af 0 rfl fX rfl (by decide) (fun _=>rfl) gp (b8 l[i]) rfl (by decide) (by simp;omega) fun x E A=>?_;refine⟨(x,i+1),by dsimp only;rw[Go.Vc.wrap_small _ (by omega) (by omega)];rfl,⟨by dsimp only;omega,?_⟩,by dsimp only;omega⟩;dsimp only;rw[aJ _ _ g,qS,<-qp];exact A
 ·have n:i=l.length:=by omega
  subst n;rw[qR]at m;exact v u w m
end
theorem afL{m:aE}(a:bP m=true){i:Nat}(b:i<m.objs.length):gv m m.objs[i]=true:=by
 unfold bP at a;simp only[qz]at a;have:=qM.1 a.2.2.2 i (qF.2 b);unfold pD at this;simp only[qz]at this;have c:=this.1
 rwa [oB b]at c
theorem abh{m:aE}(c:bP m=true){i:Nat}(e:i<m.objs.length):m.objs[i].name.size<=12/\m.objs[i].tries.length<=3073:=by
 have b:=afL c e;unfold gv jG at b;simp only[qz,decide_eq_true_eq]at b;obtain⟨⟨_,_,g⟩,_,h3,_,d⟩:=b;refine⟨g,?_⟩;obtain⟨_,_,a,_⟩:=SM (aas c);have f:=(bK m.p).1 a;unfold eV at h3;simp only[qz,decide_eq_true_eq]at h3;have j:m.p.1*m.p.2.2<=16*24:=wi (by omega) (by omega) (by omega) (by omega);unfold countP at d;split at d
 ·have:(m.objs[i].length-1)/(m.p.1*m.p.2.2)<=m.objs[i].length-1:=Int.ediv_le_self _ (by rename_i h;simp at h;omega);omega
 ·omega
theorem abi{m:aE}(b:bP m=true){i:Nat}(a:i<m.objs.length):(iT m.objs[i]).length<=4000:=by
 have:=abh b a;unfold iT;simp[ck];have:m.objs[i].name.data.size=m.objs[i].name.size:=rfl;omega
theorem Ia{m:aE}(a:bP m=true):∀n,n<=m.objs.length->((m.objs.take n).flatMap iT).length<=n*4000
 |0,_=>by simp
 |n+1,hn=>by
  rw[aJ _ _ (show n<m.objs.length by omega),zc,qw];have c:=Ia a n (by omega);have b:=abi a (show n<m.objs.length by omega);have h3:([m.objs[n]].flatMap iT).length=(iT m.objs[n]).length:=by rw[zl,wj,qQ]
  omega
theorem KT{m:aE}(a:bP m=true):m.objs.length<=12:=by
 unfold bP at a;simp only[qz,decide_eq_true_eq]at a;exact a.2.2.1
theorem KU(m:aE)(h:dp m):(gj m).length<=100000:=by
 unfold gj;split
 ·rename_i c;have f:=c;unfold bP at f;simp only[qz,decide_eq_true_eq]at f;have j:m.drives.length<=64:=by
   have a:=f.2.1;unfold pC at a;rw[qM]at a;by_cases g:m.drives.length<=64
   ·exact g
   ·exfalso;have d:∀i,i<m.drives.length->(i:Int)<=m.drives.getD i 0:=fun i=>by
     induction i with
     |zero=>
      intro b;have:=a 0 (qF.2 b);unfold jw eV at this;simp at this;simpa using this.1
     |succ i ih=>
      intro b;have:=a (i+1) (qF.2 b);have h3:=ih (by omega);unfold jw eV at this;simp at this;have e:=this.2;simp only[qe]at h3⊢;omega
    have h3:=d 64 (by omega);have e:=a 64 (qF.2 (by omega));unfold jw eV at e;simp at e;simp only[qe]at h3;omega
  have k:(m.objs.flatMap iT).length<=12*4000:=by
   have a:=Ia c m.objs.length (ql _);rw[qR]at a;have:=zr 4000 (KT c);omega
  simp only[qw,zb,ym,qx,ck];omega
 ·simp
theorem abj(x:cv)(m:aE)(h:Heap)(d:ff h x m)(U:dp m):ae xl TA #[go x] h fun v h'=>∃r:Sl,v=vY r.ptr r.len r.cap/\Sp h h' [an aC r 1 aB (gj m)]:=by
 refine Rc x ?_;unfold JI;refine(Sp.refl h).boxed fun V h1 Y=>?_;refine⟨x,(Y.box 0 rfl).aO _ rfl,(KS x m h1 (d.up Y.ai) U).mono ?_⟩;rintro _ h2 ⟨rfl,R2⟩;have H2:=Y.up R2.ai;refine⟨_,rfl,bi (fun e=>?_) fun z=>?_⟩
 ·unfold gj;rw[e];exact⟨⟨none,0,0⟩,rfl,((H2.nil aC 1 aB).bO [1])⟩
 have ab:x.2.2.1=m.p.1:=congrArg (·.1) d.p;have X:x.2.2.2.1=m.p.2.1:=congrArg (·.2.1) d.p;have a2:x.2.2.2.2.1=m.p.2.2:=congrArg (·.2.2) d.p;have G:=H2.box 0 rfl;have b:=KU m U;unfold gj at b;rw[z,if_pos rfl]at b;have hM:∀{h':Heap} {As:List HP},Sp h h' As->ff h' x m:=fun{h' As} J=>d.up J.ai;refine aX ⟨m.seq,by rw[<-d.seq];exact G.cell0 rfl,m.next,by rw[<-d.next];exact G.cell rfl,?_⟩;have H3:=(H2.nil aC 1 aB).bM;refine(sN ⟨none,0,0⟩ [] m.seq 4 (by decide) (by simp) H3).mono ?_;rintro _ h4 ⟨s4,rfl,H4⟩;refine⟨s4,rfl,⟨by rw[<-d.next];exact(H4.box 1 rfl).cell rfl,trivial⟩,?_⟩;refine(sN s4 _ m.next 4 (by decide) (by simp[ck]) H4).mono ?_;rintro _ h5 ⟨s5,rfl,H5⟩;refine⟨s5,rfl,trivial,?_⟩;have j:=H5.box 1 rfl;refine⟨m.p.1,by rw[<-ab];exact j.cell rfl,m.p.2.1,by rw[<-X];exact j.uy 2 1 rfl,m.p.2.2,by rw[<-a2];exact j.uy 2 2 rfl,m.extra,by rw[<-d.extra];exact j.cell rfl,x.2.2.2.2.2.2.1,j.cell rfl,?_⟩;have ao:=d.drives.len;have ah:=cO.len d.objs;rw[dQ,dQ,dQ,dQ,dQ,ao];refine H5.lit af aB fX rfl [b8 m.p.1,b8 m.p.2.1,b8 m.p.2.2,b8 m.extra,b8 (m.drives.length:Nat)] rfl (show 5*1<=2^20 by decide) rfl fun a9 h6 H6=>?_;refine H6.append af 0 rfl fX ⟨_,_,rfl,rfl⟩ rfl (by decide) (fun _=>rfl) (H6.seq 2 rfl fun _=>rfl) gp (by simp[ck]) fun s7 h7 Q=>?_;have Q:=Q.bO [0,1];refine⟨x.2.2.2.2.2.2.1,(Q.box 1 rfl).cell rfl,?_⟩;have a6:(([]++bL m.seq 4)++bL m.next 4++[b8 m.p.1,b8 m.p.2.1,b8 m.p.2.2,b8 m.extra,b8 (m.drives.length:Nat)]).length=13:=by simp[ck]
 have a8:=U.dr;refine MZ x.2.2.2.2.2.2.1 m.drives s7 _ Q (St.mk' fun h' J=>(hM J).drives) (by omega) (by omega) fun s8 h8 T=>?_;dsimp only;refine⟨x.2.2.2.2.2.2.2,(T.box 1 rfl).cell rfl,?_⟩;rw[dQ,ah];obtain⟨a,c⟩:∃a,a=([]++bL m.seq 4)++bL m.next 4++[b8 m.p.1,b8 m.p.2.1,b8 m.p.2.2,b8 m.extra,b8 (m.drives.length:Nat)]++m.drives.map b8:=⟨_,rfl⟩
 rw[<-c]at T;have ay:a.length=13+m.drives.length:=by rw[c];simp[ck];omega
 simp only[qw,zb,ym,qx,ck]at b;refine T.push af 0 rfl fX rfl (by decide) (fun _=>rfl) gp (b8 (m.objs.length:Nat)) rfl (by decide) (by omega) fun s9 h9 R=>?_;have R:Sp h h9 [an aC s9 1 aB (a++[b8 (m.objs.length:Nat)]),aq V aF (aZ x)]:=R;refine⟨x.2.2.2.2.2.2.2,(R.box 1 rfl).cell rfl,?_⟩;obtain⟨H,P⟩:=cO.fix d.objs;have bk:=P.2.1;refine aw (fun t:Sl×Nat=>(t.1,(t.2:Int))) (fun t h'=>t.2<=m.objs.length/\Sp h h' [an aC t.1 1 aB (a++[b8 (m.objs.length:Nat)]++(m.objs.take t.2).flatMap iT),aq V aF (aZ x)]) (fun t=>m.objs.length-t.2) (s9,0) rfl ⟨by simp,by simpa using R⟩ ?_;rintro⟨o,i⟩ bb ⟨hi,k⟩;dsimp only at*;refine ak (fun e=>?_) (fun e=>?_)
 ·have n:i<m.objs.length:=by omega
  have ax:=nX.up P k.ai;have a4:=abh z n;have u:((m.objs.take i).flatMap iT).length<=50000:=by
   have h1:=Ia z i hi;have:=KT z;have:i*4000<=12*4000:=zr _ (by omega);omega
  refine ax.1.dI (g:=bI) i rfl (by omega) (H[i]'(by omega)) rfl ?_;refine k.alloc af rfl fun W b1 am=>?_;refine am.storeAll af 2 rfl rfl (bI (H[i]'(by omega))) rfl rfl rfl rfl fun a0 f=>?_;have a5:=nX.up P f.ai;obtain⟨⟨w,y2,S⟩,y4⟩:=Fix.row a5 n;obtain⟨E,hE⟩:∃E,E=m.objs[i]:=⟨_,rfl⟩
  rw[<-hE]at w y2 S y4 a4;have s:=f.box 2 rfl;refine aX ⟨E.name,by rw[<-w];exact s.cell0 rfl,E.name,by rw[<-w];exact s.cell0 rfl,?_⟩;rw[dQ];refine f.rU af aB fX rfl [b8 (E.name.size:Nat)] rfl (show 1*1<=2^20 by decide) rfl ⟨by rw[<-w];exact s.cell0 rfl,by rw[<-w];exact s.cell0 rfl,trivial⟩ ?_;have K:(a++[b8 (m.objs.length:Nat)]++(m.objs.take i).flatMap iT).length<=160000:=by rw[qw,qw,ay];simp;simp at u;omega
  obtain⟨l,B⟩:∃l,l=a++[b8 (m.objs.length:Nat)]++(m.objs.take i).flatMap iT:=⟨_,rfl⟩
  rw[<-B]at f K;refine f.push af 0 rfl fX rfl (by decide) (fun _=>rfl) gp (b8 (E.name.size:Nat)) rfl (by decide) (by omega) fun bq bl I=>?_;have D:=I.box 2 rfl;refine⟨⟨by rw[<-w];exact D.cell0 rfl,by rw[<-w];exact D.cell0 rfl,trivial⟩,?_⟩;refine I.aar af 0 rfl fX ⟨_,rfl,rfl⟩ rfl (by decide) E.name (by simp;omega) fun A ad q=>?_;have y:=q.box 2 rfl;refine⟨⟨by rw[<-w];exact y.cell0 rfl,trivial⟩,?_⟩;have q:Sp h ad [an aC A 1 aB (l++[b8 (E.name.size:Nat)]++iH E.name),aq V aF (aZ x),aq W aV (bI (H[i]'(by omega)))]:=q;refine aX ⟨E.object,by rw[<-y2];exact y.cell rfl,E.length,by rw[<-S];exact y.cell rfl,?_⟩;have b0:=DV E.name;refine(sN A _ E.object 3 (by decide) (by simp;omega) q).mono ?_;rintro _ a7 ⟨M,rfl,N⟩;have Z:=N.box 2 rfl;refine⟨M,rfl,⟨by rw[<-S];exact Z.cell rfl,trivial⟩,?_⟩;refine(sN M _ E.length 2 (by decide) (by simp[ck];omega) N).mono ?_;rintro _ bd ⟨F,rfl,O⟩;have a3:=O.box 2 rfl;refine⟨F,rfl,trivial,(H[i]'(by omega)).2.2.2,a3.cell rfl,?_⟩;refine MZ (H[i]'(by omega)).2.2.2 E.tries F _ O (St.mk' fun h' J=>by rw[hE];exact(Fix.row (nX.up P J.ai) n).2) (by simp[ck];omega) (by omega) fun ap br L=>?_;dsimp only;have a0:=KT z;refine⟨(ap,i+1),by dsimp only;rw[Go.Vc.wrap_small _ (by omega) (by omega)];rfl,⟨by dsimp only;omega,?_⟩,by dsimp only;omega⟩;dsimp only;rw[aJ _ _ n,zc,<-qp,<-B,zl,wj,qQ,<-hE];have e3:l++[b8 (E.name.size:Nat)]++iH E.name++bL E.object 3++bL E.length 2++E.tries.map b8=l++iT E:=by
   unfold iT iH;simp[qp]
  rw[e3]at L;exact L.bO [0,1]
 ·rw[qi (by omega)]at k;refine⟨o,rfl,?_⟩;have e2:a++[b8 (m.objs.length:Nat)]++m.objs.flatMap iT=gj m:=by
   rw[c];unfold gj;rw[z,if_pos rfl];simp[qp]
  rw[e2]at k;exact k.bO [0]
end Go.Proofs.YtdhamoojccmbdaaGreatDoor
namespace Go.Vc
open Go Wl
def eO{α:Type}(k:Nat)(f:α->List Value)(L:List (Sl×List α)):HP:=⟨fun h q=>∀y∈L,Seq h q y.1 k f y.2,fun a d y b=>(a y b).ai d,fun a c y b=>(a y b).mono c⟩
section
variable {α:Type} {B:aA} {h0 h:Heap} {As:List HP} {k:Nat} {f:α->List Value} {L:List (Sl×List α)} {s:Sl} {l:List α}
theorem aa.Xu(H:aa B h0 h As)(k:Nat)(f:α->List Value):aa B h0 h (eO k f []::As):=
 (H.comp (.one (A:=eO k f []) (aU.refl _ _) (fun y a=>by cases a))).bM
theorem aa.Xv(H:aa B h0 h (eO k f L::tW s k f l::As)):aa B h0 h (eO k f ((s,l)::L)::As):=by
 have g:aa B h0 h ((tW s k f l).sep (eO k f L)::As):=H.pA;refine g.gq 0 rfl fun q ⟨j,i,_,b,c,d,e⟩ y a=>?_;rcases za.1 a with rfl|a
 ·exact d.mono b
 ·exact(e y a).mono c
end
end Go.Vc
namespace Go.Proofs.YtdhamoojccmbdaaGreatDoor
open Go Go.Vc Go.Proofs Wl
theorem agX(n:Int):bL n 4=[b8 (qT n (2^24)),b8 (qT n (2^16)),b8 (qT n (2^8)),b8 n]:=by
 have e:qT n (2^0)=n:=by simp
 show[b8 (qT n (2^24)),b8 (qT n (2^16)),b8 (qT n (2^8)),b8 (qT n (2^0))]=_;rw[e]
theorem abk(seq a c:Int)(b:Sl)(l:List UInt8)(h:Heap)(q:Rd h b 1 aB l)(x:l.length<=2^20):ae xl VI #[vX xh seq,vX xh a,vX xh c,vY b.ptr b.len b.cap] h fun v h'=>∃r:Sl,v=vY r.ptr r.len r.cap/\Sp h h' [an aC r 1 aB (jQ seq a c l)]:=by
 refine TB seq a c b ?_;unfold Mk;refine⟨by decide,by decide,by decide,?_⟩;have g:min (24:Int).toNat (qk xh)=24:=rfl;have i:min (16:Int).toNat (qk xh)=16:=rfl;have s:min (8:Int).toNat (qk xh)=8:=rfl;rw[g,i,s,dQ,dQ,dQ,dQ,dQ,dQ,dQ];have d:=agX seq;generalize b8 (qT seq (2^24))=c1 at d⊢;generalize b8 (qT seq (2^16))=c2 at d⊢;generalize b8 (qT seq (2^8))=c3 at d⊢;generalize b8 seq=c4 at d⊢;have e:jQ seq a c l=eu 2 ([c1,c2,c3,c4]++([b8 a,b8 c,b8 (b.len:Nat)]++l)):=by unfold jQ;rw[d,q.len]
 generalize b8 a=c5 at e⊢;generalize b8 c=c6 at e⊢;generalize b8 (b.len:Nat)=c7 at e⊢;refine(Sp.refl h).lit af aB fX rfl [c1,c2,c3,c4,c5,c6,c7] rfl (show 7*1<=2^20 by decide) (by kernel_rfl) fun w u p=>?_;refine p.append af 0 rfl fX ⟨_,_,rfl,rfl⟩ rfl (by decide) (fun _=>rfl) (Seq.up q p.ai) gp (by simp;omega) fun o m n=>?_;have k:Rd m o 1 aB ([c1,c2,c3,c4,c5,c6,c7]++l):=n.seq 0 rfl fun _=>rfl;have f:([c1,c2,c3,c4,c5,c6,c7]++l).length<=2^40:=by simp;omega
 rw[e];have j:[c1,c2,c3,c4,c5,c6,c7]++l=[c1,c2,c3,c4]++([c5,c6,c7]++l):=rfl;rw[<-j];generalize [c1,c2,c3,c4,c5,c6,c7]++l=ll at k f⊢;refine(HZ 2 o ll m k f).mono ?_;rintro _ h3 ⟨r,rfl,t⟩;exact⟨r,rfl,r,rfl,(aa.comp (Sp.zip n.ai) t)⟩
theorem ny(x:cv)(m:aE)(h:Heap)(E:ff h x m)(B:dp m):ae xl QW #[go x] h fun v h'=>∃r:Sl,v=vY r.ptr r.len r.cap/\Sp h h' [dV r (be m)]:=by
 refine Ov x ?_;unfold He;refine(Sp.refl h).boxed fun D G s=>?_;refine⟨x,(s.box 0 rfl).aO _ rfl,(abj x m G (E.up s.ai) B).mono ?_⟩;rintro _ F ⟨b,rfl,M⟩;have j:=s.comp M;have n:=KU m B;obtain⟨l,u⟩:∃l,l=gj m:=⟨_,rfl⟩
 rw[<-u]at j n;have I:=(j.own 1 rfl).len;have p:=(j.own 1 rfl).cap;refine⟨b,rfl,by decide,?_⟩;have g:qc xh (wH (qc xh ((qc xh (((b.len:Nat):Int)+(48:Int)))-(1:Int))) (48:Int))=(gT l:Int):=by
  rw[Go.Vc.wrap_small ((b.len:Int)+48) (by omega) (by omega),Go.Vc.wrap_small ((b.len:Int)+48-1) (by omega) (by omega),Int.tdiv_eq_ediv_of_nonneg (by omega)];unfold gT;rw[Go.Vc.wrap_small (((b.len:Int)+48-1)/48) (by omega) (by omega)];omega
 have O:gT l<=3000:=by unfold gT;omega
 rw[g];obtain⟨f,a⟩:∃f:List (List UInt8),f=be m:=⟨_,rfl⟩
 have A:f.length=gT l:=by rw[a,u];simp[be]
 have d:Sp h F [dV ⟨none,0,0⟩ (f.take 0),aq D aF (aZ x),an aC b 1 aB l]:=j.Gy aH aC 1 aB;refine aw (fun t:Sl×Nat=>(t.1,(t.2:Int))) (fun t h'=>t.2<=gT l/\Sp h h' [dV t.1 (f.take t.2),aq D aF (aZ x),an aC b 1 aB l]) (fun t=>gT l-t.2) (⟨none,0,0⟩,0) rfl ⟨by simp,d⟩ ?_;rintro⟨o,i⟩ h3 ⟨Q,d⟩;dsimp only at*;refine ak (fun e=>?_) (fun e=>?_)
 ·have q:i<gT l:=by omega
  have y:48*i<l.length:=by unfold gT at q;omega
  rw[Go.Vc.wrap_small ((i:Int)*48) (by omega) (by omega),Go.Vc.wrap_small ((i:Int)+1) (by omega) (by omega),Go.Vc.wrap_small (((i:Int)+1)*48) (by omega) (by omega)];obtain⟨c,H⟩:∃c:Nat,c=min (48*i+48) l.length:=⟨_,rfl⟩
  have k:(if((i:Int)+1)*48<((b.len:Nat):Int)then((i:Int)+1)*48 else((b.len:Nat):Int))=(c:Int):=by
   split<;>omega
  rw[k];refine⟨m.seq,by rw[<-E.seq];exact(d.box 1 rfl).cell0 rfl,⟨by omega,by omega,by omega⟩,?_⟩;have K:((i:Int)*48).toNat=48*i:=by omega
  rw[K,qo];have w:=((d.seq 2 rfl fun _=>rfl).drop (48*i) p).take (c-48*i) (by rw[q7];omega);have e2:(l.drop (48*i)).take (c-48*i)=(l.drop (48*i)).take 48:=by
   by_cases T:48*i+48<=l.length
   ·rw[show c-48*i=48 by omega]
   ·rw[qi (by rw[q7];omega),qi (by rw[q7];omega)]
  rw[e2,wJ]at w;refine(abk m.seq i (gT l) ⟨_,c-48*i,b.cap-48*i⟩ _ h3 (by rw[wJ];exact w) (by simp;omega)).mono ?_;rintro _ S ⟨r,rfl,J⟩;have z:=(d.dc J).bo 4 [1,0,2,3];refine⟨r,rfl,trivial,?_⟩;refine z.rU af bQ fJ rfl [r] rfl (show 1*1<=2^20 by decide) rfl trivial ?_;refine z.IK af fJ (by simp;omega) fun P R L=>⟨trivial,?_⟩
  refine⟨(P,i+1),rfl,⟨by dsimp only;omega,?_⟩,by dsimp only;omega⟩;dsimp only;rw[aJ _ _ (show i<f.length by omega)];have N:f[i]'(by omega)=jQ m.seq i (gT l) ((l.drop (48*i)).take 48):=by
   subst a;subst u;simp[be]
  rw[N];exact L
 ·rw[qi (by omega),a]at d;exact⟨o,rfl,d.bO [0]⟩
theorem Wf(s:Sl)(a:List dZ)(h:Heap)(b:Rd h s 4 bI a)(d:a.length<=2^30):ae xl nt #[vY s.ptr s.len s.cap] h fun v h'=>∃r:Sl,v=vY r.ptr r.len r.cap/\Sp h h' [an aV r 4 bI a]:=by
 refine mP s ?_;unfold iO;refine bs (fun e=>?_) (fun e=>?_)
 ·have:=b.isNil e;subst this;exact⟨⟨none,0,0⟩,rfl,(Sp.refl h).nil aV 4 bI⟩
 ·refine(Sp.refl h).lit af bI Pj rfl ([]:List dZ) rfl (by decide) rfl fun i k c=>?_;refine c.append af 0 rfl Pj ⟨_,_,rfl,rfl⟩ rfl (by decide) (fun _=>rfl) (Seq.up b c.ai) Ph (by simp;omega) fun g j f=>?_;exact⟨g,rfl,f⟩
def Jc(pool:List (Sl×List Int))(p:dZ×Wl.bY):Prop:=(p.1.1=p.2.name/\p.1.2.1=p.2.object/\p.1.2.2.1=p.2.length)/\(p.1.2.2.2,p.2.tries)∈pool
theorem aa.KV{B:aA}{n h:Heap}{As:List HP}{y:cv}{m:aE}{L:List (dZ×Wl.bY)}{pool:List (Sl×List Int)}(d:y.1=m.seq/\y.2.1=m.next/\(y.2.2.1,y.2.2.2.1,y.2.2.2.2.1)=m.p/\y.2.2.2.2.2.1=m.extra)(l:L.map zC=m.objs)(D:∀p∈L,Jc pool p)
  (H:aa B n h (eO 1 aD pool::an aT y.2.2.2.2.2.2.1 1 aD m.drives::an aV y.2.2.2.2.2.2.2 4 bI (L.map qJ)::As)):aa B n h (dl y m::As):=by
 have g:=(H.own 2 rfl)
 have k:=(H.own 1 rfl)
 have w:=((H.freeze 1 rfl fun _=>rfl).freeze 2 rfl fun _=>rfl).pA.pA;refine w.gq 0 rfl fun q ⟨I,E,_,b,c,t,A⟩=>?_;obtain⟨G,F,_,u,s,z3,z4⟩:=A;refine⟨d.1,d.2.1,d.2.2.1,d.2.2.2,z3.mono fun x i=>c x (u x i),⟨L.map qJ,t.mono b,by rw[<-l];simp,fun j r e a f=>?_⟩,k.cap,g.cap⟩;rw[<-l]at f;rw[qP]at a f;cases hj:L[j]? with
 |none=>rw[hj]at a;cases a
 |some p=>
  rw[hj]at a f;have z:=zL.inj (show some p.1=some r from a);have e2:=zL.inj (show some p.2=some e from f);subst z;subst e2;obtain⟨o,v⟩:=D p (ye hj);exact⟨o,(z4 _ v).mono fun x i=>c x (s x i)⟩
theorem so(x:cv)(m:aE)(h:Heap)(z:ff h x m)(G:dp m):ae xl JG #[go x] h fun v h'=>∃(y:cv) (L:List (dZ×Wl.bY)) (pool:List (Sl×List Int)),v=go y/\(y.1=m.seq/\y.2.1=m.next/\(y.2.2.1,y.2.2.2.1,y.2.2.2.2.1)=m.p/\y.2.2.2.2.2.1=m.extra)/\L.map zC=m.objs/\(∀p∈L,Jc pool p)/\
  Sp h h' [eO 1 aD pool,an aT y.2.2.2.2.2.2.1 1 aD m.drives,an aV y.2.2.2.2.2.2.2 4 bI (L.map qJ)]:=by
 refine Tv x ?_;unfold Mf;refine(Sp.refl h).boxed fun R k H1=>?_;refine H1.alloc af rfl fun S n M=>?_;have B:=M.box 0 rfl;have hM:∀{h':Heap} {As:List HP},Sp h h' As->ff h' x m:=fun{h' As} H'=>z.up H'.ai;obtain⟨b,F⟩:=cO.fix z.objs;have ad:=F.2.1;have W:=G.dr;have U:=G.ob;refine aX ⟨x.2.2.2.2.2.2.1,B.cell rfl,x.2.2.2.2.2.2.2,B.cell rfl,?_⟩;refine(jr _ m.drives n (hM M).drives (by omega)).mono ?_;rintro _ h3 ⟨d,rfl,R3⟩;have N:=M.comp R3;refine⟨d,rfl,⟨(N.box 0 rfl).cell rfl,trivial⟩,?_⟩;refine(Wf _ b h3 (nX.up F N.ai).1 (by omega)).mono ?_;rintro _ h4 ⟨o,rfl,R4⟩;have X:=N.comp R4;refine⟨o,rfl,trivial,?_⟩;refine X.store af 0 rfl rfl 6 [vY d.ptr d.len d.cap] rfl rfl rfl (by simp[Value.cells]) fun h5 H5=>⟨trivial,?_⟩
 refine H5.store af 0 rfl rfl 7 [vY o.ptr o.len o.cap] rfl rfl rfl (by simp[Value.cells]) fun h6 u=>⟨trivial,?_⟩
 obtain⟨y,s⟩:∃y:cv,y=(x.1,x.2.1,x.2.2.1,x.2.2.2.1,x.2.2.2.2.1,x.2.2.2.2.2.1,d,o):=⟨_,rfl⟩
 have u:Sp h h6 [aq R aF (aZ y),aq S aF [vX xh 0,vX xh 0,vX xh 0,vX xh 0,vX xh 0,vX xh 0,vY none 0 0,vY none 0 0],an aT d 1 aD m.drives,an aV o 4 bI b]:=by rw[s];exact u
 have c:y.2.2.2.2.2.2.2=o:=by rw[s]
 have H:y.2.2.2.2.2.2.1=d:=by rw[s]
 refine⟨o,by rw[<-c];exact(u.box 0 rfl).cell rfl,?_⟩;have ab:=(u.own 3 rfl).len;have u:=u.Xu 1 aD;refine aw (fun t:List dZ×List (Sl×List Int)=>(t.1.length:Int)) (fun t h'=>t.1.length<=m.objs.length/\(∀(j:Nat) r e,t.1[j]?=some r->m.objs[j]?=some e->(r.1=e.name/\r.2.1=e.object/\r.2.2.1=e.length)/\(r.2.2.2,e.tries)∈t.2)/\Sp h h' [eO 1 aD t.2,aq R aF (aZ y),aq S aF [vX xh 0,vX xh 0,vX xh 0,vX xh 0,vX xh 0,vX xh 0,vY none 0 0,vY none 0 0],an aT d 1 aD m.drives,an aV o 4 bI (t.1++b.drop t.1.length)]) (fun t=>m.objs.length-t.1.length) ([],[]) rfl ⟨by simp,fun j r e k=>by simp at k,u⟩ ?_;rintro⟨a,pool⟩ h7 ⟨hi,A,l⟩;dsimp only at*;refine ak (fun e=>?_) (fun e=>?_)
 ·have q:a.length<m.objs.length:=by omega
  have F7:=nX.up F l.ai;obtain⟨⟨y1,y2,T⟩,Z⟩:=Fix.row F7 q;have f:(a++b.drop a.length)[a.length]'(by simp;omega)=b[a.length]'(by omega):=by simp
  obtain⟨P,ha,zz,V,rfl⟩:=(l.seq 4 rfl fun _=>rfl).dI (g:=bI) (i:=(a.length:Int)) a.length rfl (by simp;omega) (b[a.length]'(by omega)) (by rw[f]) (K:=fun t=>t=b[a.length]'(by omega)) rfl;refine⟨o,by rw[<-c];exact(l.box 1 rfl).cell rfl,o,by rw[<-c];exact(l.box 1 rfl).cell rfl,P,ha,_,V.2.2.2.1,?_⟩;have ah:=(G.nm _ (qg q)).2;refine(jr _ m.objs[a.length].tries h7 Z (by omega)).mono ?_;rintro _ h8 ⟨t,rfl,R8⟩;have w:=l.dc R8;refine⟨t,rfl,⟨by rw[<-c];exact(w.box 2 rfl).cell rfl,by rw[<-c];exact(w.box 2 rfl).cell rfl,trivial⟩,?_⟩;refine w.acU af 5 rfl (fun _=>rfl) rfl a.length rfl (by simp;omega) 3 [vY t.ptr t.len t.cap] (by simp) ((b[a.length]'(by omega)).1,(b[a.length]'(by omega)).2.1,(b[a.length]'(by omega)).2.2.1,t) rfl rfl rfl (by rw[f];simp[bI]) fun h9 E=>⟨trivial,?_⟩
  have E:=(E.freeze 0 rfl fun _=>rfl).bo 6 [1,0,2,3,4,5];have E:=E.Xv;refine⟨(a++[((b[a.length]'(by omega)).1,(b[a.length]'(by omega)).2.1,(b[a.length]'(by omega)).2.2.1,t)],(t,m.objs[a.length].tries)::pool),by simp only[qw,List.length_singleton];rw[Go.Vc.wrap_small _ (by omega) (by omega)];rfl,⟨by simp;omega,fun j r e k n=>?_,?_⟩,by simp;omega⟩
  ·dsimp only at k⊢;by_cases Q:j<a.length
   ·rw[qn Q]at k;obtain⟨g1,g2⟩:=A j r e k n;exact⟨g1,qO _ g2⟩
   ·have I:j=a.length:=by
     have:=(qm.1 k).1;simp at this;omega
    subst I;rw[qj (ql _),zj]at k;simp at k;rw[qd q]at n;injection n with n
    subst k;subst n;exact⟨⟨y1,y2,T⟩,qU⟩
  ·dsimp only;have e4:(a++b.drop a.length).set a.length ((b[a.length]'(by omega)).1,(b[a.length]'(by omega)).2.1,(b[a.length]'(by omega)).2.2.1,t)=a++[((b[a.length]'(by omega)).1,(b[a.length]'(by omega)).2.1,(b[a.length]'(by omega)).2.2.1,t)]++b.drop (a++[((b[a.length]'(by omega)).1,(b[a.length]'(by omega)).2.1,(b[a.length]'(by omega)).2.2.1,t)]).length:=by
    rw[zh _ _ (ql _),zj,qW (show a.length<b.length by omega),zB];simp
   rw[<-e4];exact E
 ·have Y:a.length=m.objs.length:=by omega
  rw[zg (by omega),qQ]at l;refine⟨y,(l.box 1 rfl).aO _ rfl,?_⟩;refine l.storeAll af 2 rfl rfl (aZ y) rfl rfl rfl rfl fun h8 w=>?_;have O:(a.zip m.objs).map qJ=a:=List.map_fst_zip (by omega);have J:(a.zip m.objs).map zC=m.objs:=List.map_snd_zip (by omega);refine⟨y,(w.box 2 rfl).aO _ rfl,y,a.zip m.objs,pool,rfl,⟨by rw[s];exact z.seq,by rw[s];exact z.next,by rw[s];exact z.p,by rw[s];exact z.extra⟩,J,fun p hp=>?_,?_⟩
  ·obtain⟨j,Q,rfl⟩:=qG hp;have D:j<a.length/\j<m.objs.length:=by simp at Q;omega
   have:=A j _ _ (qd D.1) (qd D.2);rw[yS];exact this
  ·rw[O,H,c];exact w.bO [0,3,4]
theorem YP(x:cv)(m:aE)(h:Heap)(d:ff h x m)(a:dp m):ae xl JG #[go x] h fun v h'=>∃y:cv,v=go y/\Sp h h' [dl y m]:=by
 refine(so x m h d a).mono ?_;rintro _ h' ⟨y,L,pool,rfl,b,c,e,H⟩;exact⟨y,rfl,aa.KV b c e H⟩
end Go.Proofs.YtdhamoojccmbdaaGreatDoor
namespace Go.Vc
open Go Wl
abbrev bv:=Int×Int×Int×Int×Int×Int×Int×Sl
abbrev bB(x:bv):List Value:=[vX xh x.1,vX xh x.2.1,vX xh x.2.2.1,vX xh x.2.2.2.1,vX xh x.2.2.2.2.1,vX xh x.2.2.2.2.2.1,vX xj x.2.2.2.2.2.2.1,vY x.2.2.2.2.2.2.2.ptr x.2.2.2.2.2.2.2.len x.2.2.2.2.2.2.2.cap]
abbrev recv(x:bv):Value:=xg #[vX xh x.1,vX xh x.2.1,vX xh x.2.2.1,vX xh x.2.2.2.1,vX xh x.2.2.2.2.1,vX xh x.2.2.2.2.2.1,vX xj x.2.2.2.2.2.2.1,vY x.2.2.2.2.2.2.2.ptr x.2.2.2.2.2.2.2.len x.2.2.2.2.2.2.2.cap]
theorem afM:∀x,∀c∈bB x,c.oneCell'=true:=by intro x c a;simp[bB]at a;rcases a with rfl|rfl|rfl|rfl|rfl|rfl|rfl|rfl<;>rfl
def ib(x y:Int):Int:=if x<y then-1 else if x>y then 1 else 0
def lD(a b:bv):Int:=if ib a.1 b.1≠0 then ib a.1 b.1 else if ib a.2.1 b.2.1≠0 then ib a.2.1 b.2.1 else ib a.2.2.1 b.2.2.1
def cg(a b:bv):Bool:=decide (lD a b<=0)
theorem iW(x y:Int):(x<y/\ib x y=-1)∨(x>y/\ib x y=1)∨(x=y/\ib x y=0):=by
 unfold ib;by_cases a:x<y
 ·exact .inl ⟨a,if_pos a⟩
 ·by_cases b:x>y
  ·exact .inr (.inl ⟨b,by rw[if_neg a,if_pos b]⟩)
  ·exact .inr (.inr ⟨by omega,by rw[if_neg a,if_neg b]⟩)
theorem Du(a b:bv):lD a b<=0↔a.1<b.1∨(a.1=b.1/\(a.2.1<b.2.1∨(a.2.1=b.2.1/\a.2.2.1<=b.2.2.1))):=by
 unfold lD;rcases iW a.1 b.1 with⟨h1,e1⟩|⟨h1,e1⟩|⟨h1,e1⟩
 ·rw[e1,if_pos (by decide)];omega
 ·rw[e1,if_pos (by decide)];omega
 ·rw[e1,if_neg (by decide)];rcases iW a.2.1 b.2.1 with⟨h2,e2⟩|⟨h2,e2⟩|⟨h2,e2⟩
  ·rw[e2,if_pos (by decide)];omega
  ·rw[e2,if_pos (by decide)];omega
  ·rw[e2,if_neg (by decide)];rcases iW a.2.2.1 b.2.2.1 with⟨h3,e3⟩|⟨h3,e3⟩|⟨h3,e3⟩<;>rw[e3]<;>omega
theorem sp(a b:bv):lD a b<0↔¬cg b a=true:=by
 unfold cg;rw[decide_eq_true_eq,Du];unfold lD;rcases iW a.1 b.1 with⟨h1,e1⟩|⟨h1,e1⟩|⟨h1,e1⟩
 ·rw[e1,if_pos (by decide)];omega
 ·rw[e1,if_pos (by decide)];omega
 ·rw[e1,if_neg (by decide)];rcases iW a.2.1 b.2.1 with⟨h2,e2⟩|⟨h2,e2⟩|⟨h2,e2⟩
  ·rw[e2,if_pos (by decide)];omega
  ·rw[e2,if_pos (by decide)];omega
  ·rw[e2,if_neg (by decide)];rcases iW a.2.2.1 b.2.2.1 with⟨h3,e3⟩|⟨h3,e3⟩|⟨h3,e3⟩<;>rw[e3]<;>omega
theorem abl(a b:bv):lD a b=0↔(a.1=b.1/\a.2.1=b.2.1/\a.2.2.1=b.2.2.1):=by
 unfold lD;rcases iW a.1 b.1 with⟨h1,e1⟩|⟨h1,e1⟩|⟨h1,e1⟩
 ·rw[e1,if_pos (by decide)];omega
 ·rw[e1,if_pos (by decide)];omega
 ·rw[e1,if_neg (by decide)];rcases iW a.2.1 b.2.1 with⟨h2,e2⟩|⟨h2,e2⟩|⟨h2,e2⟩
  ·rw[e2,if_pos (by decide)];omega
  ·rw[e2,if_pos (by decide)];omega
  ·rw[e2,if_neg (by decide)];rcases iW a.2.2.1 b.2.2.1 with⟨h3,e3⟩|⟨h3,e3⟩|⟨h3,e3⟩<;>rw[e3]<;>omega
theorem dE:Ord cg:=⟨fun a b c e d=>by
 unfold cg at*;rw[decide_eq_true_eq,Du]at*;omega,fun a b=>by
 unfold cg;rw[wc,decide_eq_true_eq,decide_eq_true_eq,Du,Du];omega⟩
theorem Ue{α:Type}(A B C:List α)(x y:α){i j:Nat}(b:i=A.length)(c:j=A.length+1+B.length):
  (A++x::(B++y::C))[i]?=some x/\(A++x::(B++y::C))[j]?=some y/\((A++x::(B++y::C)).set i y).set j x=A++y::(B++x::C)/\((A++x::(B++y::C)).set j x).set i y=A++y::(B++x::C):=by
 subst b;subst c;have a:A.length+1+B.length-A.length=B.length+1:=by omega
 refine⟨by rw[qj (ql _),zj];rfl,?_,?_,?_⟩
 ·rw[qj (by omega),a,qy,qj (ql _),zj];rfl
 ·rw[zh _ _ (ql _),zj,zB,zh _ _ (by omega),a,wD,zh _ _ (ql _),zj,zB]
 ·rw[zh _ _ (show A.length<=A.length+1+B.length by omega),a,wD,zh _ _ (ql _),zj,zB,zh _ _ (ql _),zj,zB]
end Go.Vc
namespace Go.Proofs.YtdhamoojccmbdaaGreatDoor
open Go Go.Vc Go.Proofs Wl
abbrev agY:bN C.toCB Ma bc 8 [vX xh 0,vX xh 0,vX xh 0,vX xh 0,vX xh 0,vX xh 0,vX xj 0,vY none 0 0] 80:=⟨_,_,rfl,rfl,rfl,rfl,rfl,rfl⟩
theorem ug(x y:Int)(h:Heap):ae xl tz #[vX xh x,vX xh y] h fun v h'=>v=vX xh (ib x y)/\h'=h:=by
 refine rL x y ?_;unfold nN;have a:∀z:Int,ae xl xZ #[vX xh z] h fun v h'=>v=xf false/\h'=h:=fun z=>by
  refine uv z ?_;unfold re;exact⟨by simp,rfl⟩
 refine(a x).mono ?_;rintro _ _ ⟨rfl,rfl⟩;refine⟨_,rfl,(a y).mono ?_⟩;rintro _ _ ⟨rfl,rfl⟩;refine⟨_,rfl,bs (fun e=>by cases e) fun _=>bs (fun e=>by cases e) fun _=>?_⟩;refine ak (fun e=>⟨by rw[ib,if_pos e],rfl⟩) fun e=>ak (fun e2=>⟨by rw[ib,if_neg e,if_pos e2],rfl⟩) fun e2=>⟨by rw[ib,if_neg e,if_neg e2],rfl⟩
theorem rk(a b:bv)(h:Heap):ae xl cZ #[recv a,recv b] h fun v h'=>v=vX xh (lD a b)/\Sp h h' []:=by
 refine OO a b ?_;unfold Hw;refine(Sp.refl h).boxed fun u J G=>G.boxed fun q f g=>?_;have g:Sp h f [aq u bc (bB a),aq q bc (bB b)]:=g;have t:=g.box 0 rfl;have w:=g.box 1 rfl;have y:cellOf f (u.add 1)=some (vX xh a.2.1):=t.cell rfl;have z:cellOf f (q.add 1)=some (vX xh b.2.1):=w.cell rfl;have c3:cellOf f (u.add 2)=some (vX xh a.2.2.1):=t.cell rfl;have p:cellOf f (q.add 2)=some (vX xh b.2.2.1):=w.cell rfl;refine⟨a.1,t.cell0 rfl,b.1,w.cell0 rfl,a.2.1,y,b.2.1,z,a.2.2.1,c3,b.2.2.1,p,(ug _ _ f).mono ?_⟩;rintro _ _ ⟨rfl,rfl⟩;refine⟨_,rfl,⟨p,c3,z,y,trivial⟩,(ug _ _ _).mono ?_⟩;rintro _ _ ⟨rfl,rfl⟩;refine⟨_,rfl,⟨p,c3,trivial⟩,(ug _ _ _).mono ?_⟩;rintro _ K ⟨rfl,rfl⟩;refine⟨_,rfl,trivial,?_⟩;refine g.rU af aD ⟨_,_,rfl,rfl,rfl,rfl,rfl,rfl⟩ rfl [ib a.1 b.1,ib a.2.1 b.2.1,ib a.2.2.1 b.2.2.1] rfl (show 3*1<=2^20 by decide) rfl trivial ?_;refine g.lit af aD ⟨_,_,rfl,rfl,rfl,rfl,rfl,rfl⟩ rfl [ib a.1 b.1,ib a.2.1 b.2.1,ib a.2.2.1 b.2.2.1] rfl (show 3*1<=2^20 by decide) rfl fun d A o=>?_;refine(De d (R:=fun v h'=>v=vX xh (lD a b)/\h'=A) ?_).mono ?_
 ·unfold xW;have B:=o.seq 2 rfl fun _=>rfl;have H:=(o.own 2 rfl).len;obtain⟨L,k⟩:∃L,L=[ib a.1 b.1,ib a.2.1 b.2.1,ib a.2.2.1 b.2.2.1]:=⟨_,rfl⟩
  rw[<-k]at B H;have E:L.length=3:=by rw[k];rfl
  refine aw (fun i:Nat=>(i:Int)) (fun i h'=>i<=3/\(∀j,j<i->L[j]?=some 0)/\h'=A) (fun i=>3-i) 0 rfl ⟨by omega,by omega,rfl⟩ ?_;rintro i D ⟨I,n,rfl⟩;have c:0<i->ib a.1 b.1=0:=fun h0=>by have:=n 0 h0;rw[k]at this;simpa using this
  have l:1<i->ib a.2.1 b.2.1=0:=fun h0=>by have:=n 1 h0;rw[k]at this;simpa using this
  have s:2<i->ib a.2.2.1 b.2.2.1=0:=fun h0=>by have:=n 2 h0;rw[k]at this;simpa using this
  refine ak (fun e=>?_) (fun e=>?_)
  ·have m:i<L.length:=by
    have F:(i:Int)<(d.len:Int):=e;omega
   refine B.bz i rfl m L[i] rfl ?_;refine ci (fun e2=>⟨?_,rfl⟩) (fun e2=>?_)
   ·congr 1;unfold lD;have:i=0∨i=1∨i=2:=by omega
    subst k;rcases this with rfl|rfl|rfl
    ·exact(if_pos (show ib a.1 b.1≠0 from e2)).symm
    ·rw[if_neg (by rw[c (by omega)];simp)];exact(if_pos (show ib a.2.1 b.2.1≠0 from e2)).symm
    ·rw[if_neg (by rw[c (by omega)];simp),if_neg (by rw[l (by omega)];simp)];rfl
   ·refine⟨i+1,by rw[Go.Vc.wrap_small _ (by omega) (by omega)];rfl,⟨by omega,fun j M=>?_,rfl⟩,by omega⟩;by_cases r:j=i
    ·subst r;rw[qd m,e2]
    ·exact n j (by omega)
  ·have x:i=3:=by
    have F:¬(i:Int)<(d.len:Int):=e;omega
   subst x;refine⟨?_,rfl⟩;unfold lD;rw[c (by omega),l (by omega),s (by omega)];rfl
 ·rintro _ D ⟨rfl,rfl⟩;exact⟨_,rfl,trivial,rfl,.zip o.ai⟩
abbrev cx(s:Sl)(d:List bv):HP:=an bc s 8 bB d
section
variable {B:aA} {h0 h h':Heap} {As:List HP} {s:Sl} {d:List bv}
theorem sq(X U M V Y:List bv)(n:Nat)(a b:Int)(T:U.length=n)(S:V.length=n)(F:a=(X.length:Int))(O:b=(X.length+n+M.length:Nat))(N:X.length+n+M.length+n+Y.length<=2^40)(H:aa B h0 h (cx s (X++(U++(M++(V++Y))))::As)):
  ae xl mC #[vY s.ptr s.len s.cap,vX xh a,vX xh b,vX xh n,.func (.func cZ) #[] #[]] h fun v h'=>v=.tuple #[]/\aa B h0 h' (cx s (X++(V++(M++(U++Y))))::As):=by
 refine md s a b n (cZ,#[],#[]) ?_;unfold iw;subst F;subst O;refine aw (fun k:Nat=>(k:Int)) (fun k h'=>k<=n/\aa B h0 h' (cx s (X++(V.take k++U.drop k++(M++(U.take k++V.drop k++Y))))::As)) (fun k=>n-k) 0 rfl ⟨by omega,by simpa using H⟩ ?_;rintro k R ⟨P,f⟩;refine ak (fun e=>?_) (fun e=>?_)
 ·have A:k<n:=by omega
  have q:k<U.length:=by omega
  have o:k<V.length:=by omega
  have d:X++(V.take k++U.drop k++(M++(U.take k++V.drop k++Y)))=(X++V.take k)++U[k]::((U.drop (k+1)++(M++U.take k))++V[k]::(V.drop (k+1)++Y)):=by
   rw[qW q,qW o];simp only[qp,zx,zW]
  have c:X++(V.take (k+1)++U.drop (k+1)++(M++(U.take (k+1)++V.drop (k+1)++Y)))=(X++V.take k)++V[k]::((U.drop (k+1)++(M++U.take k))++U[k]::(V.drop (k+1)++Y)):=by
   rw[aJ V k o,aJ U k q];simp only[qp,zx,zW]
  rw[d]at f;obtain⟨z,x,y,I⟩:=Ue (X++V.take k) (U.drop (k+1)++(M++U.take k)) (V.drop (k+1)++Y) U[k] V[k] (i:=X.length+k) (j:=X.length+n+M.length+k) (by simp;omega) (by simp;omega);obtain⟨D,J⟩:∃D,D=(X++V.take k)++U[k]::((U.drop (k+1)++(M++U.take k))++V[k]::(V.drop (k+1)++Y)):=⟨_,rfl⟩
  rw[<-J]at f z x y I;have t:=(qm.1 z)
  have r:=(qm.1 x)
  obtain⟨p,w⟩:=t;obtain⟨m,u⟩:=r;have G:qc xh ((X.length:Int)+k)=((X.length+k:Nat):Int):=by rw[Go.Vc.wrap_small _ (by omega) (by omega)];omega
  have K:qc xh (((X.length+n+M.length:Nat):Int)+k)=((X.length+n+M.length+k:Nat):Int):=by rw[Go.Vc.wrap_small _ (by omega) (by omega)];omega
  rw[G,K];refine(f.seq 0 rfl fun _=>rfl).dI (g:=bB) _ rfl m V[k] (by rw[u]) ?_;refine(f.seq 0 rfl fun _=>rfl).dI (g:=bB) _ rfl p U[k] (by rw[w]) ?_;refine f.set af 0 rfl (fun _=>rfl) rfl (X.length+k) rfl p V[k] rfl rfl rfl fun Q L=>⟨trivial,?_⟩
  refine L.set af 0 rfl (fun _=>rfl) rfl (X.length+n+M.length+k) rfl (by simpa using m) U[k] rfl rfl rfl fun h3 E=>⟨trivial,?_⟩
  refine⟨k+1,by rw[Go.Vc.wrap_small _ (by omega) (by omega)];rfl,⟨by omega,?_⟩,by omega⟩;rw[c,<-y];exact E
 ·have:k=n:=by omega
  subst this;rw[qi (l:=V) (by omega),zg (l:=U) (by omega),qi (l:=U) (by omega),zg (l:=V) (by omega)]at f;refine⟨rfl,?_⟩;simpa using f
theorem Wg(X U V Y:List bv)(a m b:Int)(L:0<U.length)(E:0<V.length)(y:a=(X.length:Int))(x:m=(X.length+U.length:Nat))(K:b=(X.length+U.length+V.length:Nat))(I:X.length+U.length+V.length+Y.length<=2^40)(H:aa B h0 h (cx s (X++(U++(V++Y)))::As)):
  ae xl nQ #[vY s.ptr s.len s.cap,vX xh a,vX xh m,vX xh b,.func (.func cZ) #[] #[]] h fun v h'=>v=.tuple #[]/\aa B h0 h' (cx s (X++(V++(U++Y)))::As):=by
 refine nw s a m b (cZ,#[],#[]) ?_;unfold jl;subst y;subst x;subst K;have G:qc xh (((X.length+U.length:Nat):Int)-X.length)=(U.length:Int):=by rw[Go.Vc.wrap_small _ (by omega) (by omega)];omega
 have e2:qc xh (((X.length+U.length+V.length:Nat):Int)-(X.length+U.length:Nat))=(V.length:Int):=by rw[Go.Vc.wrap_small _ (by omega) (by omega)];omega
 rw[G,e2];refine aw (fun t:List bv×List bv×List bv×List bv=>((t.2.1.length:Int),(t.2.2.1.length:Int))) (fun t h'=>0<t.2.1.length/\0<t.2.2.1.length/\X.length+t.1.length+t.2.1.length=X.length+U.length/\V++U=t.1++((t.2.2.1++t.2.1)++t.2.2.2)/\aa B h0 h' (cx s (X++(t.1++(t.2.1++(t.2.2.1++(t.2.2.2++Y)))))::As)) (fun t=>t.2.1.length+t.2.2.1.length) ([],U,V,[]) rfl ⟨L,E,by simp,by simp,by simpa using H⟩ ?_;rintro⟨P,A,c,Q⟩ q ⟨N,O,x,o,u⟩;dsimp only at*;have n:=congrArg y6 o;simp only[qw]at n;refine ci (fun e=>ak (fun J=>?_) (fun J=>?_)) (fun e=>?_)
 ·--the left one is longer
  have r:c.length<A.length:=by omega
  have D:A=A.take c.length++A.drop c.length:=(qE _ _).symm;have f:(A.take c.length).length=c.length:=by simp;omega
  have i:qc xh (((X.length+U.length:Nat):Int)-A.length)=((X++P).length:Int):=by rw[Go.Vc.wrap_small _ (by omega) (by omega)];simp;omega
  rw[i];have d:aa B h0 q (cx s ((X++P)++(A.take c.length++(A.drop c.length++(c++(Q++Y)))))::As):=by
   have:(X++P)++(A.take c.length++(A.drop c.length++(c++(Q++Y))))=X++(P++(A++(c++(Q++Y)))):=by
    conv=>rhs;rw[D]
    simp only[qp,zx,zW]
   rw[this];exact u
  refine(sq (X++P) (A.take c.length) (A.drop c.length) c (Q++Y) c.length _ _ f rfl rfl (by simp;omega) (by simp;omega) d).mono ?_;rintro _ w ⟨rfl,l⟩;refine⟨(),rfl,(P++c,A.drop c.length,A.take c.length,Q),?_,⟨by dsimp only;simp;omega,by dsimp only;omega,by dsimp only;simp;omega,?_,?_⟩,by dsimp only;simp;omega⟩
  ·dsimp only;rw[f,Go.Vc.wrap_small _ (by omega) (by omega)];simp;omega
  ·dsimp only;rw[o,qE];simp
  ·dsimp only;have:X++((P++c)++(A.drop c.length++(A.take c.length++(Q++Y))))=(X++P)++(c++(A.drop c.length++(A.take c.length++(Q++Y)))):=by simp
   rw[this];exact l
 ·have r:A.length<c.length:=by omega
  obtain⟨j,M⟩:∃j,j=c.length-A.length:=⟨_,rfl⟩
  have z:c=c.take j++c.drop j:=(qE _ _).symm;have g:(c.drop j).length=A.length:=by simp;omega
  have k:(c.take j).length=j:=by simp;omega
  have i:qc xh (((X.length+U.length:Nat):Int)-A.length)=((X++P).length:Int):=by rw[Go.Vc.wrap_small _ (by omega) (by omega)];simp;omega
  have F:qc xh ((qc xh (((X.length+U.length:Nat):Int)+c.length))-A.length)=(((X++P).length+A.length+(c.take j).length:Nat):Int):=by
   rw[Go.Vc.wrap_small (((X.length+U.length:Nat):Int)+c.length) (by omega) (by omega),Go.Vc.wrap_small _ (by omega) (by omega),k];simp;omega
  rw[i,F];have d:aa B h0 q (cx s ((X++P)++(A++(c.take j++(c.drop j++(Q++Y)))))::As):=by
   have:(X++P)++(A++(c.take j++(c.drop j++(Q++Y))))=X++(P++(A++(c++(Q++Y)))):=by
    conv=>rhs;rw[z]
    simp only[qp,zx,zW]
   rw[this];exact u
  refine(sq (X++P) A (c.take j) (c.drop j) (Q++Y) A.length _ _ rfl g rfl rfl (by simp;omega) d).mono ?_;rintro _ w ⟨rfl,l⟩;refine⟨(),rfl,(P,c.drop j,c.take j,A++Q),?_,⟨by dsimp only;omega,by dsimp only;omega,by dsimp only;omega,?_,?_⟩,by dsimp only;omega⟩
  ·dsimp only;rw[k,g,Go.Vc.wrap_small _ (by omega) (by omega)];congr 1;omega
  ·dsimp only;rw[o,qE];simp
  ·dsimp only;have:X++(P++(c.drop j++(c.take j++((A++Q)++Y))))=(X++P)++(c.drop j++(c.take j++(A++(Q++Y)))):=by simp
   rw[this];exact l
 ·have p:A.length=c.length:=by omega
  have i:qc xh (((X.length+U.length:Nat):Int)-A.length)=((X++P).length:Int):=by rw[Go.Vc.wrap_small _ (by omega) (by omega)];simp;omega
  rw[i];have d:aa B h0 q (cx s ((X++P)++(A++([]++(c++(Q++Y)))))::As):=by
   have:(X++P)++(A++([]++(c++(Q++Y))))=X++(P++(A++(c++(Q++Y)))):=by simp
   rw[this];exact u
  refine(sq (X++P) A [] c (Q++Y) A.length _ _ rfl p.symm rfl (by simp;omega) (by simp;omega) d).mono ?_;rintro _ w ⟨rfl,l⟩;refine⟨(),rfl,rfl,?_⟩;have:X++(V++(U++Y))=(X++P)++(c++([]++(A++(Q++Y)))):=by
   have:V++(U++Y)=(V++U)++Y:=by simp
   rw[this,o];simp
  rw[this];exact l
end
end Go.Proofs.YtdhamoojccmbdaaGreatDoor
namespace Wl
open Go
theorem YQ(l:List UInt8)(x:UInt8):cW (l++[x])=cW l*256+x.toNat:=by unfold cW;rw[wM];rfl
theorem Uf:∀l:List UInt8,l.length<=4->0<=cW l/\cW l<4294967296/\(l.length<=3->cW l<16777216)
 |[],_=>by simp[cW]
 |[a],_=>by have:=a.toNat_lt;simp only[cW,zD,wQ];omega
 |[a,b],_=>by have:=a.toNat_lt;have:=b.toNat_lt;simp only[cW,zD,wQ];omega
 |[a,b,c],_=>by have:=a.toNat_lt;have:=b.toNat_lt;have:=c.toNat_lt;simp only[cW,zD,wQ];omega
 |[a,b,c,d],_=>by have:=a.toNat_lt;have:=b.toNat_lt;have:=c.toNat_lt;have:=d.toNat_lt;simp only[cW,zD,wQ,zb,ym];omega
 |_::_::_::_::_::_,h=>by simp at h
theorem agZ(n x:Nat)(f:n<2^32)(e:x<256):qc xh (((qA (qk xh) (qc xh ((n:Int)*2^min (8:Int).toNat (qk xh)))|||qA (qk xh) (qc xh (x:Int))).toNat:Nat):Int)=(n:Int)*256+x:=by
 have a:min (8:Int).toNat (qk xh)=8:=rfl;rw[a];have d:qc xh ((n:Int)*2^8)=((n*256:Nat):Int):=by rw[Go.Vc.wrap_small _ (by omega) (by omega)];omega
 have e2:qc xh (x:Int)=((x:Nat):Int):=Go.Vc.wrap_small _ (by omega) (by omega);rw[d,e2];have c:(qA (qk xh) ((n*256:Nat):Int)|||qA (qk xh) ((x:Nat):Int)).toNat=n*256+x:=by
  show((qA 64 ((n*256:Nat):Int)|||qA 64 ((x:Nat):Int):BitVec 64)).toNat=n*256+x;rw[BitVec.toNat_or,wU,wU,BitVec.toNat_ofNat,BitVec.toNat_ofNat,vb (by omega),vb (by omega)];have:=Nat.shiftLeft_add_eq_or_of_lt (b:=x) (i:=8) (by omega) n;rw[Nat.shiftLeft_eq,show(2:Nat)^8=256 from rfl]at this;omega
 rw[c,Go.Vc.wrap_small _ (by omega) (by omega)];omega
end Wl
namespace Go.Vc
open Go Wl
def dT:je bv cT:=⟨fun h q a b=>(a.1=b.object/\a.2.1=b.block/\a.2.2.1=b.id/\(a.2.2.2.1,a.2.2.2.2.1,a.2.2.2.2.2.1)=b.p/\a.2.2.2.2.2.2.1=b.seed/\0<=b.seed/\b.seed<4294967296)/\Seq h q a.2.2.2.2.2.2.2 1 aB b.data,fun a d=>⟨a.1,a.2.ai d⟩,fun a c=>⟨a.1,a.2.mono c⟩⟩
end Go.Vc
namespace Go.Proofs.YtdhamoojccmbdaaGreatDoor
open Go Go.Vc Go.Proofs Wl
theorem Ac{p q:aA}(a b:Sl)(d c:List UInt8)(h:Heap)(e:Seq h p a 1 aB d)(f:Seq h q b 1 aB c):
  ae xl Oy #[vY a.ptr a.len a.cap,vY b.ptr b.len b.cap] h fun v h'=>v=xf (decide (d=c))/\h'=h:=by
 refine Me a b ?_;unfold Fj;refine Xi af ⟨_,rfl,rfl⟩ ⟨_,rfl,rfl⟩ ⟨_,rfl,rfl⟩ e (Xi af ⟨_,rfl,rfl⟩ ⟨_,rfl,rfl⟩ ⟨_,rfl,rfl⟩ f ⟨?_,rfl⟩);rw[ByteArray.toList_mk,ByteArray.toList_mk];have:(d==c)=decide (d=c):=by rw[yC];simp
 rw[this]
theorem YR(b:Sl)(c:List UInt8)(h:Heap)(i:Rd h b 1 aB c)(y:c.length<=2^30)(f:b.len<=b.cap):
  ae xl TQ #[vY b.ptr b.len b.cap] h fun v h'=>(jT c=none->v=.tuple #[vX xh 0,vY none 0 0,xf false]/\Sp h h' [])/\
   ∀k x,jT c=some (k,x)->∃r:Sl,v=.tuple #[vX xh k,vY r.ptr r.len r.cap,xf true]/\Sp h h' [an aC r 1 aB x]:=by
 refine Rs b ?_;unfold JP;have A:=i.len;refine ci (fun e=>?_) (fun e=>?_)
 ·have:jT c=none:=by unfold jT;rw[if_neg (fun a=>e (by omega))]
  rw[this];exact⟨fun _=>⟨rfl,Sp.refl h⟩,fun k x h=>(by cases h)⟩
 have l:c.length=64:=by omega
 have h3:3<c.length:=by omega
 refine i.RT 3 rfl h3 ((c.getD 3 0).toNat:Int) (by rw[getD_lt h3];rfl) fun z n=>⟨⟨by decide,by decide,by omega⟩,?_⟩
 have d:=(i.drop 4 f).take 55 (by simp;omega);have q:((c.drop 4).take 55).length=55:=by simp;omega
 refine(fO ⟨_,55,b.cap-4⟩ ((c.drop 4).take 55) h d (by omega)).mono ?_;rintro _ t ⟨r,rfl,o⟩;refine⟨r,rfl,kW o.ai ⟨n,trivial⟩,?_⟩;have w:=(c.getD 3 0).toNat_lt;rw[Go.Vc.wrap_small ((c.getD 3 0).toNat:Int) (by omega) (by omega)];refine(HZ ((c.getD 3 0).toNat:Int) r ((c.drop 4).take 55) t (o.seq 0 rfl fun _=>rfl) (by omega)).mono ?_;rintro _ s ⟨p,rfl,u⟩;have g:=o.comp u;refine⟨p,rfl,(Ac b p c _ s (i.up g.ai) (g.seq 1 rfl fun _=>rfl)).mono ?_⟩;rintro _ h3 ⟨rfl,rfl⟩;refine⟨_,rfl,bi (fun e2=>?_) (fun e2=>?_)⟩
 ·have j:c≠eu ((c.getD 3 0).toNat:Int) ((c.drop 4).take 55):=of_decide_eq_false e2;have:jT c=none:=by unfold jT;rw[if_neg (fun a=>j a.2.symm)]
  rw[this];exact⟨fun _=>⟨rfl,.zip g.ai⟩,fun k x h=>(by cases h)⟩
 ·have m:c=eu ((c.getD 3 0).toNat:Int) ((c.drop 4).take 55):=of_decide_eq_true e2;have:jT c=some (((c.getD 3 0).toNat:Int),(c.drop 4).take 55):=by unfold jT;rw[if_pos ⟨l,m.symm⟩]
  rw[this];refine⟨fun h=>(by cases h),fun k x a=>?_⟩;injection a with a
  injection a with hh1 hh2
  subst hh1;subst hh2;exact⟨r,rfl,g.bO [0]⟩
theorem Qn(b:Sl)(l:List UInt8)(h:Heap)(d:Rd h b 1 aB l)(p:l.length<=4):ae xl jq #[vY b.ptr b.len b.cap] h fun v h'=>v=vX xh (cW l)/\h'=h:=by
 refine MI b ?_;unfold FC;have f:=d.len;refine aw (fun i:Nat=>(cW (l.take i),(i:Int))) (fun i h'=>i<=l.length/\h'=h) (fun i=>l.length-i) 0 rfl ⟨by omega,rfl⟩ ?_;rintro i m ⟨k,rfl⟩;dsimp only;refine ak (fun e=>?_) (fun e=>?_)
 ·have a:i<l.length:=by omega
  refine d.bz i rfl a (l[i].toNat:Int) rfl ⟨by decide,?_⟩;have c:=(Uf (l.take i) (by simp;omega))
  have g:=c.2.2 (by simp;omega);have o:=l[i].toNat_lt;obtain⟨n,j⟩:∃n:Nat,cW (l.take i)=(n:Int):=⟨(cW (l.take i)).toNat,by omega⟩
  refine⟨i+1,?_,⟨by omega,rfl⟩,by omega⟩;rw[aJ _ _ a,YQ,j,agZ n _ (by omega) (by omega),Go.Vc.wrap_small ((i:Int)+1) (by omega) (by omega)];rfl
 ·rw[qi (by omega)];exact⟨rfl,rfl⟩
theorem JT(x:bv)(r:cT)(h:Heap)(I:fG dT h x r):ae xl Rp #[recv x] h fun v h'=>v=xf (iU r)/\Sp h h' []:=by
 refine OQ x ?_;unfold Hz;obtain⟨⟨G,e2,H,n,J,_⟩,A⟩:=I;have s:x.2.2.2.1=r.p.1:=congrArg (·.1) n;have o:x.2.2.2.2.1=r.p.2.1:=congrArg (·.2.1) n;have e:x.2.2.2.2.2.1=r.p.2.2:=congrArg (·.2.2) n;have c:=Seq.len A;refine(Sp.refl h).boxed fun a d i=>?_;have i:Sp h d [aq a bc (bB x)]:=i;have l:=i.box 0 rfl;have w:cellOf d a=some (vX xh r.object):=by rw[<-G];exact l.cell0 rfl
 have t:cellOf d (a.add 1)=some (vX xh r.block):=by rw[<-e2];exact l.cell rfl
 have u:cellOf d (a.add 2)=some (vX xh r.id):=by rw[<-H];exact l.cell rfl
 have y:∀{h':Heap},Sp h h' [aq a bc (bB x)]->(iU r=true->False)->Value.bool false=xf (iU r)/\Sp h h' []:=fun{h'} H' hn=>⟨by cases hq:iU r with|false=>rfl|true=>exact absurd hq hn,.zip H'.ai⟩
 refine co (fun b h'=>b=decide ((0<=r.object/\r.object<=16777215)/\(0<=r.block/\r.block<=7)/\(0<=r.id/\r.id<=65535))/\h'=d) ?_ ?_
 ·refine⟨_,w,ak (fun z=>⟨_,w,ak (fun f=>⟨_,t,ak (fun D=>⟨_,t,ak (fun B=>⟨_,u,ak (fun F=>⟨_,u,?_,rfl⟩) fun F=>⟨?_,rfl⟩⟩) fun B=>⟨?_,rfl⟩⟩) fun D=>⟨?_,rfl⟩⟩) fun f=>⟨?_,rfl⟩⟩) fun z=>⟨?_,rfl⟩⟩
  ·rw[decide_eq_decide];omega
  all_goals (symm;rw[decide_eq_false_iff_not];omega)
 ·rintro _ _ ⟨rfl,rfl⟩;refine ak (fun g=>?_) fun g=>y i fun q=>g (by have:=(iI r).1 q;omega);refine⟨r.p,by rw[<-s,<-o,<-e];exact l.Jb 3 rfl rfl rfl,(dS r.p _).mono ?_⟩;rintro _ h3 ⟨rfl,E⟩;have m:Sp h h3 [aq a bc (bB x)]:=i.up E.ai;have j:=m.box 0 rfl;refine⟨_,rfl,bs (fun f=>?_) fun f=>y m fun q=>by have:=((iI r).1 q).2.2.2.1;rw[f]at this;cases this⟩;refine⟨x.2.2.2.2.2.2.2,j.cell rfl,r.p.2.2,by rw[<-e];exact j.uy 3 2 rfl,?_,.zip m.ai⟩;congr 1;by_cases k:(r.data.length:Int)=r.p.2.2
  ·have:iU r=true:=(iI r).2 ⟨by omega,by omega,by omega,f,k⟩;rw[this,c];simpa using k
  ·have:iU r=false:=by
    cases hq:iU r with
    |false=>rfl
    |true=>exact absurd ((iI r).1 hq).2.2.2.2 k
   rw[this,c];simpa using k
section
variable {B:aA} {h0 h h':Heap} {As:List HP}
theorem nz(s:Sl)(l:List UInt8)(n:Int)(k:Nat)(m:k<=4)(q:l.length<=2^30)(H:aa B h0 h (an aC s 1 aB l::As)):
  ae xl KG #[vY s.ptr s.len s.cap,vX xh n,vX xh k] h fun v h'=>∃r:Sl,v=vY r.ptr r.len r.cap/\aa B h0 h' (an aC r 1 aB (l++bL n k)::As):=by
 refine Jl s n k ?_;unfold Bt;rw[Go.Vc.wrap_small ((k:Int)-1) (by omega) (by omega)];refine aw (fun t:Sl×Nat=>(t.1,(k:Int)-1-t.2)) (fun t h'=>t.2<=k/\aa B h0 h' (an aC t.1 1 aB (l++(bL n k).take t.2)::As)) (fun t=>k-t.2) (s,0) (by simp) ⟨by simp,by simpa using H⟩ ?_;rintro⟨r,t⟩ p ⟨j,b⟩;dsimp only at*;refine ak (fun e=>?_) (fun e=>?_)
 ·have a:t<k:=by omega
  have f:qc xh ((8:Int)*((k:Int)-1-t))=((8*(k-1-t):Nat):Int):=by
   rw[Go.Vc.wrap_small _ (by omega) (by omega)];omega
  rw[f,qo];have e2:min (8*(k-1-t)) (qk xh)=8*(k-1-t):=by
   have:qk xh=64:=rfl;omega
  rw[e2,dQ];refine⟨by omega,?_⟩;refine b.push af 0 rfl fX rfl (by decide) (fun _=>rfl) gp (b8 (qT n (2^(8*(k-1-t))))) rfl (by decide) (by simp[ck];omega) fun g o d=>?_;refine⟨(g,t+1),?_,⟨by dsimp only;omega,?_⟩,by dsimp only;omega⟩
  ·dsimp only;have i:qc xh ((k:Int)-1-t-1)=(k:Int)-1-((t+1:Nat):Int):=by
    rw[Go.Vc.wrap_small _ (by omega) (by omega)];omega
   rw[i]
  ·dsimp only;have c:(bL n k).take t++[b8 (qT n (2^(8*(k-1-t))))]=(bL n k).take (t+1):=by
    rw[aJ _ _ (by rw[ck];exact a)];congr 2;simp[bL]
   rw[<-c,<-qp];exact d
 ·have:t=k:=by omega
  subst this;rw[qi (by rw[ck];omega)]at b;exact⟨r,rfl,b⟩
end
theorem Cp(x:bv)(r:cT)(h:Heap)(K:fG dT h x r):ae xl Rg #[recv x] h fun v h'=>∃s:Sl,v=vY s.ptr s.len s.cap/\Sp h h' [an aC s 1 aB (dN r)]:=by
 refine OE x ?_;unfold Hn;obtain⟨⟨U,e2,W,l,S,e7,Z⟩,M⟩:=id K;have w:x.2.2.2.1=r.p.1:=congrArg (·.1) l;have m:x.2.2.2.2.1=r.p.2.1:=congrArg (·.2.1) l;have n:x.2.2.2.2.2.1=r.p.2.2:=congrArg (·.2.2) l;refine(Sp.refl h).boxed fun f B b=>?_;have b:Sp h B [aq f bc (bB x)]:=b;refine⟨x,(b.box 0 rfl).aO _ rfl,(JT x r B (dT.mono (dT.loc K b.ai) fun _ Y=>qV Y b.ai.1)).mono ?_⟩;rintro _ N ⟨rfl,X⟩;have q:Sp h N [aq f bc (bB x)]:=b.up X.ai;refine⟨_,rfl,bi (fun g=>?_) (fun g=>?_)⟩
 ·unfold dN;rw[g];exact⟨⟨none,0,0⟩,rfl,(q.nil aC 1 aB).bO [1]⟩
 have P:=oJ g;have y:=q.box 0 rfl;refine⟨r.object,by rw[<-U];exact y.cell0 rfl,(nz ⟨none,0,0⟩ [] r.object 3 (by decide) (by simp) (q.nil aC 1 aB).bM).mono ?_⟩;rintro _ h3 ⟨I,rfl,D⟩;have u:=D.box 1 rfl;refine⟨I,rfl,r.block,by rw[<-e2];exact u.cell rfl,(nz I _ r.block 1 (by decide) (by simp[ck]) D).mono ?_⟩;rintro _ h4 ⟨E,rfl,F⟩;have t:=F.box 1 rfl;refine⟨E,rfl,r.id,by rw[<-W];exact t.cell rfl,(nz E _ r.id 2 (by decide) (by simp[ck]) F).mono ?_⟩;rintro _ h5 ⟨V,rfl,J⟩;have a:=J.box 1 rfl;refine⟨V,rfl,r.p.1,by rw[<-w];exact a.cell rfl,r.p.2.1,by rw[<-m];exact a.uy 3 1 rfl,r.p.2.2,by rw[<-n];exact a.uy 3 2 rfl,?_⟩;rw[dQ,dQ,dQ];refine J.lit af aB fX rfl [b8 r.p.1,b8 r.p.2.1,b8 r.p.2.2] rfl (show 3*1<=2^20 by decide) rfl fun O h6 z=>?_;refine z.append af 0 rfl fX ⟨_,_,rfl,rfl⟩ rfl (by decide) (fun _=>rfl) (z.seq 2 rfl fun _=>rfl) gp (by simp[ck]) fun H L d=>?_;have d:Sp h L [an aC H 1 aB ([]++bL r.object 3++bL r.block 1++bL r.id 2++[b8 r.p.1,b8 r.p.2.1,b8 r.p.2.2]),aq f bc (bB x)]:=d.bO [0,1];have o:=d.box 1 rfl;refine⟨r.seed,by rw[<-S];exact o.cell rfl,?_⟩;rw[Go.Vc.wrap_small r.seed (by omega) (by omega)];refine(nz H _ r.seed 4 (by decide) (by simp[ck]) d).mono ?_;rintro _ h8 ⟨T,rfl,j⟩;have i:=j.box 1 rfl;refine⟨T,rfl,x.2.2.2.2.2.2.2,i.cell rfl,?_⟩;refine j.append af 0 rfl fX ⟨_,_,rfl,rfl⟩ rfl (by decide) (fun _=>rfl) (Seq.up M j.ai) gp (by simp[ck];omega) fun G A e=>?_;have Q:[]++bL r.object 3++bL r.block 1++bL r.id 2++[b8 r.p.1,b8 r.p.2.1,b8 r.p.2.2]++bL r.seed 4++r.data=iA r:=by unfold iA;simp[qp]
 have e:Sp h A [an aC G 1 aB (iA r),aq f bc (bB x)]:=by rw[<-Q];exact e
 refine(HZ 1 G (iA r) A (e.seq 0 rfl fun _=>rfl) (by omega)).mono ?_;rintro _ R ⟨c,rfl,k⟩;refine⟨c,rfl,c,rfl,?_⟩;unfold dN;rw[g,if_pos rfl];exact(e.comp k).bO [2]
theorem Ug(b:Sl)(c:List UInt8)(h:Heap)(hb:Rd h b 1 aB c)(hc:c.length<=2^30)(Q:b.len<=b.cap):
  ae xl OM #[vY b.ptr b.len b.cap] h fun v h'=>∃x:bv,v=.tuple #[recv x,xf (dm c).isSome]/\(dm c=none->Sp h h' [])/\∀r,dm c=some r->Sp h h' [EA dT x r]:=by
 refine Mt b ?_;unfold Fv;refine(Sp.refl h).alloc af rfl fun f h1 T=>?_;have T:Sp h h1 [aq f bc (bB (0,0,0,0,0,0,0,⟨none,0,0⟩))]:=T;have D:∀{h':Heap} {Bs:List HP},Sp h h' (aq f bc (bB (0,0,0,0,0,0,0,⟨none,0,0⟩))::Bs)->dm c=none->
   ac xl (qf bc (vZ (some f)) (recv (0,0,0,0,0,0,0,⟨none,0,0⟩))) h' fun _ F=>∃Y:bv,aj F f 0 (bB Y)/\∃x:bv,Value.tuple #[recv Y,xf false]=.tuple #[recv x,xf (dm c).isSome]/\(dm c=none->Sp h F [])/\∀r,dm c=some r->Sp h F [EA dT x r]:=fun{h' Bs} H' G=>by
  refine H'.storeAll af 0 rfl rfl (bB (0,0,0,0,0,0,0,⟨none,0,0⟩)) rfl rfl rfl rfl fun F H4=>?_;exact⟨(0,0,0,0,0,0,0,⟨none,0,0⟩),(H4.box 0 rfl).aO _ rfl,(0,0,0,0,0,0,0,⟨none,0,0⟩),by rw[G];rfl,fun _=>.zip H4.ai,fun r N=>by rw[G]at N;cases N⟩
 refine(YR b c h1 (hb.up T.ai) hc Q).mono ?_;rintro _ h2 ⟨Q0,Q1⟩;cases htc:jT c with
 |none=>
  obtain⟨rfl,R2⟩:=Q0 htc;have G:dm c=none:=by unfold dm;rw[htc]
  exact⟨(0,⟨none,0,0⟩,false),rfl,aX (bi (fun _=>D (T.up R2.ai) G) fun e=>by cases e)⟩
 |some kx=>
  obtain⟨k,x⟩:=kx;obtain⟨r,rfl,R2⟩:=Q1 k x htc;have t:Sp h h2 [aq f bc (bB (0,0,0,0,0,0,0,⟨none,0,0⟩)),an aC r 1 aB x]:=T.comp R2;have a2:x.length=55:=by
   unfold jT at htc;split at htc
   ·rename_i m;injection htc with htc
    injection htc with _ htc
    rw[<-htc];simp;omega
   ·cases htc
  have a6:=(t.own 1 rfl).len;have S:=(t.own 1 rfl).cap;refine⟨(k,r,true),rfl,aX (bi (fun e=>by cases e) fun _=>ci (fun e=>D t ?_) fun M=>?_)⟩
  ·unfold dm;rw[htc];exact if_neg fun m=>e m.1
  dsimp only;have M:k=1:=M;obtain⟨R,s⟩:∃R,R=uE x:=⟨_,rfl⟩
  have J:dm c=if bJ R.p=true/\dN R=c then some R else none:=by
   unfold dm;rw[htc];dsimp only;rw[<-s];by_cases m:bJ R.p=true/\dN R=c
   ·rw[if_pos m];exact if_pos ⟨M,m⟩
   ·rw[if_neg m];exact if_neg fun h=>m h.2
  have tA:∀{h':Heap},Rd h' r 1 aB x->ae xl jq #[vY r.ptr 3 r.cap] h' fun v I=>v=vX xh R.object/\I=h':=fun{h'} N=>by
   rw[s];exact Qn ⟨r.ptr,3,r.cap⟩ (x.take 3) h' (N.take 3 (by omega)) (by simp;omega)
  have O:∀{h':Heap} (j n:Nat),j+n<=55->n<=4->Rd h' r 1 aB x->ae xl jq #[.slice (if r.cap=j then r.ptr else r.ptr.map (·.add (j*1))) n (r.cap-j)] h' fun v I=>v=vX xh (cW ((x.drop j).take n))/\I=h':=fun{h'} j n hjn G N=>
   Qn ⟨if r.cap=j then r.ptr else r.ptr.map (·.add (j*1)),n,r.cap-j⟩ ((x.drop j).take n) h' ((N.drop j S).take n (by rw[q7];omega)) (by simp;omega)
  have rd:∀{h':Heap} {A:HP} {Bs:List HP},Sp h h' (A::an aC r 1 aB x::Bs)->Rd h' r 1 aB x:=fun{h' A Bs} H'=>H'.seq 1 rfl fun _=>rfl;have Jz:∀{h':Heap} {A A2:HP} {Bs:List HP},Sp h h' (A::A2::an aC r 1 aB x::Bs)->Rd h' r 1 aB x:=fun{h' A A2 Bs} H'=>H'.seq 2 rfl fun _=>rfl;refine co (fun(a:Addr) h'=>Sp h h' [aq a bc (bB (R.object,R.block,R.id,0,0,0,0,⟨none,0,0⟩)),aq f bc (bB (0,0,0,0,0,0,0,⟨none,0,0⟩)),an aC r 1 aB x]) ?_ ?_
  ·have eb:cW ((x.drop 3).take 1)=R.block:=by rw[s];rfl
   have ei:cW ((x.drop 4).take 2)=R.id:=by rw[s];rfl
   have fin:∀{h':Heap} {a:Addr},Sp h h' [aq f bc (bB (0,0,0,0,0,0,0,⟨none,0,0⟩)),an aC r 1 aB x,aq a bc (bB (0,0,0,0,0,0,0,⟨none,0,0⟩))]->
     ac xl (qf bc (vZ (some a)) (recv (R.object,R.block,R.id,0,0,0,0,⟨none,0,0⟩))) h' fun _ F=>ar.ok [] F/\Sp h F [aq a bc (bB (R.object,R.block,R.id,0,0,0,0,⟨none,0,0⟩)),aq f bc (bB (0,0,0,0,0,0,0,⟨none,0,0⟩)),an aC r 1 aB x]:=fun{h' a} H'=>
    H'.storeAll af 2 rfl rfl (bB (R.object,R.block,R.id,0,0,0,0,⟨none,0,0⟩)) rfl rfl rfl rfl fun F H4=>⟨trivial,H4.bO [2,0,1]⟩
   have A_:∀{h':Heap} {Bs:List HP} {K:Int->Heap->Prop},Sp h h' (aq f bc (bB (0,0,0,0,0,0,0,⟨none,0,0⟩))::an aC r 1 aB x::Bs)->K R.object h'->ag xl jq #[vY r.ptr 3 r.cap] (.one (.sc (.int .i64))) h' K:=fun{h' Bs K} H' hK=>by
    refine(tA (rd H')).mono ?_;rintro _ _ ⟨rfl,rfl⟩;exact⟨_,rfl,hK⟩
   have B_:∀{h':Heap} {Bs:List HP} {K:Int->Heap->Prop},Sp h h' (aq f bc (bB (0,0,0,0,0,0,0,⟨none,0,0⟩))::an aC r 1 aB x::Bs)->K R.block h'->ag xl jq #[.slice (if r.cap=3 then r.ptr else r.ptr.map (·.add (3*1))) 1 (r.cap-3)] (.one (.sc (.int .i64))) h' K:=fun{h' Bs K} H' hK=>by
    refine(O 3 1 (by decide) (by decide) (rd H')).mono ?_;rintro _ _ ⟨rfl,rfl⟩;exact⟨_,rfl,by rw[eb];exact hK⟩
   have C_:∀{h':Heap} {Bs:List HP} {K:Int->Heap->Prop},Sp h h' (aq f bc (bB (0,0,0,0,0,0,0,⟨none,0,0⟩))::an aC r 1 aB x::Bs)->K R.id h'->ag xl jq #[.slice (if r.cap=4 then r.ptr else r.ptr.map (·.add (4*1))) 2 (r.cap-4)] (.one (.sc (.int .i64))) h' K:=fun{h' Bs K} H' hK=>by
    refine(O 4 2 (by decide) (by decide) (rd H')).mono ?_;rintro _ _ ⟨rfl,rfl⟩;exact⟨_,rfl,by rw[ei];exact hK⟩
   refine⟨⟨by decide,by omega⟩,⟨by decide,by decide,by omega⟩,⟨by decide,by decide,by omega⟩,A_ t ⟨trivial,B_ t ⟨trivial,C_ t ⟨trivial,?_⟩,?_⟩,?_⟩,?_⟩
   ·refine t.alloc af rfl fun a9 h9 l=>⟨trivial,?_⟩
    exact fin l
   ·refine t.alloc af rfl fun a9 h9 l=>⟨trivial,?_⟩
    exact C_ l ⟨trivial,fin l⟩
   ·refine t.alloc af rfl fun a9 h9 l=>⟨trivial,?_⟩
    exact B_ l ⟨trivial,C_ l ⟨trivial,fin l⟩⟩
   ·refine t.alloc af rfl fun a9 h9 l=>⟨trivial,?_⟩
    exact A_ l ⟨trivial,B_ l ⟨trivial,C_ l ⟨trivial,fin l⟩⟩⟩
  ·rintro a9 h5 H5;have L:0<=R.seed/\R.seed<4294967296:=by
    have:=Uf ((x.drop 9).take 4) (by simp;omega);rw[s];exact⟨this.1,this.2.1⟩
   have e6:cW ((x.drop 6).take 1)=R.p.1:=by rw[s];rfl
   have e7:cW ((x.drop 7).take 1)=R.p.2.1:=by rw[s];rfl
   have e8:cW ((x.drop 8).take 1)=R.p.2.2:=by rw[s];rfl
   have e9:cW ((x.drop 9).take 4)=R.seed:=by rw[s];rfl
   refine aX ⟨⟨by decide,by decide,by omega⟩,⟨by decide,by decide,by omega⟩,⟨by decide,by decide,by omega⟩,(O 6 1 (by decide) (by decide) (Jz H5)).mono ?_⟩;rintro _ _ ⟨rfl,rfl⟩;refine⟨_,rfl,trivial,(O 7 1 (by decide) (by decide) (Jz H5)).mono ?_⟩;rintro _ _ ⟨rfl,rfl⟩;refine⟨_,rfl,trivial,(O 8 1 (by decide) (by decide) (Jz H5)).mono ?_⟩;rintro _ a8 ⟨rfl,rfl⟩;refine⟨_,rfl,trivial,?_⟩;dsimp only;rw[e6,e7,e8];refine H5.store af 0 rfl rfl 3 [vX xh R.p.1,vX xh R.p.2.1,vX xh R.p.2.2] rfl rfl rfl (by simp) fun ah w=>⟨trivial,?_⟩
   have w:Sp h ah [aq a9 bc (bB (R.object,R.block,R.id,R.p.1,R.p.2.1,R.p.2.2,0,⟨none,0,0⟩)),aq f bc (bB (0,0,0,0,0,0,0,⟨none,0,0⟩)),an aC r 1 aB x]:=w;refine⟨⟨by decide,by decide,by omega⟩,(O 9 4 (by decide) (by decide) (Jz w)).mono ?_⟩;rintro _ a7 ⟨rfl,rfl⟩;refine⟨_,rfl,?_⟩;dsimp only;have ew:qc xj (cW ((x.drop 9).take 4))=R.seed:=by
    rw[e9];unfold qc;simp[qk,yO];omega
   rw[ew];refine w.store af 0 rfl rfl 6 [vX xj R.seed] rfl rfl rfl (by simp) fun W B=>?_;have B:Sp h W [aq a9 bc (bB (R.object,R.block,R.id,R.p.1,R.p.2.1,R.p.2.2,R.seed,⟨none,0,0⟩)),aq f bc (bB (0,0,0,0,0,0,0,⟨none,0,0⟩)),an aC r 1 aB x]:=B;refine⟨R.p,(B.box 0 rfl).Jb 3 rfl rfl rfl,(dS R.p W).mono ?_⟩;rintro _ V ⟨rfl,ad⟩;have z:Sp h V [aq a9 bc (bB (R.object,R.block,R.id,R.p.1,R.p.2.1,R.p.2.2,R.seed,⟨none,0,0⟩)),aq f bc (bB (0,0,0,0,0,0,0,⟨none,0,0⟩)),an aC r 1 aB x]:=B.up ad.ai;refine⟨_,rfl,bi (fun g=>D (z.bo 2 [1,0]) (by rw[J,if_neg (fun m=>by rw[g]at m;cases m.1)])) fun g=>?_⟩;have a3:=(bK R.p).1 g;refine⟨R.p.2.2,(z.box 0 rfl).uy 3 2 rfl,?_⟩;rw[Go.Vc.wrap_small ((13:Int)+R.p.2.2) (by omega) (by omega)];refine⟨⟨by decide,by omega,by omega⟩,?_⟩;have ax:((13:Int)+R.p.2.2).toNat-(13:Int).toNat=R.p.2.2.toNat:=by omega
   rw[ax];have H:(x.drop 13).take R.p.2.2.toNat=R.data:=by rw[s];rfl
   have E:=((Jz z).drop 13 S).take R.p.2.2.toNat (by rw[q7];omega);rw[H]at E;have a4:R.data.length=R.p.2.2.toNat:=by rw[<-H];simp;omega
   refine(fO ⟨if r.cap=13 then r.ptr else r.ptr.map (·.add (13*1)),R.p.2.2.toNat,r.cap-13⟩ R.data V E (by omega)).mono ?_;rintro _ a5 ⟨u,rfl,a0⟩;have ao:=z.comp a0;refine⟨u,rfl,?_⟩;refine ao.store af 0 rfl rfl 7 [vY u.ptr u.len u.cap] rfl rfl rfl (by simp) fun Z i=>?_;have i:Sp h Z [aq a9 bc (bB (R.object,R.block,R.id,R.p.1,R.p.2.1,R.p.2.2,R.seed,u)),aq f bc (bB (0,0,0,0,0,0,0,⟨none,0,0⟩)),an aC r 1 aB x,an aC u 1 aB R.data]:=i;obtain⟨X,hX⟩:∃X:bv,X=(R.object,R.block,R.id,R.p.1,R.p.2.1,R.p.2.2,R.seed,u):=⟨_,rfl⟩
   rw[<-hX]at i;have P:∀{h':Heap} {q:aA},Seq h' q u 1 aB R.data->dT.p h' q X R:=fun{h' q} hs=>by rw[hX];exact⟨⟨rfl,rfl,rfl,rfl,rfl,L⟩,hs⟩
   refine⟨X,(i.box 0 rfl).aO _ rfl,(Cp X R Z (P (i.seq 3 rfl fun _=>rfl))).mono ?_⟩;rintro _ am ⟨s5,rfl,ay⟩;have o:=i.comp ay;refine⟨s5,rfl,(Ac b s5 c (dN R) am (hb.up o.ai) (o.seq 4 rfl fun _=>rfl)).mono ?_⟩;rintro _ bb ⟨rfl,rfl⟩;refine⟨_,rfl,bi (fun g2=>D (o.bo 2 [1,0]) (by rw[J,if_neg (fun m=>(of_decide_eq_false g2) m.2.symm)])) fun g2=>?_⟩;have g2:c=dN R:=of_decide_eq_true g2;refine⟨X,(o.box 0 rfl).aO _ rfl,?_⟩;refine o.storeAll af 1 rfl rfl (bB X) rfl rfl rfl rfl fun ab U=>?_;have d:dm c=some R:=by rw[J,if_pos ⟨g,g2.symm⟩]
   refine⟨X,(U.box 1 rfl).aO _ rfl,X,by rw[d];rfl,fun G=>(by rw[d]at G;cases G),fun r' y=>?_⟩;rw[d]at y;injection y with y
   subst y;have ap:Sp h ab [an aC u 1 aB R.data]:=U.bO [3];exact ap.gq 0 rfl fun q hq=>P (hq.1.seq (fun _=>rfl) hq.2)
end Go.Proofs.YtdhamoojccmbdaaGreatDoor
namespace Go.Vc
open Go Wl Go.Proofs.YtdhamoojccmbdaaGreatDoor
section
variable {B:aA} {h0 h h':Heap} {As L:List HP} {X Y Z:HP}
theorem aa.ahO(H:aa B h0 h (X::Y::(L++As))):aa B h0 h (L++(X::Y::As)):=
 H.pick (fun i=>if i<L.length then i+2 else if i=L.length then 0 else if i=L.length+1 then 1 else i) (fun a b c=>by(try dsimp only at c);split at c<;>split at c<;>(try split at c)<;>(try split at c)<;>(try split at c)<;>(try split at c)<;>omega) fun i A d=>by
  try dsimp only
  by_cases g:i<L.length
  ·rw[qn g]at d;rw[if_pos g,qy,qy,qn g];exact d
  ·rw[qj (by omega)]at d;rw[if_neg g];by_cases f:i=L.length
   ·subst f;rw[if_pos rfl];rw[zj]at d;exact d
   ·rw[if_neg f];by_cases e:i=L.length+1
    ·subst e;rw[if_pos rfl];rw[show L.length+1-L.length=1 by omega]at d;exact d
    ·rw[if_neg e];obtain⟨j,rfl⟩:∃j,i=L.length+(j+2):=⟨i-L.length-2,by omega⟩
     rw[zn,qy,qy]at d;rw[show L.length+(j+2)=(L.length+j)+1+1 by omega,qy,qy,qj (by omega),zn];exact d
theorem aa.afN(n:Nat)(c:L[n]?=some X)(H:aa B h0 h (Y::Z::(L++As))):aa B h0 h (X::Z::Y::(L.set n emp++As)):=by
 have a:=(qm.1 c).1;have b:=H.cons (n+2) (A:=X) (by rw[qy,qy,qn a];exact c);have e:(Y::Z::(L++As)).set (n+2) emp=Y::Z::(L.set n emp++As):=by
  rw[wD,wD,List.set_append_left _ _ a]
 rw[e]at b;exact b.bo 3 [0,2,1]
theorem aa.Xw(n:Nat)(g:n<L.length)(H:aa B h0 h (X::Z::Y::(L.set n emp++As))):aa B h0 h (Y::Z::(L.set n X++As)):=
 H.pick (fun i=>if i=0 then 2 else if i=1 then 1 else if i=n+2 then 0 else i+1) (fun a b c=>by(try dsimp only at c);split at c<;>split at c<;>(try split at c)<;>(try split at c)<;>(try split at c)<;>(try split at c)<;>omega) fun i A d=>by
  try dsimp only
  match i,d with
  |0,d=>exact d
  |1,d=>exact d
  |i+2,d=>
   rw[if_neg (by omega),if_neg (by omega)];rw[qy,qy]at d;by_cases e:i=n
   ·subst e;rw[qn (by simpa using g),zA g]at d;rw[if_pos rfl];exact d
   ·rw[if_neg (by omega),qy,qy,qy];by_cases f:i<L.length
    ·rw[qn (by simpa using f),z7 (by omega)]at d;rw[qn (by simpa using f),z7 (by omega)];exact d
    ·rw[qj (by simp;omega),zH]at d;rw[qj (by simp;omega),zH];exact d
end
structure JU where
 tS:Nat
 tP:Nat
 tD:Nat
 f:Addr->bC->Sl->Sl->List Value
def aha(k:JU)(pw:Addr)(a:Option Addr)(d:Option bC):HP:=match a,d with
 |some a,some d=>lC k.tD (k.f pw) a d
 |_,_=>emp
abbrev dF(a:List Value)(pw:Addr)(offs:Int)(b:List (Option Addr)):List Value:=a++(vZ (some pw)::vX xh offs::b.map .pointer)
structure gZ (mc:List Value) (da:List (Option Addr)) (ds:aW):Prop where
 l8:mc.length=8
 la:da.length=64
 ls:ds.length=64
 same:∀i:Nat,(da.getD i none).isSome=(ds.getD i none).isSome
abbrev iX(k:JU)(pw:Addr)(a:List (Option Addr))(ds:aW):List HP:=zm (aha k pw) a ds
def bn(k:JU)(a pw:Addr)(c:List Value)(offs:Int)(b:List (Option Addr))(w:Pow)(ds:aW):HP:=
 (HP.all (aq a k.tS (dF c pw offs b)::dR k.tP pw w::iX k pw b ds)).and (gZ c b ds)
section
variable {k:JU} {B:aA} {h0 h h':Heap} {As:List HP} {a pw:Addr} {mc:List Value} {offs:Int} {da:List (Option Addr)} {w w':Pow} {ds:aW} {d d':bC} {n:Nat}
theorem Uh(ok:gZ mc da ds):(iX k pw da ds).length=64:=by simp[iX,ok.la,ok.ls]
theorem aa.Ad(H:aa B h0 h (bn k a pw mc offs da w ds::As)):gZ mc da ds/\aa B h0 h (aq a k.tS (dF mc pw offs da)::dR k.tP pw w::(iX k pw da ds++As)):=by
 obtain⟨H,ok⟩:=H.Kj;exact⟨ok,H.CE⟩
theorem aa.Bx(ok:gZ mc da ds)(H:aa B h0 h (aq a k.tS (dF mc pw offs da)::dR k.tP pw w::(iX k pw da ds++As))):aa B h0 h (bn k a pw mc offs da w ds::As):=
 (aa.closeAll (aq a k.tS (dF mc pw offs da)::dR k.tP pw w::iX k pw da ds) H).toKj ok
theorem gZ.addr(ok:gZ mc da ds)(c:ds[n]?=some (some d)):∃b,da[n]?=some (some b):=by
 have g:n<64:=by have:=(qm.1 c).1;rw[ok.ls]at this;exact this
 have a:=ok.same n;rw[qe,qe,c]at a;have f:n<da.length:=by rw[ok.la];exact g
 rw[qd f]at a⊢;simp at a;obtain⟨b,e⟩:=vj.1 a;exact⟨b,by rw[e]⟩
theorem gZ.abm(ok:gZ mc da ds)(d:n<64)(b:ds[n]?=some none):da[n]?=some none:=by
 have a:=ok.same n;rw[qe,qe,b]at a;have c:n<da.length:=by rw[ok.la];exact d
 rw[qd c]at a⊢;simp at a;rw[a]
theorem gZ.set(ok:gZ mc da ds){b:Addr}(c:da[n]?=some (some b)):gZ mc da (ds.set n (some d')):=by
 refine⟨ok.l8,ok.la,by rw[zH];exact ok.ls,fun i=>?_⟩;by_cases a:n=i
 ·subst a;have d:n<ds.length:=by have:=(qm.1 c).1;rw[ok.la]at this;rw[ok.ls];exact this
  rw[qe,c,qe,zA d];rfl
 ·rw[qe (l:=ds.set n _),z7 a,<-qe];exact ok.same i
theorem adD{b:Addr}(c:da[n]?=some (some b))(d:n<ds.length):(iX k pw da ds).set n (lC k.tD (k.f pw) b d')=iX k pw da (ds.set n (some d')):=by
 apply zK;intro j;have e:n<da.length:=(qm.1 c).1;simp only[iX,q8,wO,List.length_zipWith];by_cases a:n=j
 ·subst a;rw[if_pos rfl,if_pos (by omega),if_pos rfl,if_pos d,c];rfl
 ·simp[a]
def RW(k:JU)(a pw:Addr)(c:List Value)(offs:Int)(b:List (Option Addr))(ds:aW)(n:Nat):HP:=
 (HP.all (aq a k.tS (dF c pw offs b)::(iX k pw b ds).set n emp)).and (gZ c b ds)
theorem aa.mW(H:aa B h0 h (bn k a pw mc offs da w ds::As))(e:ds[n]?=some (some d)):∃b,da[n]?=some (some b)/\aa B h0 h (lC k.tD (k.f pw) b d::dR k.tP pw w::RW k a pw mc offs da ds n::As):=by
 obtain⟨ok,l⟩:=H.Ad;obtain⟨b,c⟩:=ok.addr e;refine⟨b,c,?_⟩;have i:(iX k pw da ds)[n]?=some (lC k.tD (k.f pw) b d):=by
  simp only[iX,wO,c,e];rfl
 have g:=l.afN n i;have j:aa B h0 h (lC k.tD (k.f pw) b d::dR k.tP pw w::((aq a k.tS (dF mc pw offs da)::(iX k pw da ds).set n emp)++As)):=g;exact(((aa.closeAll _ j.ahO).toKj ok).bo 3 [1,2,0]:aa B h0 h (lC k.tD (k.f pw) b d::dR k.tP pw w::RW k a pw mc offs da ds n::As))
theorem aa.KW{b:Addr}(m:da[n]?=some (some b))(H:aa B h0 h (lC k.tD (k.f pw) b d'::dR k.tP pw w'::RW k a pw mc offs da ds n::As)):aa B h0 h (bn k a pw mc offs da w' (ds.set n (some d'))::As):=by
 have l:aa B h0 h (RW k a pw mc offs da ds n::dR k.tP pw w'::lC k.tD (k.f pw) b d'::As):=H.bo 3 [2,1,0];obtain⟨l,ok⟩:=l.Kj;have p:=l.CE;have q:n<ds.length:=by have:=(qm.1 m).1;rw[ok.la]at this;rw[ok.ls];exact this
 have t:=Uh (k:=k) (pw:=pw) ok;have g:n<(iX k pw da ds).length:=by rw[t,<-ok.ls];exact q
 obtain⟨L,r⟩:∃L,L=iX k pw da ds:=⟨_,rfl⟩
 rw[<-r]at p g;have s:aa B h0 h (lC k.tD (k.f pw) b d'::dR k.tP pw w'::aq a k.tS (dF mc pw offs da)::(L.set n emp++As)):=by
  refine p.pick (fun i=>if i=0 then 1+L.length+1 else if i=1 then 1+L.length else if i=2 then 0 else if i<3+L.length then i-2 else i) (fun x y c=>by(try dsimp only at c);split at c<;>split at c<;>(try split at c)<;>(try split at c)<;>(try split at c)<;>(try split at c)<;>(try split at c)<;>(try split at c)<;>omega) fun i A e=>?_
  try dsimp only
  have d:(aq a k.tS (dF mc pw offs da)::L.set n emp).length=1+L.length:=by simp;omega
  match i,e with
  |0,e=>rw[if_pos rfl,qj (by omega),d,show 1+L.length+1-(1+L.length)=1 by omega];exact e
  |1,e=>rw[if_neg (by omega),if_pos rfl,qj (by omega),d,zj];exact e
  |2,e=>rw[if_neg (by omega),if_neg (by omega),if_pos rfl];exact e
  |i+3,e=>
   rw[if_neg (by omega),if_neg (by omega),if_neg (by omega)];rw[qy,qy,qy]at e;by_cases j:i<L.length
   ·rw[if_pos (by omega),show i+3-2=i+1 by omega,qn (by rw[d];omega),qy];rw[qn (by simpa using j)]at e;exact e
   ·rw[if_neg (by omega),qj (by rw[d];omega),d,show i+3-(1+L.length)=(i-L.length)+2 by omega,qy,qy];rw[qj (by simp;omega),zH]at e;exact e
 have o:=aa.Xw n g s;rw[r,adD m q]at o;exact o.Bx (ok.set m)
end
def kS:je (Int×Sl) (Int×List UInt8):=⟨fun h q a b=>a.1=b.1/\Seq h q a.2 1 aB b.2,fun a d=>⟨a.1,a.2.ai d⟩,fun a c=>⟨a.1,a.2.mono c⟩⟩
def piv(x:Int×Sl):List Value:=[vX xh x.1,vY x.2.ptr x.2.len x.2.cap]
theorem Pk:∀x,∀c∈piv x,c.oneCell'=true:=by intro x c a;simp[piv]at a;rcases a with rfl|rfl<;>rfl
def mX(b:List (Option Addr))(a:Int):Option Addr:=if 0<=a/\a<64 then(b[a.toNat]?).join else none
theorem oE{i:List Value}{e:List (Option Addr)}{ds:aW}(ok:gZ i e ds)(a:Int):
  (bG ds a=none/\mX e a=none)∨∃(n:Nat) (d:bC) (b:Addr),a=n/\n<64/\ds[n]?=some (some d)/\bG ds a=some d/\e[n]?=some (some b)/\mX e a=some b:=by
 unfold bG mX;by_cases h:0<=a/\a<64
 ·rw[if_pos h,if_pos h];have g:a.toNat<ds.length:=by rw[ok.ls];omega
  cases hd:ds[a.toNat]with
  |none=>
   have c:ds[a.toNat]?=some none:=by rw[qd g,hd]
   exact .inl ⟨by rw[c];rfl,by rw[ok.abm (by omega) c];rfl⟩
  |some d=>
   have c:ds[a.toNat]?=some (some d):=by rw[qd g,hd]
   obtain⟨b,f⟩:=ok.addr c;exact .inr ⟨a.toNat,d,b,by omega,by omega,c,by rw[c];rfl,f,by rw[f];rfl⟩
 ·rw[if_neg h,if_neg h];exact .inl ⟨rfl,rfl⟩
theorem pf{a:List Value}{pw:Addr}{offs:Int}{b:List (Option Addr)}(h8:a.length=8)(n:Nat):(dF a pw offs b)[10+n]?=(b[n]?).map .pointer:=by
 unfold dF;rw[qj (by omega),h8,show 10+n-8=n+1+1 by omega,qy,qy,qP]
theorem adE{a:List Value}{pw:Addr}{offs:Int}{b:List (Option Addr)}(h8:a.length=8):(dF a pw offs b)[8]?=some (vZ (some pw)):=by
 unfold dF;rw[qj (by omega),h8];rfl
theorem YS{a:List Value}{pw:Addr}{offs:Int}{b:List (Option Addr)}(h8:a.length=8):(dF a pw offs b)[9]?=some (vX xh offs):=by
 unfold dF;rw[qj (by omega),h8];rfl
end Go.Vc
namespace Go.Proofs.YtdhamoojccmbdaaGreatDoor
open Go Go.Vc Go.Proofs Wl
abbrev bA:Go.Vc.JU:=⟨fS,bD,cE,fun pw=>gS pw⟩
theorem Ui{e:TypeId}(s:Sl)(l:List Int)(h:Heap)(c:Own h e s 1 aD l)(a:l.length<2^40):ae xl uP #[vY s.ptr s.len s.cap] h fun v h'=>v=vY s.ptr (Lib.compact l).length s.cap/\Own h' e ⟨s.ptr,(Lib.compact l).length,s.cap⟩ 1 aD (Lib.compact l)/\aU (fun b=>¬s.on b) h h':=
 LI Tryz.slices_Compact_int Tryz.slices_Compact_int_empty c a
section
variable {B:aA} {h0 h h':Heap} {As:List HP} {a pw:Addr} {mc:List Value} {offs:Int} {da:List (Option Addr)} {w:Pow} {ds:aW}
theorem sO(b:Int)(ok:gZ mc da ds)(f:cy h a fS (dF mc pw offs da)):ae xl dh #[vZ (some a),vX xh b] h fun v h'=>v=.pointer (mX da b)/\h'=h:=by
 refine CM (some a) b ?_;unfold rE;have c:¬(0<=b/\b<64)->Value.pointer none=.pointer (mX da b)/\h=h:=fun e=>by unfold mX;rw[if_neg e];exact⟨rfl,rfl⟩
 refine aX (bs (fun e=>by cases e) fun _=>ak (fun e=>c (by omega)) fun g=>ak (fun e=>c (by omega)) fun e2=>?_);have d:b.toNat<da.length:=by rw[ok.la];omega
 refine⟨a,rfl,⟨by omega,by omega⟩,da[b.toNat],?_,?_,rfl⟩
 ·rw[wJ];refine f.uy 10 b.toNat ?_;rw[pf ok.l8,qd d];rfl
 ·unfold mX;rw[if_pos (by omega),qd d];rfl
theorem aa.cI(H:aa B h0 h (bn bA a pw mc offs da w ds::As)):gZ mc da ds/\cy h a fS (dF mc pw offs da):=by
 obtain⟨ok,b⟩:=Go.Vc.aa.Ad H;exact⟨ok,b.box 0 rfl⟩
theorem Na(s:Sl)(l:List Int)(x:Rd h s 1 aD l)(M:l.length<=2^30)(H:aa B h0 h (bn bA a pw mc offs da w ds::As)):
  ae xl VH #[.func (.func dh) #[vZ (some a)] #[],vY s.ptr s.len s.cap] h fun v h'=>∃r:Sl,v=vY r.ptr r.len r.cap/\Sp h h' [an aT r 1 aD (bg ds l)]:=by
 refine Tx (dh,#[vZ (some a)],#[]) s ?_;unfold Mh;have D:=x.len;obtain⟨ok,u⟩:=aa.cI H;refine aw (fun t:Sl×Nat=>(t.1,(t.2:Int))) (fun t h'=>t.2<=l.length/\Sp h h' [an aT t.1 1 aD (bg ds (l.take t.2))]) (fun t=>l.length-t.2) (⟨none,0,0⟩,0) rfl ⟨by simp,by simpa[bg]using(Sp.refl h).nil aT 1 aD⟩ ?_;rintro⟨o,i⟩ J ⟨G,j⟩;dsimp only at*;refine ak (fun e=>?_) (fun e=>?_)
 ·have p:i<l.length:=by omega
  have c:bg ds (l.take (i+1))=bg ds (l.take i)++(if isLive ds l[i]then[l[i]]else[]):=by
   unfold bg;rw[aJ _ _ p,zk,zp,yW]
  have y:(bg ds (l.take i)).length<=l.length:=by
   have:=qY (isLive ds) (l.take i);unfold bg;simp at this⊢;omega
  have next:∀{h':Heap} {k:Sl},Sp h h' [an aT k 1 aD (bg ds (l.take (i+1)))]->∃m:Sl×Nat,((⟨k.ptr,k.len,k.cap⟩:Sl),qc xh ((i:Int)+1))=(m.1,(m.2:Int))/\(m.2<=l.length/\Sp h h' [an aT m.1 1 aD (bg ds (l.take m.2))])/\l.length-m.2<l.length-i:=fun{h' k} H'=>
   ⟨(k,i+1),by dsimp only;rw[Go.Vc.wrap_small _ (by omega) (by omega)];rfl,⟨by dsimp only;omega,H'⟩,by dsimp only;omega⟩
  refine(Seq.up x j.ai).bz i rfl p l[i] rfl (fa (by rfl) ?_);refine(sO l[i] ok (u.ai j.ai u.lt)).mono ?_;rintro _ I ⟨rfl,rfl⟩;refine⟨_,rfl,?_⟩;rcases oE ok l[i]with⟨c1,c2⟩|⟨n,d,b,c0,c1,c2,c3,c4,c5⟩
  ·rw[c2];have g:isLive ds l[i]=false:=by unfold isLive;rw[c1]
   rw[g]at c;refine bi (fun e=>by cases e) fun _=>next (by rw[c];simpa using j)
  ·rw[c5];have g:isLive ds l[i]=!d.lost:=by unfold isLive;rw[c3]
   refine bi (fun _=>?_) fun e=>by cases e
   obtain⟨K,f,E⟩:=Go.Vc.aa.mW (aa.up H j.ai) c2;rw[c4]at f;injection f with f
   injection f with f
   subst f;obtain⟨A,F,q,_,_⟩:=mV.box E;refine(HY A F q).mono ?_;rintro _ h3 ⟨rfl,rfl⟩;refine⟨_,rfl,bi (fun e=>?_) (fun e=>?_)⟩
   ·rw[g,e]at c;refine j.push af 0 rfl me rfl (by decide) (fun _=>rfl) jp l[i] rfl (by decide) (by omega) fun k L z=>next ?_
    rw[c];exact z
   ·rw[g,e]at c;exact next (by rw[c];simpa using j)
 ·rw[qi (by omega)]at j;exact⟨o,rfl,j⟩
theorem YT(s:Sl)(l:List Int)(W:St B h0 As fun h=>Rd h s 1 aD l)(hl:l.length<=2^30)(G:∀x∈l,0<=x/\x<64)(H:aa B h0 h (bn bA a pw mc offs da w ds::As)):
  ae xl VJ #[.func (.func dh) #[vZ (some a)] #[],vY s.ptr s.len s.cap] h fun v h'=>v=vX xh (kC (fK l) w ds).1/\aa B h0 h' (bn bA a pw mc offs da (kC (fK l) w ds).2.1 (kC (fK l) w ds).2.2::As):=by
 refine TC (dh,#[vZ (some a)],#[]) s ?_;unfold Ml;refine(jr s l h (W.at [_] H) (by omega)).mono ?_;rintro _ P ⟨r,rfl,Y⟩;have L:=H.dc Y;refine⟨r,rfl,(Qk r l P (L.own 0 rfl) (by omega)).mono ?_⟩;rintro _ O ⟨rfl,J,S⟩;have V:=L.oI 0 rfl S J;refine⟨(),rfl,(Ui r (ni l) O J (by rw[PI];omega)).mono ?_⟩;rintro _ h3 ⟨rfl,U,I⟩;have o:=V.step (D:=an aT ⟨r.ptr,(Lib.compact (ni l)).length,r.cap⟩ 1 aD (Lib.compact (ni l))) 0 rfl fun q z E=>⟨I.mono fun b _ m F=>m (z.2 b F),U,fun b m=>⟨qV (E b (z.2 b m)) I.1,.inl (z.2 b m)⟩⟩
 rw[Yk l G]at o⊢;obtain⟨u,M⟩:∃u,u=fK l:=⟨_,rfl⟩
 rw[<-M]at o⊢;have o:aa B h0 h3 (an aT ⟨r.ptr,u.length,r.cap⟩ 1 aD u::bn bA a pw mc offs da w ds::As):=o;have R:u.length<=64:=by
  have:=qY (fun i=>decide (i∈l)) ((qC 64).map fun i:Nat=>(i:Int));rw[M];unfold fK;simpa using this
 refine⟨⟨r.ptr,u.length,r.cap⟩,rfl,?_⟩;refine aw (fun t:Nat×Pow×aW=>(t.1:Int)) (fun t h'=>t.1<=u.length/\kC u w ds=kC (u.drop t.1) t.2.1 t.2.2/\aa B h0 h' (an aT ⟨r.ptr,u.length,r.cap⟩ 1 aD u::bn bA a pw mc offs da t.2.1 t.2.2::As)) (fun t=>u.length-t.1) (0,w,ds) rfl ⟨by simp,rfl,o⟩ ?_;rintro⟨i,j,f⟩ h4 ⟨Z,c,y⟩;dsimp only at*;refine ak (fun e=>?_) (fun e=>?_)
 ·have p:i<u.length:=by omega
  obtain⟨ok,m⟩:=aa.cI y.rest;rw[qW p,DT]at c;refine(y.seq 0 rfl fun _=>rfl).bz i rfl p u[i] rfl (fa (by rfl) ?_);refine(sO u[i] ok m).mono ?_;rintro _ Q ⟨rfl,rfl⟩;refine⟨_,rfl,?_⟩;rcases oE ok u[i]with⟨c1,c2⟩|⟨n,d,b,c0,c1,c2,c3,c4,c5⟩
  ·rw[c2];refine(Uc Q).mono ?_;rintro _ T ⟨rfl,rfl⟩;have A:gX j f u[i]=(5,j,f):=by unfold gX;rw[c1]
   rw[A]at c;refine⟨5,rfl,ci (fun _=>?_) fun e=>absurd e (by decide)⟩;have:kC u w ds=(5,j,f):=c;rw[this];exact⟨rfl,y.rest⟩
  ·rw[c5];obtain⟨b',g,X⟩:=Go.Vc.aa.mW (y.bo 2 [1,0]) c2;rw[c4]at g;injection g with g
   injection g with g
   subst g;refine(abe X).mono ?_;rintro _ T ⟨rfl,N⟩;have K:=Go.Vc.aa.KW (k:=bA) (n:=n) c4 N;have A:gX j f u[i]=((d.sync j).1,(d.sync j).2.1,f.set n (some (d.sync j).2.2)):=by
    unfold gX;rw[c3];simp only[lm,c0,qo]
   rw[A]at c;refine⟨_,rfl,ci (fun e2=>?_) fun e2=>?_⟩
   ·have:kC u w ds=((d.sync j).1,(d.sync j).2.1,f.set n (some (d.sync j).2.2)):=by rw[c];exact if_neg e2
    rw[this];exact⟨rfl,K.II⟩
   ·refine⟨(i+1,(d.sync j).2.1,f.set n (some (d.sync j).2.2)),by dsimp only;rw[Go.Vc.wrap_small _ (by omega) (by omega)];rfl,⟨by dsimp only;omega,?_,K.bo 2 [1,0]⟩,by dsimp only;omega⟩;rw[c];exact if_pos e2
 ·rw[zg (by omega)]at c;rw[c];exact⟨rfl,y.rest⟩
end
end Go.Proofs.YtdhamoojccmbdaaGreatDoor
namespace Go.Vc
open Go Wl
theorem HP.Dv{h:Heap}:∀{L:List HP} {q:aA} {i:Nat} {A:HP},(HP.all L).p h q->L[i]?=some A->A.p h q
 |A::L,q,0,A',⟨q1,q2,_,b,_,d,_⟩,hi=>by simp at hi;subst hi;exact A.mono d b
 |A::L,q,i+1,A',⟨q1,q2,_,_,c,_,e⟩,hi=>A'.mono (HP.Dv e (by simpa using hi)) c
 |[],_,i,_,_,hi=>by simp at hi
section
variable {α β:Type} {B:aA} {h0 h:Heap} {As:List HP} {e e2 k:Nat} {s:Sl} {f:α->List Value} {ll:List (List α)}
theorem aa.adF(H:aa B h0 h (mi e s e2 k f ll::As))(n:∀x,(f x).length=k):∃rs,aa B h0 h (cj (ju k f) 1 bQ s rs ll::As):=by
 obtain⟨rs,H⟩:=H.IJ;obtain⟨H,g⟩:=H.Kj;refine⟨rs,H.gq 0 rfl fun q b=>⟨?_,g,fun i r l d a=>?_⟩⟩
 ·have:=HP.Dv (i:=0) b rfl;exact this.1.seq (fun _=>rfl) this.2
 ·have c:i<ll.length:=(qm.1 a).1;have j:=kl (e:=e2) (k:=k) (f:=f) g i c;have:=HP.Dv (i:=i+1) b (by simpa using j);have m:rs[i]'(by omega)=r:=by rw[qd (by omega)]at d;simpa using d
  have e2:ll[i]=l:=by rw[qd c]at a;simpa using a
  rw[m,e2]at this;exact this.1.seq n this.2
end
end Go.Vc
namespace Wl
def bx(m:aE)(a:List Int):List (Int×List UInt8):=a.flatMap fun n=>(be m).map fun c=>(n,c)
theorem kv{m:aE}{a:List Int}{x:Int×List UInt8}(h:x∈bx m a):x.1∈a/\x.2.length=64:=by
 unfold bx at h;obtain⟨n,e,b⟩:=zo.1 h;obtain⟨c,d,rfl⟩:=qu.1 b;exact⟨e,DW d⟩
end Wl
namespace Go.Proofs.YtdhamoojccmbdaaGreatDoor
open Go Go.Vc Go.Proofs Wl
theorem jZ(m:aE)(a:dp m):(be m).length<=3000:=by
 have:=KU m a;unfold be gT;simp;omega
abbrev Uj:bN C.toCB fx dK 2 [vX xh 0,vY none 0 0] 32:=⟨_,_,rfl,rfl,rfl,rfl,rfl,rfl⟩
section
variable {B:aA} {h0 h h':Heap} {As:List HP} {a pw:Addr} {mc:List Value} {offs:Int} {da:List (Option Addr)} {w:Pow} {ds:aW}
theorem Ib(s:Sl)(q:List (Int×Sl))(P:List (Int×List UInt8))(G:St B h0 As fun h=>nX kS 2 piv h s q P)(hl:P.length<=2^30)(F:∀x∈P,(0<=x.1/\x.1<64)/\x.2.length<=2^20)(H:aa B h0 h (bn bA a pw mc offs da w ds::As)):
  ae xl YE #[.func (.func dh) #[vZ (some a)] #[],vY s.ptr s.len s.cap] h fun v h'=>v=vX xh (layAll P w ds).1/\aa B h0 h' (bn bA a pw mc offs da (layAll P w ds).2.1 (layAll P w ds).2.2::As):=by
 refine VF (dh,#[vZ (some a)],#[]) s ?_;unfold Qc;have W:=(G.at [_] H).1.len;have S:=(G.at [_] H).2.1;have H0:=(H.nil aT 1 aD).bM;refine aw (fun t:Sl×Nat×Pow×aW=>(t.1,(t.2.1:Int))) (fun t h'=>t.2.1<=P.length/\kK P w ds=kK (P.drop t.2.1) t.2.2.1 t.2.2.2/\aa B h0 h' (an aT t.1 1 aD ((P.take t.2.1).map qJ)::bn bA a pw mc offs da t.2.2.1 t.2.2.2::As)) (fun t=>P.length-t.2.1) (⟨none,0,0⟩,0,w,ds) rfl ⟨by simp,rfl,by simpa using H0⟩ ?_;rintro⟨o,i,u,p⟩ h1 ⟨hi,f,I⟩;dsimp only at*;refine ak (fun e=>?_) (fun e=>?_)
 ·have r:i<P.length:=by omega
  rw[qW r,xz]at f;have U:=G.at [_,_] I;have K:=F _ (qg r);refine U.1.dI (g:=piv) i rfl (by omega) (q[i]'(by omega)) rfl ?_;refine I.alloc af rfl fun a4 R D=>?_;have D:=D.bM;refine D.storeAll af 0 rfl rfl (piv (q[i]'(by omega))) rfl rfl rfl rfl fun h3 j=>?_;obtain⟨O,N⟩:=Fix.row (G.at [_,_,_] j) r;have j:aa B h0 h3 (aq a4 dK (piv (q[i]'(by omega)))::an aT o 1 aD ((P.take i).map qJ)::bn bA a pw mc offs da u p::As):=j;have j:=j.bo 3 [2,0,1];obtain⟨ok,Z⟩:=aa.cI j;obtain⟨c,m⟩:∃c,c=fk u p P[i].1 P[i].2:=⟨_,rfl⟩
  rw[<-m]at f;refine co (fun _ h'=>c.1=0/\aa B h0 h' (bn bA a pw mc offs da c.2.1 c.2.2::aq a4 dK (piv (q[i]'(by omega)))::an aT o 1 aD ((P.take i).map qJ)::As)) ?_ ?_
  ·refine co (fun e h'=>e=c.1/\aa B h0 h' (bn bA a pw mc offs da c.2.1 c.2.2::aq a4 dK (piv (q[i]'(by omega)))::an aT o 1 aD ((P.take i).map qJ)::As)) ?_ ?_
   ·refine⟨P[i].1,by rw[<-O];exact(j.box 1 rfl).cell0 rfl,(q[i]'(by omega)).2,(j.box 1 rfl).cell rfl,fa (by rfl) ?_⟩;refine(sO P[i].1 ok Z).mono ?_;rintro _ L ⟨rfl,rfl⟩;refine⟨_,rfl,⟨(j.box 1 rfl).cell rfl,trivial⟩,?_⟩;rcases oE ok P[i].1 with⟨c1,c2⟩|⟨n,d,b,c0,c1,c2,c3,c4,c5⟩
    ·rw[c2];refine(Pf (q[i]'(by omega)).2 P[i].2 L N).mono ?_;rintro _ T ⟨rfl,rfl⟩;have z:c=(if P[i].2.length≠64 then 1 else 5,u,p):=by rw[m];unfold fk;rw[c1]
     refine⟨_,rfl,trivial,by rw[z],?_⟩;rw[z];exact j
    ·rw[c5];obtain⟨b',l,M⟩:=Go.Vc.aa.mW j c2;rw[c4]at l;injection l with l
     injection l with l
     subst l;refine(Wc (q[i]'(by omega)).2 P[i].2 M N K.2).mono ?_;rintro _ h6 ⟨rfl,Q⟩;have V:=Go.Vc.aa.KW (k:=bA) (n:=n) c4 Q;have z:c=((d.append u P[i].2).1,(d.append u P[i].2).2.1,p.set n (some (d.append u P[i].2).2.2)):=by
      rw[m];unfold fk;rw[c3];simp only[lm,c0,qo]
     refine⟨_,rfl,trivial,by rw[z],?_⟩;rw[z];exact V
   ·rintro e4 L ⟨rfl,A⟩;refine ci (fun e2=>?_) fun e2=>⟨e2,A⟩
    rw[if_neg e2]at f;have:layAll P w ds=c:=by unfold layAll;rw[f];exact if_neg e2
    rw[this];exact⟨rfl,A.II.II⟩
  ·rintro _ L ⟨e2,A⟩;rw[if_pos e2]at f;refine⟨P[i].1,by rw[<-O];exact(A.box 1 rfl).cell0 rfl,?_⟩;refine A.push af 2 rfl me rfl (by decide) (fun _=>rfl) jp P[i].1 rfl (by decide) (by simp;omega) fun o' T M=>?_;refine⟨(o',i+1,c.2.1,c.2.2),by dsimp only;rw[Go.Vc.wrap_small _ (by omega) (by omega)];rfl,⟨by dsimp only;omega,f,?_⟩,by dsimp only;omega⟩;dsimp only;rw[aJ _ _ r,qS];exact M.bo 3 [2,0]
 ·have J:i=P.length:=by omega
  subst J;rw[List.drop_length]at f;rw[qR]at I;have D:=(I.freeze 0 rfl fun _=>rfl).bo 2 [1,0];have E:layAll P w ds=kC (fK (P.map qJ)) u p:=by unfold layAll;rw[f];rfl
  refine(YT o (P.map qJ) (St.ij 0 rfl fun h' Y=>Y) (by simp;omega) (fun x hx=>?_) D).mono ?_
  ·obtain⟨y,X,rfl⟩:=qu.1 hx;exact(F y X).1
  ·rintro _ R ⟨rfl,j⟩;refine⟨_,rfl,by rw[E],?_⟩;rw[E];exact j.II
theorem JV(x:cv)(m:aE)(s:Sl)(a:List Int)(h:Heap)(hx:ff h x m)(H:dp m)(V:Rd h s 1 aD a)(Z:a.length<=2^10):
  ae xl Tt #[go x,vY s.ptr s.len s.cap] h fun v h'=>∃(r:Sl) (ys:List (Int×Sl)),v=vY r.ptr r.len r.cap/\Sp h h' [cj kS 2 piv r ys (bx m a)]:=by
 refine QX x s ?_;unfold JE;refine(Sp.refl h).boxed fun a1 X L=>?_;refine⟨x,(L.box 0 rfl).aO _ rfl,(ny x m X (hx.up L.ai) H).mono ?_⟩;rintro _ S ⟨r,rfl,R2⟩;have D:=L.dc R2;refine⟨r,rfl,?_⟩;obtain⟨rs,D⟩:=D.adF fun _=>rfl;have J:=jZ m H;obtain⟨d,F⟩:∃d,d=be m:=⟨_,rfl⟩
 rw[<-F]at D J;have U:=D.dO 0 rfl;have ab:=U.1.len;have Y:=U.2.1;have ad:=V.len;obtain⟨T,G⟩:∃T:Int->List ((Int×Sl)×(Int×List UInt8)),T=fun n=>(rs.zip d).map fun z=>((n,z.1),(n,z.2)):=⟨_,rfl⟩
 have f:∀n,(T n).length=d.length:=fun n=>by rw[G];simp;omega
 have N:∀n,(T n).map zC=d.map fun c=>(n,c):=fun n=>by
  have H:=List.map_snd_zip (l₁:=rs) (l₂:=d) (by omega)
  conv=>rhs;rw[<-H]
  rw[G];simp[wS,Function.comp_def]
 have O:∀n j (Q:j<d.length),(T n)[j]'(by rw[f];exact Q)=((n,rs[j]'(by omega)),(n,d[j])):=fun n j Q=>by subst G;simp
 have w:Sp h S [an dK ⟨none,0,0⟩ 2 piv (((a.take 0).flatMap T).map qJ),cj (ju 1 aB) 1 bQ r rs d]:=(D.nil dK 2 piv).bO [2,0];have E:∀i,i<=a.length->((a.take i).flatMap T).length<=i*3000:=fun i=>by
  induction i with
  |zero=>simp
  |succ i ih=>
   intro R;rw[aJ _ _ (show i<a.length by omega),zc,qw];have X:=ih (by omega);have S:([a[i]].flatMap T).length=d.length:=by rw[zl,wj,qQ,f]
   omega
 refine aw (fun t:Sl×Nat=>(t.1,(t.2:Int))) (fun t h'=>t.2<=a.length/\Sp h h' [an dK t.1 2 piv (((a.take t.2).flatMap T).map qJ),cj (ju 1 aB) 1 bQ r rs d]) (fun t=>a.length-t.2) (⟨none,0,0⟩,0) rfl ⟨by simp,w⟩ ?_;rintro⟨o,i⟩ h3 ⟨R,w⟩;dsimp only at*;refine ak (fun e=>?_) (fun e=>?_)
 ·have y:i<a.length:=by omega
  have ht:=E i R;have hb:i*3000<=2^10*3000:=zr _ (by omega);refine(Seq.up V w.ai).bz i rfl y a[i] rfl ?_;refine aw (fun t:Sl×Nat=>(t.1,(t.2:Int))) (fun t h'=>t.2<=d.length/\Sp h h' [an dK t.1 2 piv (((a.take i).flatMap T).map qJ++((T a[i]).take t.2).map qJ),cj (ju 1 aB) 1 bQ r rs d]) (fun t=>d.length-t.2) (o,0) rfl ⟨by simp,by simpa using w⟩ ?_;rintro⟨u,j⟩ h4 ⟨Q,g⟩;dsimp only at*;refine ak (fun e2=>?_) (fun e2=>?_)
  ·have A:j<d.length:=by omega
   refine(g.dO 1 rfl).1.ox j rfl (by omega) ?_;refine g.push af 0 rfl Uj rfl (by decide) (fun _=>rfl) Pk (a[i],rs[j]'(by omega)) rfl (by decide) (by simp only[qw,qx,qZ,f];omega) fun u' h5 H5=>?_;refine⟨(u',j+1),by dsimp only;rw[Go.Vc.wrap_small _ (by omega) (by omega)];rfl,⟨by dsimp only;omega,?_⟩,by dsimp only;omega⟩;dsimp only;rw[aJ (T a[i]) j (by rw[f];exact A),qS,O _ _ A,<-qp];exact H5
  ·have K:j=d.length:=by omega
   subst K;rw[qi (l:=T a[i]) (by rw[f];exact ql _)]at g;refine⟨(u,i+1),by dsimp only;rw[Go.Vc.wrap_small _ (by omega) (by omega)];rfl,⟨by dsimp only;omega,?_⟩,by dsimp only;omega⟩;dsimp only;rw[aJ _ _ y,zc,qS,zl,wj,qQ];exact g
 ·have M:i=a.length:=by omega
  subst M;rw[qR]at w;refine⟨o,(a.flatMap T).map qJ,rfl,?_⟩;have g:=(w.freeze 0 rfl fun _=>rfl).pA;refine g.gq 0 rfl fun q ⟨q1,q2,_,b,c,z1,z2⟩=>?_;have B:(a.flatMap T).map zC=bx m a:=by
   unfold bx;rw[List.map_flatMap,<-F];congr 1;funext n;exact N n
  rw[<-B];refine⟨z2.mono c,by simp,fun j r' l' p I=>?_⟩;rw[qP]at p I;cases g3:(a.flatMap T)[j]? with
  |none=>rw[g3]at p;cases p
  |some t=>
   rw[g3]at p I;simp at p I;subst p;subst I;obtain⟨n,_,W⟩:=zo.1 (ye g3);rw[G]at W;obtain⟨z,P,rfl⟩:=qu.1 W;obtain⟨k,hk,rfl⟩:=List.mem_iff_getElem.1 P;rw[yS];exact⟨rfl,(z1.2.2 k _ _ (qd _) (qd _)).mono b⟩
end
section
variable {B:aA} {h0 h h':Heap} {As:List HP} {s:Sl} {d:List bv}
theorem YU{d b:List bv}{y:bv}(c:Sd cg (d++b))(g:∀z∈d,cg z y=true)(f:∀z∈b,¬cg z y=true):Sd cg (d++y::b):=
 Sd.app dE c.left (zN.2 ⟨fun z a=>dE.GF (f z a),c.right⟩) fun x e z a=>by
  rcases za.1 a with rfl|a
  ·exact g x e
  ·exact c.IQ x e z a
theorem Dw(X M Y:List bv)(a b:Int)(ha:a=(X.length:Int))(hb:b=(X.length+M.length:Nat))(ad:X.length+M.length+Y.length<=2^40)(H:aa B h0 h (cx s (X++(M++Y))::As)):
  ae xl kV #[vY s.ptr s.len s.cap,vX xh a,vX xh b,.func (.func cZ) #[] #[]] h fun v h'=>v=.tuple #[]/\∃V,Sd cg V/\cl cg M V/\aa B h0 h' (cx s (X++(V++Y))::As):=by
 refine kQ s a b (cZ,#[],#[]) ?_;unfold gG;subst ha;subst hb;rw[Go.Vc.wrap_small ((X.length:Int)+1) (by omega) (by omega)];refine aw (fun t:Nat×List bv=>((X.length+1+t.1:Nat):Int)) (fun t h'=>(t.1+1<=M.length∨t.1=0)/\Sd cg t.2/\cl cg (M.take (t.1+1)) t.2/\t.2.length=(M.take (t.1+1)).length/\aa B h0 h' (cx s (X++(t.2++(M.drop (t.1+1)++Y)))::As)) (fun t=>M.length-t.1) (0,M.take 1) rfl ?_ ?_
 ·refine⟨.inr rfl,?_,cl.refl _,rfl,?_⟩
  ·cases M with
   |nil=>exact List.Pairwise.nil
   |cons x M=>exact zN.2 ⟨fun _ h=>by simp at h,by simp⟩
  ·rw[<-qp (M.take (0+1)),qE];exact H
 rintro⟨t,P⟩ h1 ⟨ht,r,E,W,O⟩;dsimp only at*;refine ak (fun e=>?_) (fun e=>?_)
 ·have L:t+1<M.length:=by omega
  obtain⟨y,hy⟩:∃y,y=M[t+1]:=⟨_,rfl⟩
  have G:P.length=t+1:=by rw[W];simp;omega
  have eD:M.drop (t+1)=y::M.drop (t+1+1):=by rw[qW L,hy]
  rw[eD]at O;refine aw (fun u:List bv×List bv=>((X.length+u.1.length:Nat):Int)) (fun u h'=>u.1++u.2=P/\(∀z∈u.2,¬cg z y=true)/\aa B h0 h' (cx s (X++(u.1++(y::(u.2++(M.drop (t+1+1)++Y)))))::As)) (fun u=>u.1.length) (P,[]) (by dsimp only;rw[G];congr 1;omega) ⟨by simp,by simp,by simpa using O⟩ ?_;rintro⟨c,d⟩ U ⟨I,l,K⟩;dsimp only at*;have ah:c.length+d.length=t+1:=by rw[<-G,<-I,qw]
  have f:∀{h':Heap},(∀z∈c,cg z y=true)->aa B h0 h' (cx s (X++(c++(y::(d++(M.drop (t+1+1)++Y)))))::As)->
    ∃k:Nat×List bv,qc xh (((X.length+1+t:Nat):Int)+1)=((X.length+1+k.1:Nat):Int)/\((k.1+1<=M.length∨k.1=0)/\Sd cg k.2/\cl cg (M.take (k.1+1)) k.2/\k.2.length=(M.take (k.1+1)).length/\aa B h0 h' (cx s (X++(k.2++(M.drop (k.1+1)++Y)))::As))/\M.length-k.1<M.length-t:=fun{h'} hle H'=>by
   refine⟨(t+1,c++y::d),by dsimp only;rw[Go.Vc.wrap_small _ (by omega) (by omega)];omega,⟨.inl (by dsimp only;omega),?_,?_,?_,?_⟩,by dsimp only;omega⟩
   ·exact YU (by rw[I];exact r) hle l
   ·dsimp only;rw[aJ M (t+1) L,<-hy];have h1:cl cg (M.take (t+1)++[y]) (P++[y]):=E.app (cl.refl _);refine h1.trans ?_;rw[<-I,qp];have U:cl cg (d++[y]) ([y]++d):=cl.rot dE fun x hx z N=>by rw[qH.1 N];exact l x hx
    exact(cl.refl _).app U
   ·dsimp only;simp;omega
   ·dsimp only;have:X++((c++y::d)++(M.drop (t+1+1)++Y))=X++(c++(y::(d++(M.drop (t+1+1)++Y)))):=by simp
    rw[this];exact H'
  obtain⟨D,S⟩:∃D,D=X++(c++(y::(d++(M.drop (t+1+1)++Y)))):=⟨_,rfl⟩
  refine co (fun _ h'=>∃(Q:List bv) (z:bv),c=Q++[z]/\¬cg z y=true/\aa B h0 h' (cx s D::As)) ?_ ?_
  ·rw[<-S]at K f;refine ak (fun e2=>?_) (fun e2=>⟨trivial,f (fun z N=>?_) K⟩)
   ·have J:c≠[]:=fun h=>by rw[h]at e2;simp at e2
    obtain⟨Q,z,o⟩:∃(Q:List bv) (z:bv),c=Q++[z]:=⟨c.dropLast,c.getLast J,(List.dropLast_concat_getLast J).symm⟩
    have ab:c.length=Q.length+1:=by rw[o];simp
    have g1:D[X.length+c.length]?=some y:=by
     rw[S,qj (by omega),show X.length+c.length-X.length=c.length by omega,qj (by omega),zj];rfl
    have g2:D[X.length+c.length-1]?=some z:=by
     rw[S,qj (by omega),show X.length+c.length-1-X.length=Q.length by omega,o,qp,qj (ql _),zj];rfl
    obtain⟨T,A⟩:=qm.1 g1;obtain⟨R,q⟩:=qm.1 g2;refine(K.seq 0 rfl fun _=>rfl).dI (g:=bB) _ rfl T y (by rw[A]) ?_;have ej:qc xh (((X.length+c.length:Nat):Int)-1)=((X.length+c.length-1:Nat):Int):=by rw[Go.Vc.wrap_small _ (by omega) (by omega)];omega
    rw[ej];refine(K.seq 0 rfl fun _=>rfl).dI (g:=bB) _ rfl R z (by rw[q]) (fa (by rfl) ?_);refine(rk y z U).mono ?_;rintro _ h3 ⟨rfl,R3⟩;have F:=K.up R3.ai;refine⟨_,rfl,trivial,ak (fun Z=>⟨Q,z,o,(sp y z).1 Z,F⟩) fun Z=>f (fun w m=>?_) F⟩;have n:cg z y=true:=by
     by_cases hc:cg z y=true
     ·exact hc
     ·exact absurd ((sp y z).2 hc) Z
    rw[o]at m;rcases qB.1 m with m|m
    ·refine dE.trans _ _ _ ?_ n;have:Sd cg (Q++[z]):=by rw[<-o];exact Sd.left (v:=d) (by rw[I];exact r)
     exact this.IQ w m z (by simp)
    ·rw[qH.1 m];exact n
   ·have:c=[]:=by
     cases c with
     |nil=>rfl
     |cons x P=>exfalso;simp only[zb]at e2;omega
    rw[this]at N;cases N
  ·rintro _ h3 ⟨Q,z,o,n,F⟩;have ab:c.length=Q.length+1:=by rw[o];simp
   have p:D=(X++Q)++z::([]++y::(d++(M.drop (t+1+1)++Y))):=by rw[S,o];simp
   obtain⟨q1,q2,q3,q4⟩:=Ue (X++Q) [] (d++(M.drop (t+1+1)++Y)) z y (i:=X.length+c.length-1) (j:=X.length+c.length) (by simp;omega) (by simp;omega);rw[<-p]at q1 q2 q3 q4;obtain⟨R,q⟩:=qm.1 q1;obtain⟨T,A⟩:=qm.1 q2;have ej:qc xh (((X.length+c.length:Nat):Int)-1)=((X.length+c.length-1:Nat):Int):=by rw[Go.Vc.wrap_small _ (by omega) (by omega)];omega
   rw[ej];refine(F.seq 0 rfl fun _=>rfl).dI (g:=bB) _ rfl R z (by rw[q]) ?_;refine(F.seq 0 rfl fun _=>rfl).dI (g:=bB) _ rfl T y (by rw[A]) ?_;refine F.set af 0 rfl (fun _=>rfl) rfl (X.length+c.length) rfl T z rfl rfl rfl fun h4 H4=>⟨trivial,?_⟩
   refine H4.set af 0 rfl (fun _=>rfl) rfl (X.length+c.length-1) rfl (by simpa using R) y rfl rfl rfl fun h5 H5=>⟨trivial,?_⟩
   refine⟨(Q,z::d),by dsimp only;congr 1;omega,⟨by dsimp only;rw[<-I,o];simp,?_,?_⟩,by dsimp only;omega⟩
   ·dsimp only;intro w m;rcases za.1 m with rfl|m
    ·exact n
    ·exact l w m
   ·dsimp only;have:X++(Q++(y::(z::d++(M.drop (t+1+1)++Y))))=(X++Q)++y::([]++z::(d++(M.drop (t+1+1)++Y))):=by simp
    rw[this,<-q4];exact H5
 ·refine⟨rfl,P,r,?_,?_⟩
  ·rw[qi (by omega)]at E;exact E
  ·rw[zg (by omega)]at O;simpa using O
end
theorem Jd(x y:Nat)(h:x+y<=2^62):qc xh (qT (qc xk (qc xh ((x:Int)+(y:Int)))) (2^min (1:Int).toNat (qk xk)))=(((x+y)/2:Nat):Int):=by
 rw[Go.Vc.wrap_small ((x:Int)+y) (by omega) (by omega)];have e:qc xk ((x:Int)+(y:Int))=(x:Int)+y:=by
  unfold qc;simp[qk,yO];omega
 rw[e,show min (1:Int).toNat (qk xk)=1 from rfl,y8 _ (by decide),Go.Vc.wrap_small _ (by omega) (by omega)];omega
section
variable {B:aA} {h0 h h':Heap} {As:List HP} {s:Sl} {d:List bv}
theorem Cq{x y:bv}(h:¬lD x y<0):cg y x=true:=by
 by_cases a:cg y x=true
 ·exact a
 ·exact absurd ((sp x y).2 a) h
theorem jR{K:bv->Prop}(H:aa B h0 h (cx s d::As)){i:Int}(n:Nat)(b:i=n){x:bv}(e:d[n]?=some x)(c:K x):
  ∃a:Addr,(s.ptr=some a/\0<=i/\i<((s.len:Nat):Int))/\∃x:bv,aj h (a.add (i.toNat*8)) 0 (bB x)/\K x:=by
 obtain⟨j,f⟩:=qm.1 e;exact(H.seq 0 rfl fun _=>rfl).dI (g:=bB) n b j x (by rw[f]) c
theorem Pn(x:bv)(X R Y:List bv)(ab:X.length+1+R.length+Y.length<=2^40)(r:Sd cg R)(H:aa B h0 h (cx s (X++(x::(R++Y)))::As)){K:Value->Heap->Prop}
  (d:∀h',(∃M,Sd cg M/\cl cg (x::R) M/\aa B h0 h' (cx s (X++(M++Y))::As))->K (.tuple #[]) h') (a m b:Int) (ha:a=(X.length:Int)) (hm:m=(X.length+1:Nat)) (hb:b=(X.length+1+R.length:Nat)):
  aM (σ:=Int×Int) (fun c K1 g=>
   Br (decide (c.1<c.2))
   ((0<=(1:Int))/\
   ∃a2:Addr,(s.ptr=some a2/\0<=(qc xh (qT (qc xk (qc xh (c.1+c.2))) (2^min (1:Int).toNat (qk xk))))/\(qc xh (qT (qc xk (qc xh (c.1+c.2))) (2^min (1:Int).toNat (qk xk))))<((s.len:Nat):Int))/\
   ∃x3:bv,aj g (a2.add ((qc xh (qT (qc xk (qc xh (c.1+c.2))) (2^min (1:Int).toNat (qk xk)))).toNat*8)) 0 (bB x3)/\
   ∃a4:Addr,(s.ptr=some a4/\0<=a/\a<((s.len:Nat):Int))/\
   ∃x5:bv,aj g (a4.add (a.toNat*8)) 0 (bB x5)/\
   iq C cZ ((#[]:Array Value).toList++[recv x3,recv x5]++(#[]:Array Value).toList) (.one (.sc (.int .i64))) g fun r6 n=>
   (ar.ok [] n)/\
   Br (decide (r6<(0:Int)))
   (K1 (qc xh ((qc xh (qT (qc xk (qc xh (c.1+c.2))) (2^min (1:Int).toNat (qk xk))))+(1:Int)),c.2) n)
   (K1 (c.1,qc xh (qT (qc xk (qc xh (c.1+c.2))) (2^min (1:Int).toNat (qk xk)))) n))
   (aM (σ:=Int) (fun f K2 h3=>
   Br (decide (f<(qc xh (c.1-(1:Int)))))
   (∃a8:Addr,(s.ptr=some a8/\0<=(qc xh (f+(1:Int)))/\(qc xh (f+(1:Int)))<((s.len:Nat):Int))/\
   ∃x9:bv,aj h3 (a8.add ((qc xh (f+(1:Int))).toNat*8)) 0 (bB x9)/\
   ∃D:Addr,(s.ptr=some D/\0<=f/\f<((s.len:Nat):Int))/\
   ∃J:bv,aj h3 (D.add (f.toNat*8)) 0 (bB J)/\
   ∃L:Addr,(s.ptr=some L/\0<=f/\f<((s.len:Nat):Int))/\
   ac xl (qf bc (vZ (some (L.add (f.toNat*8)))) (recv x9)) h3 fun _ T=>
   (ar.ok [] T)/\
   ∃I:Addr,(s.ptr=some I/\0<=(qc xh (f+(1:Int)))/\(qc xh (f+(1:Int)))<((s.len:Nat):Int))/\
   ac xl (qf bc (vZ (some (I.add ((qc xh (f+(1:Int))).toNat*8)))) (recv J)) T fun _ Q=>
   (ar.ok [] Q)/\
   K2 (qc xh (f+(1:Int))) Q)
   (K (.tuple #[]) h3)) a g)) (m,b) h:=by
 subst ha;subst hm;subst hb;refine aw (fun t:Nat×Nat=>(((X.length+1+t.1:Nat):Int),((X.length+1+t.2:Nat):Int))) (fun t h'=>t.1<=t.2/\t.2<=R.length/\(∀k (d:k<R.length),k<t.1->¬cg x R[k]=true)/\(∀k (d:k<R.length),t.2<=k->cg x R[k]=true)/\aa B h0 h' (cx s (X++(x::(R++Y)))::As)) (fun t=>t.2-t.1) (0,R.length) rfl ⟨by simp,by simp,fun _ _ h=>by simp at h,fun _ g n=>absurd g (by simpa using n),H⟩ ?_;rintro⟨i,j⟩ g ⟨ah,hj,q,E,N⟩;dsimp only at*;refine ak (fun e=>?_) (fun e=>?_)
 ·have o:i<j:=by omega
  rw[Jd _ _ (by omega)];have eh:((X.length+1+i)+(X.length+1+j))/2=X.length+1+(i+j)/2:=by omega
  rw[eh];have d:(i+j)/2<R.length:=by omega
  refine⟨by decide,jR N _ rfl (x:=R[(i+j)/2]) ?_ (jR N X.length rfl (x:=x) ?_ (fa (by rfl) ?_))⟩
  ·rw[qj (by omega),show X.length+1+(i+j)/2-X.length=(i+j)/2+1 by omega,qy,qn d,qd d]
  ·rw[qj (ql _),zj];rfl
  refine(rk R[(i+j)/2] x g).mono ?_;rintro _ n ⟨rfl,R2⟩;have H2:=N.up R2.ai;refine⟨_,rfl,trivial,ak (fun e2=>?_) (fun e2=>?_)⟩
  ·have W:=(sp _ _).1 e2;refine⟨((i+j)/2+1,j),by dsimp only;rw[Go.Vc.wrap_small _ (by omega) (by omega)];rfl,⟨by dsimp only;omega,hj,fun k G S=>?_,E,H2⟩,by dsimp only;omega⟩;intro hc;exact W (dE.trans _ _ _ hc (r.at_ dE (i:=k) (j:=(i+j)/2) (by dsimp only at S;omega) d))
  ·refine⟨(i,(i+j)/2),rfl,⟨by dsimp only;omega,by dsimp only;omega,q,fun k G Z=>?_,H2⟩,by dsimp only;omega⟩;exact dE.trans _ _ _ (Cq e2) (r.at_ dE (by dsimp only at Z;omega) G)
 ·have o:i=j:=by omega
  subst o;have hM:Sd cg (R.take i++x::R.drop i):=by
   refine Sd.app dE (Sd.left (v:=R.drop i) (by rw[qE];exact r)) (zN.2 ⟨fun z A=>?_,Sd.right (u:=R.take i) (by rw[qE];exact r)⟩) fun z A w y=>?_
   ·obtain⟨k,d,rfl⟩:=qG A;rw[zZ];exact E _ _ (by omega)
   ·obtain⟨k,d,rfl⟩:=qG A;rw[w5];have P:k<i:=by simp at d;omega
    have g:=dE.GF (q k (by simp at d;omega) P);rcases za.1 y with rfl|y
    ·exact g
    ·obtain⟨l,hl,rfl⟩:=qG y;rw[zZ];exact r.at_ dE (by omega) (by simp at hl;omega)
  have hE:cl cg (x::R) (R.take i++x::R.drop i):=by
   have g:cl cg ([x]++R.take i) (R.take i++[x]):=cl.rot dE fun z A w y=>by
    rw[qH.1 A];obtain⟨k,d,rfl⟩:=qG y;rw[w5];exact q k (by simp at d;omega) (by simp at d;omega)
   have n:=g.app (cl.refl (le:=cg) (R.drop i));have e1:([x]++R.take i)++R.drop i=x::R:=by rw[qp,qE];rfl
   have e2:(R.take i++[x])++R.drop i=R.take i++x::R.drop i:=by simp
   rw[e1,e2]at n;exact n
  have el:qc xh (((X.length+1+i:Nat):Int)-1)=((X.length+i:Nat):Int):=by rw[Go.Vc.wrap_small _ (by omega) (by omega)];omega
  rw[el];refine aw (fun t:Nat=>((X.length+t:Nat):Int)) (fun t h'=>t<=i/\aa B h0 h' (cx s (X++(R.take t++(x::(R.drop t++Y))))::As)) (fun t=>i-t) 0 rfl ⟨by omega,by simpa using N⟩ ?_;rintro t h3 ⟨ht,O⟩;refine ak (fun e2=>?_) (fun e2=>?_)
  ·have ad:t<i:=by omega
   have F:t<R.length:=by omega
   have p:X++(R.take t++(x::(R.drop t++Y)))=(X++R.take t)++x::([]++R[t]::(R.drop (t+1)++Y)):=by rw[qW F];simp only[qp,zx,zW]
   obtain⟨U,V,q3,q4⟩:=Ue (X++R.take t) [] (R.drop (t+1)++Y) x R[t] (i:=X.length+t) (j:=X.length+t+1) (by simp;omega) (by simp;omega);rw[<-p]at U V q3 q4;have ek:qc xh (((X.length+t:Nat):Int)+1)=((X.length+t+1:Nat):Int):=by rw[Go.Vc.wrap_small _ (by omega) (by omega)];omega
   rw[ek];refine jR O _ rfl V (jR O _ rfl U ?_);refine O.set af 0 rfl (fun _=>rfl) rfl (X.length+t) rfl (qm.1 U).1 R[t] rfl rfl rfl fun T H4=>⟨trivial,?_⟩
   refine H4.set af 0 rfl (fun _=>rfl) rfl (X.length+t+1) rfl (by rw[zH];exact(qm.1 V).1) x rfl rfl rfl fun Q H5=>⟨trivial,?_⟩
   refine⟨t+1,rfl,⟨by omega,?_⟩,by omega⟩;have e3:X++(R.take (t+1)++(x::(R.drop (t+1)++Y)))=(X++R.take t)++R[t]::([]++x::(R.drop (t+1)++Y)):=by rw[aJ R t F];simp only[qp,zx,zW]
   rw[e3,<-q3];exact H5
  ·have:t=i:=by omega
   subst this;refine d h3 ⟨R.take t++x::R.drop t,hM,hE,?_⟩;have:X++((R.take t++x::R.drop t)++Y)=X++(R.take t++(x::(R.drop t++Y))):=by simp
   rw[this];exact O
end
section
variable {B:aA} {h0 h h':Heap} {As:List HP} {s:Sl} {d:List bv}
theorem Nb(y:bv)(X L Y:List bv)(ap:X.length+L.length+1+Y.length<=2^40)(U:Sd cg L)(H:aa B h0 h (cx s (X++(L++(y::Y)))::As)){K:Value->Heap->Prop}
  (d:∀h',(∃M,Sd cg M/\cl cg (L++[y]) M/\aa B h0 h' (cx s (X++(M++Y))::As))->K (.tuple #[]) h') (a m:Int) (ha:a=(X.length:Int)) (hm:m=(X.length+L.length:Nat)):
  aM (σ:=Int×Int) (fun b K3 Z=>
   Br (decide (b.1<b.2))
   ((0<=(1:Int))/\
   ∃N:Addr,(s.ptr=some N/\0<=m/\m<((s.len:Nat):Int))/\
   ∃q:bv,aj Z (N.add (m.toNat*8)) 0 (bB q)/\
   ∃p:Addr,(s.ptr=some p/\0<=(qc xh (qT (qc xk (qc xh (b.1+b.2))) (2^min (1:Int).toNat (qk xk))))/\(qc xh (qT (qc xk (qc xh (b.1+b.2))) (2^min (1:Int).toNat (qk xk))))<((s.len:Nat):Int))/\
   ∃J:bv,aj Z (p.add ((qc xh (qT (qc xk (qc xh (b.1+b.2))) (2^min (1:Int).toNat (qk xk)))).toNat*8)) 0 (bB J)/\
   iq C cZ ((#[]:Array Value).toList++[recv q,recv J]++(#[]:Array Value).toList) (.one (.sc (.int .i64))) Z fun ad h7=>
   (ar.ok [] h7)/\
   Br (!(decide (ad<(0:Int))))
   (K3 (qc xh ((qc xh (qT (qc xk (qc xh (b.1+b.2))) (2^min (1:Int).toNat (qk xk))))+(1:Int)),b.2) h7)
   (K3 (b.1,qc xh (qT (qc xk (qc xh (b.1+b.2))) (2^min (1:Int).toNat (qk xk)))) h7))
   (aM (σ:=Int) (fun c K4 h8=>
   Br (decide (c>b.1))
   (∃A:Addr,(s.ptr=some A/\0<=(qc xh (c-(1:Int)))/\(qc xh (c-(1:Int)))<((s.len:Nat):Int))/\
   ∃Q:bv,aj h8 (A.add ((qc xh (c-(1:Int))).toNat*8)) 0 (bB Q)/\
   ∃G:Addr,(s.ptr=some G/\0<=c/\c<((s.len:Nat):Int))/\
   ∃O:bv,aj h8 (G.add (c.toNat*8)) 0 (bB O)/\
   ∃a25:Addr,(s.ptr=some a25/\0<=c/\c<((s.len:Nat):Int))/\
   ac xl (qf bc (vZ (some (a25.add (c.toNat*8)))) (recv Q)) h8 fun _ h9=>
   (ar.ok [] h9)/\
   ∃S:Addr,(s.ptr=some S/\0<=(qc xh (c-(1:Int)))/\(qc xh (c-(1:Int)))<((s.len:Nat):Int))/\
   ac xl (qf bc (vZ (some (S.add ((qc xh (c-(1:Int))).toNat*8)))) (recv O)) h9 fun _ I=>
   (ar.ok [] I)/\
   K4 (qc xh (c-(1:Int))) I)
   (K (.tuple #[]) h8)) m Z)) (a,m) h:=by
 subst ha;subst hm;refine aw (fun t:Nat×Nat=>(((X.length+t.1:Nat):Int),((X.length+t.2:Nat):Int))) (fun t h'=>t.1<=t.2/\t.2<=L.length/\(∀k (d:k<L.length),k<t.1->cg L[k] y=true)/\(∀k (d:k<L.length),t.2<=k->¬cg L[k] y=true)/\aa B h0 h' (cx s (X++(L++(y::Y)))::As)) (fun t=>t.2-t.1) (0,L.length) rfl ⟨by simp,by simp,fun _ _ h=>by simp at h,fun _ o r=>absurd o (by simpa using r),H⟩ ?_;rintro⟨i,j⟩ o ⟨ax,hj,R,n,V⟩;dsimp only at*;refine ak (fun e=>?_) (fun e=>?_)
 ·have f:i<j:=by omega
  rw[Jd _ _ (by omega)];have eh:((X.length+i)+(X.length+j))/2=X.length+(i+j)/2:=by omega
  rw[eh];have d:(i+j)/2<L.length:=by omega
  refine⟨by decide,jR V (X.length+L.length) rfl (x:=y) ?_ (jR V _ rfl (x:=L[(i+j)/2]) ?_ (fa (by rfl) ?_))⟩
  ·rw[qj (by omega),show X.length+L.length-X.length=L.length by omega,qj (ql _),zj];rfl
  ·rw[qj (by omega),show X.length+(i+j)/2-X.length=(i+j)/2 by omega,qn d,qd d]
  refine(rk y L[(i+j)/2] o).mono ?_;rintro _ r ⟨rfl,R2⟩;have H2:=V.up R2.ai;refine⟨_,rfl,trivial,?_⟩;by_cases e2:lD y L[(i+j)/2]<0
  ·have am:=(sp _ _).1 e2;refine bi (fun F=>absurd F (by simpa using e2)) fun _=>?_;refine⟨(i,(i+j)/2),rfl,⟨by dsimp only;omega,by dsimp only;omega,R,fun k P ao=>?_,H2⟩,by dsimp only;omega⟩;intro hc;exact am (dE.trans _ _ _ (U.at_ dE (i:=(i+j)/2) (j:=k) (by dsimp only at ao;omega) P) hc)
  ·refine bi (fun _=>?_) fun F=>absurd F (by simpa using e2);refine⟨((i+j)/2+1,j),by dsimp only;rw[Go.Vc.wrap_small _ (by omega) (by omega)];rfl,⟨by dsimp only;omega,hj,fun k P ah=>?_,n,H2⟩,by dsimp only;omega⟩;exact dE.trans _ _ _ (U.at_ dE (by dsimp only at ah;omega) d) (Cq e2)
 ·have f:i=j:=by omega
  subst f;have hM:Sd cg (L.take i++y::L.drop i):=by
   refine Sd.app dE (Sd.left (v:=L.drop i) (by rw[qE];exact U)) (zN.2 ⟨fun z E=>?_,Sd.right (u:=L.take i) (by rw[qE];exact U)⟩) fun z E w D=>?_
   ·obtain⟨k,d,rfl⟩:=qG E;rw[zZ];exact dE.GF (n _ (by simp at d;omega) (by omega))
   ·obtain⟨k,d,rfl⟩:=qG E;rw[w5];have ab:k<i:=by simp at d;omega
    have o:=R k (by simp at d;omega) ab;rcases za.1 D with rfl|D
    ·exact o
    ·obtain⟨l,hl,rfl⟩:=qG D;rw[zZ];exact U.at_ dE (by omega) (by simp at hl;omega)
  have hE:cl cg (L++[y]) (L.take i++y::L.drop i):=by
   have o:cl cg (L.drop i++[y]) ([y]++L.drop i):=cl.rot dE fun z E w D=>by
    rw[qH.1 D];obtain⟨k,d,rfl⟩:=qG E;rw[zZ];exact n _ (by simp at d;omega) (by omega)
   have r:=(cl.refl (le:=cg) (L.take i)).app o;have e1:L.take i++(L.drop i++[y])=L++[y]:=by rw[<-qp,qE]
   rw[e1]at r;exact r
  refine aw (fun t:Nat=>((X.length+t:Nat):Int)) (fun t h'=>i<=t/\t<=L.length/\aa B h0 h' (cx s (X++(L.take t++(y::(L.drop t++Y))))::As)) (fun t=>t-i) L.length rfl ⟨by omega,by omega,by simpa using V⟩ ?_;rintro t h3 ⟨ht,ay,W⟩;refine ak (fun e2=>?_) (fun e2=>?_)
  ·obtain⟨u,rfl⟩:∃u,t=u+1:=⟨t-1,by omega⟩
   have T:u<L.length:=by omega
   have g:X++(L.take (u+1)++(y::(L.drop (u+1)++Y)))=(X++L.take u)++L[u]::([]++y::(L.drop (u+1)++Y)):=by rw[aJ L u T];simp only[qp,zx,zW]
   obtain⟨q1,q2,q3,q4⟩:=Ue (X++L.take u) [] (L.drop (u+1)++Y) L[u] y (i:=X.length+u) (j:=X.length+(u+1)) (by simp;omega) (by simp;omega);rw[<-g]at q1 q2 q3 q4;have ek:qc xh (((X.length+(u+1):Nat):Int)-1)=((X.length+u:Nat):Int):=by rw[Go.Vc.wrap_small _ (by omega) (by omega)];omega
   rw[ek];refine jR W _ rfl q1 (jR W _ rfl q2 ?_);refine W.set af 0 rfl (fun _=>rfl) rfl (X.length+(u+1)) rfl (qm.1 q2).1 L[u] rfl rfl rfl fun h4 H4=>⟨trivial,?_⟩
   refine H4.set af 0 rfl (fun _=>rfl) rfl (X.length+u) rfl (by rw[zH];exact(qm.1 q1).1) y rfl rfl rfl fun h5 H5=>⟨trivial,?_⟩
   refine⟨u,rfl,⟨by omega,by omega,?_⟩,by omega⟩;have F:X++(L.take u++(y::(L.drop u++Y)))=(X++L.take u)++y::([]++L[u]::(L.drop (u+1)++Y)):=by rw[qW T];simp only[qp,zx,zW]
   rw[F,<-q4];exact H5
  ·have:t=i:=by omega
   subst this;refine d h3 ⟨L.take t++y::L.drop t,hM,hE,?_⟩;have:X++((L.take t++y::L.drop t)++Y)=X++(L.take t++(y::(L.drop t++Y))):=by simp
   rw[this];exact W
end
end Go.Proofs.YtdhamoojccmbdaaGreatDoor
namespace Wl
open Go Go.Vc
theorem abn{L R:List bv}(l:Sd cg L)(k:Sd cg R)(p q:Nat)(s:p<=L.length)(r:q<=R.length)
  (n:∀i j (a:i<L.length) (d:j<R.length),i+1=p->j=q->cg L[i] R[j]=true)
  (o:∀i j (a:i<L.length) (d:j<R.length),i=p->j+1=q->¬cg L[i] R[j]=true):
  (∀x∈L.take p,∀y∈R.drop q,cg x y=true)/\(∀x∈L.drop p,∀y∈R.take q,¬cg x y=true):=by
 constructor
 ·intro x g y f;obtain⟨i,a,rfl⟩:=qG g;obtain⟨j,d,rfl⟩:=qG f;rw[w5,zZ];have b:i<p:=by simp at a;omega
  have c:q+j<R.length:=by simp at d;omega
  have e:=l.at_ dE (i:=i) (j:=p-1) (by omega) (by omega);have m:=n (p-1) q (by omega) (by omega) (by omega) rfl;have h3:=k.at_ dE (i:=q) (j:=q+j) (by omega) c;exact dE.trans _ _ _ e (dE.trans _ _ _ m h3)
 ·intro x g y f h;obtain⟨i,a,rfl⟩:=qG g;obtain⟨j,d,rfl⟩:=qG f;rw[w5,zZ]at h;have c:j<q:=by simp at d;omega
  have b:p+i<L.length:=by simp at a;omega
  have e:=l.at_ dE (i:=p) (j:=p+i) (by omega) b;have h3:=k.at_ dE (i:=j) (j:=q-1) (by omega) (by omega);exact o p (q-1) (by omega) (by omega) rfl (by omega) (dE.trans _ _ _ e (dE.trans _ _ _ h h3))
end Wl
namespace Go.Proofs.YtdhamoojccmbdaaGreatDoor
open Go Go.Vc Go.Proofs Wl
theorem FH:∀(N:Nat) {B:aA} {h0 h:Heap} {As:List HP} {s:Sl} (X L R Y:List bv) (a m b:Int),0<L.length->0<R.length->L.length+R.length<=N->a=(X.length:Int)->m=(X.length+L.length:Nat)->b=(X.length+L.length+R.length:Nat)->X.length+L.length+R.length+Y.length<=2^40->Sd cg L->Sd cg R->
  aa B h0 h (cx s (X++(L++(R++Y)))::As)->
  ae xl mT #[vY s.ptr s.len s.cap,vX xh a,vX xh m,vX xh b,.func (.func cZ) #[] #[]] h fun v h'=>v=.tuple #[]/\∃M,Sd cg M/\cl cg (L++R) M/\aa B h0 h' (cx s (X++(M++Y))::As):=by
 intro N
 induction N with
 |zero=>intro B h0 h As s X L R Y a m b hL hR hN;omega
 |succ N ih=>
  intro B h0 h As s X L R Y a m b hL hR hN ha hm hb V S sR H;refine mA s a m b (cZ,#[],#[]) ?_;unfold iE;have e1:qc xh (m-a)=(L.length:Int):=by rw[Go.Vc.wrap_small _ (by omega) (by omega)];omega
  have e2:qc xh (b-m)=(R.length:Int):=by rw[Go.Vc.wrap_small _ (by omega) (by omega)];omega
  rw[e1,e2];refine cw (fun c=>?_) fun c=>cw (fun c2=>?_) fun c2=>?_
  ·obtain⟨x,hx⟩:∃x,L=[x]:=by
    match L,hL,c with
    |[x],_,_=>exact⟨x,rfl⟩
    |x::y::L,_,c=>simp at c;omega
   subst hx;exact Pn (K:=fun v h'=>v=.tuple #[]/\∃M,Sd cg M/\cl cg ([x]++R) M/\aa B h0 h' (cx s (X++(M++Y))::As)) x X R Y (by simp at V⊢;omega) sR H (fun h' ⟨M,Z,P,Q⟩=>⟨rfl,M,Z,P,Q⟩) a m b ha (by rw[hm];simp) (by rw[hb];simp)
  ·obtain⟨y,hy⟩:∃y,R=[y]:=by
    match R,hR,c2 with
    |[x],_,_=>exact⟨x,rfl⟩
    |x::y::L,_,c=>simp at c;omega
   subst hy;exact Nb (K:=fun v h'=>v=.tuple #[]/\∃M,Sd cg M/\cl cg (L++[y]) M/\aa B h0 h' (cx s (X++(M++Y))::As)) y X L Y (by simp at V⊢;omega) S H (fun h' ⟨M,Z,P,Q⟩=>⟨rfl,M,Z,P,Q⟩) a m ha hm
  ·refine⟨by decide,?_⟩;subst ha;subst hm;subst hb;have c':L.length≠1:=fun E=>c (by omega);have bq:R.length≠1:=fun E=>c2 (by omega);rw[Jd X.length (X.length+L.length+R.length) (by omega)];obtain⟨EY,ah⟩:∃EY,EY=(X.length+(X.length+L.length+R.length))/2:=⟨_,rfl⟩
   rw[<-ah];have en:qc xh ((EY:Int)+((X.length+L.length:Nat):Int))=((EY+(X.length+L.length):Nat):Int):=by rw[Go.Vc.wrap_small _ (by omega) (by omega)];omega
   rw[en];obtain⟨n,hn⟩:∃n,n=EY+(X.length+L.length):=⟨_,rfl⟩
   rw[<-hn];have ep:qc xh ((n:Int)-1)=((n-1:Nat):Int):=by rw[Go.Vc.wrap_small _ (by omega) (by omega)];omega
   rw[ep];obtain⟨D,hD⟩:∃D,D=X++(L++(R++Y)):=⟨_,rfl⟩
   have gL:∀i (f:i<L.length),D[X.length+i]?=some L[i]:=fun i f=>by
    rw[hD,qj (by omega),zn,qn f,qd f]
   have gR:∀i (f:i<R.length),D[X.length+L.length+i]?=some R[i]:=fun i f=>by
    rw[hD,qj (by omega),show X.length+L.length+i-X.length=L.length+i by omega,qj (by omega),zn,qn f,qd f]
   rw[<-hD]at H;refine co (fun(k:Int×Int) h'=>h'=h/\∃o f:Nat,k=((o:Int),(f:Int))/\o<=f/\X.length<=o/\f<=X.length+L.length/\f<=EY/\n<=o+(X.length+L.length+R.length)/\(o=X.length∨n=o+(X.length+L.length+R.length))/\(f=X.length+L.length∨f=EY)) ?_ ?_
   ·refine ak (fun e=>⟨rfl,n-(X.length+L.length+R.length),EY,?_,by omega,by omega,by omega,by omega,by omega,by omega,by omega⟩) fun e=>⟨rfl,X.length,X.length+L.length,rfl,by omega,by omega,by omega,by omega,by omega,by omega,by omega⟩
    have:qc xh ((n:Int)-((X.length+L.length+R.length:Nat):Int))=((n-(X.length+L.length+R.length):Nat):Int):=by rw[Go.Vc.wrap_small _ (by omega) (by omega)];omega
    rw[this]
   ·rintro⟨br,b0⟩ _ ⟨rfl,o,f,a5,b1,b2,b3,b4,b5,b6,b7⟩;injection a5 with est1 est2
    subst est1;subst est2;dsimp only;refine aw (fun t:Nat×Nat=>((t.1:Int),(t.2:Int))) (fun t h'=>o<=t.1/\t.1<=t.2/\t.2<=f/\
     (∀i j (l:i<L.length) (hj:j<R.length),X.length+i+1=t.1->X.length+i+(X.length+L.length+j)=n-1->o<t.1->cg L[i] R[j]=true)/\
     (∀i j (l:i<L.length) (hj:j<R.length),X.length+i=t.2->X.length+i+(X.length+L.length+j)=n-1->t.2<f->¬cg L[i] R[j]=true)/\
     aa B h0 h' (cx s D::As)) (fun t=>t.2-t.1) (o,f) rfl ⟨by simp,by simpa using b1,by simp,fun _ _ _ _ _ _ A=>absurd A (by simp),fun _ _ _ _ _ _ A=>absurd A (by simp),H⟩ ?_
    rintro⟨k,r⟩ h1 ⟨t1,t2,t3,F1,F2,H1⟩;dsimp only at*;refine ak (fun e=>?_) (fun e=>?_)
    ·have A:k<r:=by omega
     rw[Jd _ _ (by omega)];obtain⟨I,a7⟩:∃I,I=(k+r)/2:=⟨_,rfl⟩
     rw[<-a7];have a4:qc xh (((n-1:Nat):Int)-(I:Int))=((n-1-I:Nat):Int):=by rw[Go.Vc.wrap_small _ (by omega) (by omega)];omega
     rw[a4];obtain⟨i,l⟩:∃i,I=X.length+i:=⟨I-X.length,by omega⟩
     obtain⟨j,ay⟩:∃j,n-1-I=X.length+L.length+j:=⟨n-1-I-(X.length+L.length),by omega⟩
     have a6:i<L.length:=by omega
     have a1:j<R.length:=by omega
     rw[ay,l];refine⟨by decide,jR H1 _ rfl (gR j a1) (jR H1 _ rfl (gL i a6) (fa (by rfl) ?_))⟩;refine(rk R[j] L[i] h1).mono ?_;rintro _ h2 ⟨rfl,R2⟩;have G:=H1.up R2.ai;refine⟨_,rfl,trivial,?_⟩;by_cases e2:lD R[j] L[i]<0
     ·have bl:=(sp _ _).1 e2;refine bi (fun e3=>absurd e3 (by simpa using e2)) fun _=>?_;refine⟨(k,X.length+i),rfl,⟨t1,by dsimp only;omega,by dsimp only;omega,F1,fun i2 j2 a9 a8 w F _=>?_,G⟩,by dsimp only;omega⟩;dsimp only at w;have:i2=i:=by omega
      subst this;have:j2=j:=by omega
      subst this;exact bl
     ·refine bi (fun _=>?_) fun e3=>absurd e3 (by simpa using e2);refine⟨(X.length+i+1,r),by dsimp only;rw[Go.Vc.wrap_small _ (by omega) (by omega)];rfl,⟨by dsimp only;omega,by dsimp only;omega,t3,fun i2 j2 a9 a8 w F _=>?_,F2,G⟩,by dsimp only;omega⟩;dsimp only at w;have:i2=i:=by omega
      subst this;have:j2=j:=by omega
      subst this;exact Cq e2
    ·have a2:k=r:=by omega
     subst a2;have bd:qc xh ((n:Int)-(k:Int))=((n-k:Nat):Int):=by rw[Go.Vc.wrap_small _ (by omega) (by omega)];omega
     rw[bd];obtain⟨p,hp⟩:∃p,k=X.length+p:=⟨k-X.length,by omega⟩
     obtain⟨q,hq⟩:∃q,n-k=X.length+L.length+q:=⟨n-k-(X.length+L.length),by omega⟩
     have a0:p<=L.length:=by omega
     have ax:q<=R.length:=by omega
     obtain⟨bb,ao⟩:=abn S sR p q a0 ax (fun i j l hj w F=>F1 i j l hj (by omega) (by omega) (by
      by_cases bk:o<k
      ·exact bk
      ·exfalso;have:k=o:=by omega
       omega)) (fun i j l hj w F=>F2 i j l hj (by omega) (by omega) (by
      by_cases a3:k<f
      ·exact a3
      ·exfalso;have:k=f:=by omega
       omega))
     have U:L.take p++L.drop p=L:=qE _ _;have T:R.take q++R.drop q=R:=qE _ _;have l1:(L.take p).length=p:=by simp;omega
     have l2:(L.drop p).length=L.length-p:=by simp
     have r1:(R.take q).length=q:=by simp;omega
     have r2:(R.drop q).length=R.length-q:=by simp
     have ad:Sd cg (L.take p):=Sd.left (v:=L.drop p) (by rw[U];exact S);have ab:Sd cg (L.drop p):=Sd.right (u:=L.take p) (by rw[U];exact S);have W:Sd cg (R.take q):=Sd.left (v:=R.drop q) (by rw[T];exact sR);have am:Sd cg (R.drop q):=Sd.right (u:=R.take q) (by rw[T];exact sR);rw[hq,hp];refine co (fun _ h'=>aa B h0 h' (cx s (X++(L.take p++(R.take q++(L.drop p++(R.drop q++Y)))))::As)) ?_ ?_
     ·have z:aa B h0 h1 (cx s ((X++L.take p)++(L.drop p++(R.take q++(R.drop q++Y))))::As):=by
       have:(X++L.take p)++(L.drop p++(R.take q++(R.drop q++Y)))=D:=by
        rw[hD]
        conv=>rhs;rw[<-U,<-T]
        simp only[qp,zx,zW]
       rw[this];exact H1
      refine ak (fun w=>ak (fun F=>?_) fun F=>?_) fun w=>?_
      ·refine(Wg (X++L.take p) (L.drop p) (R.take q) (R.drop q++Y) _ _ _ (by omega) (by omega) (by simp;omega) (by simp;omega) (by simp;omega) (by simp;omega) z).mono ?_;rintro _ h2 ⟨rfl,G⟩;refine⟨(),rfl,?_⟩;rw[qp]at G;exact G
      ·have:R.take q=[]:=qX (by omega);rw[this]at z⊢;simpa using z
      ·have:L.drop p=[]:=qX (by omega);rw[this]at z⊢;simpa using z
     ·rintro _ h2 G;refine co (fun _ h'=>∃g,Sd cg g/\cl cg (L.take p++R.take q) g/\g.length=p+q/\aa B h0 h' (cx s (X++(g++(L.drop p++(R.drop q++Y))))::As)) ?_ ?_
      ·have d:(L.take p=[]∨R.take q=[])->∃g,Sd cg g/\cl cg (L.take p++R.take q) g/\g.length=p+q/\aa B h0 h2 (cx s (X++(g++(L.drop p++(R.drop q++Y))))::As):=fun O=>by
        refine⟨L.take p++R.take q,?_,cl.refl _,by simp;omega,by rw[qp];exact G⟩;rcases O with E|E
        ·rw[E];exact W
        ·rw[E,qQ];exact ad
       refine ak (fun w=>ak (fun F=>?_) fun F=>d (.inr (qX (by omega)))) fun w=>d (.inl (qX (by omega)));refine(ih X (L.take p) (R.take q) (L.drop p++(R.drop q++Y)) _ _ _ (by omega) (by omega) (by omega) rfl (by rw[l1]) (by rw[l1,r1];omega) (by simp;omega) ad W G).mono ?_;rintro _ h3 ⟨rfl,g,Z,P,Q⟩;refine⟨(),rfl,g,Z,P,?_,Q⟩;have J:=ws dE P;rw[<-J];simp;omega
      ·rintro _ h3 ⟨g,m1,m2,m3,H3⟩;have fin:∀{h':Heap} {M2:List bv},Sd cg M2->cl cg (L.drop p++R.drop q) M2->aa B h0 h' (cx s (X++(g++(M2++Y)))::As)->(Value.tuple #[]=.tuple #[]/\∃M,Sd cg M/\cl cg (L++R) M/\aa B h0 h' (cx s (X++(M++Y))::As)):=fun{h' M2} k1 k2 k3=>by
        obtain⟨f1,f2⟩:=aaw dE (by rw[U];exact S) (by rw[T];exact sR) bb ao m2 m1 k2 k1;rw[U,T]at f2;exact⟨rfl,g++M2,f1,f2,by rw[qp];exact k3⟩
       have d:(L.drop p=[]∨R.drop q=[])->(Value.tuple #[]=.tuple #[]/\∃M,Sd cg M/\cl cg (L++R) M/\aa B h0 h3 (cx s (X++(M++Y))::As)):=fun O=>by
        refine fin (M2:=L.drop p++R.drop q) ?_ (cl.refl _) (by rw[qp];exact H3);rcases O with E|E
        ·rw[E];exact am
        ·rw[E,qQ];exact ab
       refine ak (fun w=>ak (fun F=>?_) fun F=>d (.inr (qX (by omega)))) fun w=>d (.inl (qX (by omega)));have ap:aa B h0 h3 (cx s ((X++g)++(L.drop p++(R.drop q++Y)))::As):=by rw[qp];exact H3
       refine(ih (X++g) (L.drop p) (R.drop q) Y _ _ _ (by omega) (by omega) (by omega) (by simp;omega) (by simp;omega) (by simp;omega) (by simp;omega) ab am ap).mono ?_;rintro _ h4 ⟨rfl,M2,k1,k2,k3⟩;refine⟨(),rfl,fin k1 k2 (by rw[qp]at k3;exact k3)⟩
end Go.Proofs.YtdhamoojccmbdaaGreatDoor
namespace Wl
open Go Go.Vc
def Bs(k:Nat)(l:List bv):Prop:=∀q,Sd cg ((l.drop (q*k)).take k)
theorem Bs.nil(k:Nat):Bs k []:=fun q=>by simp[Sd]
theorem Bs.first{k:Nat}{l:List bv}(h:Bs k l):Sd cg (l.take k):=by have:=h 0;simpa using this
theorem Bs.rest{k:Nat}{l:List bv}(h:Bs k l):Bs k (l.drop k):=fun q=>by
 have:=h (q+1);rw[zy,show k+q*k=(q+1)*k by rw[zJ,Nat.add_comm]];exact this
theorem Bs.snoc{k t:Nat}{l M:List bv}(h:Bs k l)(d:l.length=t*k)(c:Sd cg M)(b:M.length<=k):Bs k (l++M):=fun q=>by
 rcases yg q t with hq|hq|hq
 ·have a:(q+1)*k<=t*k:=zr _ hq;rw[zJ]at a;rw[List.drop_append_of_le_length (by omega),yd (by rw[q7];omega)];exact h q
 ·subst hq;rw[<-d,List.drop_left,qi b];exact c
 ·have a:(t+1)*k<=q*k:=zr _ hq;rw[zJ]at a;rw[zg (by rw[qw];omega)];simp[Sd]
theorem Bs.whole{k:Nat}{l:List bv}(h:Bs k l)(a:l.length<=k):Sd cg l:=by
 have:=h.first;rw[qi a]at this;exact this
end Wl
namespace Go.Proofs.YtdhamoojccmbdaaGreatDoor
open Go Go.Vc Go.Proofs Wl
section
variable {B:aA} {h0 h h':Heap} {As:List HP} {s:Sl} {d:List bv}
theorem Wh(d:List bv)(n:Int)(hn:n=d.length)(hd:d.length<=2^30)(H:aa B h0 h (cx s d::As)):
  ae xl nP #[vY s.ptr s.len s.cap,vX xh n,.func (.func cZ) #[] #[]] h fun v h'=>v=.tuple #[]/\aa B h0 h' (cx s (d.mergeSort cg)::As):=by
 subst hn;refine nv s d.length (cZ,#[],#[]) ?_;unfold jk;refine aw (fun P:List bv=>((P.length:Int),((P.length+20:Nat):Int))) (fun P h'=>P.length<=d.length/\(∃t,P.length=t*20)/\Bs 20 P/\cl cg (d.take P.length) P/\aa B h0 h' (cx s (P++d.drop P.length)::As)) (fun P=>d.length-P.length) [] rfl ⟨by simp,⟨0,by simp⟩,Bs.nil _,by simpa using cl.refl _,by simpa using H⟩ ?_;rintro P h1 ⟨hP,⟨t,L⟩,X,W,F⟩;dsimp only;refine ak (fun e=>?_) (fun e=>?_)
 ·have am:P.length+20<=d.length:=by omega
  have eY:(d.drop P.length).take 20++d.drop (P.length+20)=d.drop P.length:=by
   rw[<-zy];exact qE _ _
  have V:((d.drop P.length).take 20).length=20:=by simp;omega
  rw[<-eY]at F;refine(Dw P ((d.drop P.length).take 20) (d.drop (P.length+20)) _ _ rfl (by rw[V]) (by simp;omega) F).mono ?_;rintro _ h2 ⟨rfl,i,o,b,H2⟩;have z:i.length=20:=by rw[<-ws dE b,V]
  have g:(P++i).length=P.length+20:=by rw[qw,z]
  refine⟨(),rfl,P++i,?_,⟨by omega,⟨t+1,by rw[g,L,zJ]⟩,X.snoc L o (by omega),?_,?_⟩,by omega⟩
  ·rw[g,Go.Vc.wrap_small _ (by omega) (by omega)];congr 1
  ·rw[g];have:d.take (P.length+20)=d.take P.length++(d.drop P.length).take 20:=by rw[List.take_add]
   rw[this];exact W.app b
  ·rw[g,qp];exact H2
 ·have O:aa B h0 h1 (cx s (P++(d.drop P.length++[]))::As):=by rw[qQ];exact F
  refine(Dw P (d.drop P.length) [] _ _ rfl (by rw[q7];omega) (by simp;omega) O).mono ?_;rintro _ h3 ⟨rfl,i,o,b,U⟩;have z:i.length=d.length-P.length:=by rw[<-ws dE b,q7]
  have G:Bs 20 (P++i):=X.snoc L o (by omega);have c:cl cg d (P++i):=by
   have:=W.app b;rw[qE]at this;exact this
  refine⟨(),rfl,?_⟩;refine aw (fun t:Nat×List bv=>(t.1:Int)) (fun t h'=>0<t.1/\t.1<=2^32/\t.2.length=d.length/\Bs t.1 t.2/\cl cg d t.2/\aa B h0 h' (cx s t.2::As)) (fun t=>2^32-t.1) (20,P++i) rfl ⟨by dsimp only;omega,by dsimp only;omega,by dsimp only;rw[qw];omega,G,c,by rw[qQ]at U;exact U⟩ ?_;rintro⟨k,l⟩ h4 ⟨ah,hk,hl,T,y,E⟩;dsimp only at*;refine ak (fun e2=>?_) (fun e2=>?_)
  ·have ad:k<d.length:=by omega
   have N:qc xh ((2:Int)*k)=((2*k:Nat):Int):=by rw[Go.Vc.wrap_small _ (by omega) (by omega)];omega
   have J:qc xh ((k:Int)*2)=((2*k:Nat):Int):=by rw[Go.Vc.wrap_small _ (by omega) (by omega)];omega
   rw[N];have next:∀{h':Heap} (q:List bv),q.length=d.length->Bs (2*k) q->cl cg l q->aa B h0 h' (cx s q::As)->∃f:Nat×List bv,qc xh ((k:Int)*2)=(f.1:Int)/\(0<f.1/\f.1<=2^32/\f.2.length=d.length/\Bs f.1 f.2/\cl cg d f.2/\aa B h0 h' (cx s f.2::As))/\2^32-f.1<2^32-k:=fun{h'} q q1 q2 q3 q4=>
    ⟨(2*k,q),J,⟨by dsimp only;omega,by dsimp only;omega,q1,q2,y.trans q3,q4⟩,by dsimp only;omega⟩
   refine aw (fun t:List bv×List bv=>((t.1.length:Int),((t.1.length+2*k:Nat):Int))) (fun t h'=>(∃u,t.1.length=u*(2*k))/\t.1.length+t.2.length=d.length/\Bs (2*k) t.1/\Bs k t.2/\cl cg l (t.1++t.2)/\aa B h0 h' (cx s (t.1++t.2)::As)) (fun t=>t.2.length) ([],l) (by dsimp only;rw[ym,zR];rfl) ⟨⟨0,by simp⟩,by simpa using hl,Bs.nil _,T,by simpa using cl.refl _,by simpa using E⟩ ?_;rintro⟨P,Q⟩ S ⟨⟨u,A⟩,Z,m,a,c,R⟩;dsimp only at*;have I:qc xh ((P.length:Int)+k)=((P.length+k:Nat):Int):=by rw[Go.Vc.wrap_small _ (by omega) (by omega)];omega
   rw[I];have eQ:Q.take k++Q.drop k=Q:=qE _ _;refine ak (fun Y=>?_) (fun Y=>ak (fun e4=>?_) fun e4=>?_)
   ·have ab:2*k<=Q.length:=by omega
    have x:Q.take k++((Q.drop k).take k++Q.drop (2*k))=Q:=by
     have:Q.drop (2*k)=(Q.drop k).drop k:=by rw[zy];congr 1;omega
     rw[this,qE,eQ]
    have l1:(Q.take k).length=k:=by simp;omega
    have l2:((Q.drop k).take k).length=k:=by simp;omega
    have j:aa B h0 S (cx s (P++(Q.take k++((Q.drop k).take k++Q.drop (2*k))))::As):=by rw[x];exact R
    refine(FH _ P (Q.take k) ((Q.drop k).take k) (Q.drop (2*k)) _ _ _ (by omega) (by omega) (ql _) rfl (by rw[l1]) (by rw[l1,l2];omega) (by simp;omega) a.first a.rest.first j).mono ?_;rintro _ h6 ⟨rfl,M,o,b,D⟩;have w:M.length=2*k:=by rw[<-ws dE b,qw,l1,l2];omega
    have p:(P++M).length=P.length+2*k:=by rw[qw,w]
    refine⟨(),rfl,(P++M,Q.drop (2*k)),?_,⟨⟨u+1,by dsimp only;rw[p,A];exact(zJ u (2*k)).symm⟩,by dsimp only;rw[p,q7];omega,m.snoc A o (by omega),?_,?_,?_⟩,by dsimp only;rw[q7];omega⟩
    ·dsimp only;rw[p,Go.Vc.wrap_small _ (by omega) (by omega)];congr 1
    ·dsimp only;have:Q.drop (2*k)=(Q.drop k).drop k:=by rw[zy];congr 1;omega
     rw[this];exact a.rest.rest
    ·dsimp only;refine c.trans ?_
     conv=>arg 2;rw[<-x]
     rw[qp];have:=(cl.refl (le:=cg) P).app (b.app (cl.refl (le:=cg) (Q.drop (2*k))));rw[qp]at this;exact this
    ·dsimp only;rw[qp];exact D
   ·have r:k<Q.length:=by omega
    have ao:Q.length<2*k:=by omega
    have l1:(Q.take k).length=k:=by simp;omega
    have l2:(Q.drop k).length=Q.length-k:=by simp
    have K:Sd cg (Q.drop k):=by
     have:=a.rest.first;rw[qi (by omega)]at this;exact this
    have j:aa B h0 S (cx s (P++(Q.take k++(Q.drop k++[])))::As):=by rw[qQ,eQ];exact R
    refine(FH _ P (Q.take k) (Q.drop k) [] _ _ _ (by omega) (by omega) (ql _) rfl (by rw[l1]) (by rw[l1,l2];omega) (by simp;omega) a.first K j).mono ?_;rintro _ h6 ⟨rfl,M,o,b,D⟩;have w:M.length=Q.length:=by rw[<-ws dE b,eQ]
    rw[eQ]at b;rw[qQ]at D;exact⟨(),rfl,next (P++M) (by rw[qw];omega) (m.snoc A o (by omega)) (c.trans ((cl.refl _).app b)) D⟩
   ·have r:Q.length<=k:=by omega
    exact next (P++Q) (by rw[qw];omega) (m.snoc A (a.whole r) (by omega)) c R
  ·have hs:Sd cg l:=T.whole (by omega);rw[aeP dE hs y]at E;exact⟨rfl,E⟩
theorem Nc(d:List bv)(a:d.length<=2^30)(H:aa B h0 h (cx s d::As)):
  ae xl jO #[vY s.ptr s.len s.cap,.func (.func cZ) #[] #[]] h fun v h'=>v=.tuple #[]/\aa B h0 h' (cx s (d.mergeSort cg)::As):=by
 refine jJ s (cZ,#[],#[]) ?_;unfold fI;refine(Wh d _ (by rw[(H.own 0 rfl).len]) a H).mono ?_;rintro _ c ⟨rfl,b⟩;exact⟨(),rfl,rfl,b⟩
def jI:bv:=(0,0,0,0,0,0,0,⟨none,0,0⟩)
end
end Go.Proofs.YtdhamoojccmbdaaGreatDoor
namespace Wl
open Go Go.Vc Go.Proofs.YtdhamoojccmbdaaGreatDoor
def ka(l:List bv)(k:Nat):Bool:=decide (k=0)||decide (lD (l.getD k jI) (l.getD (k-1) jI)≠0)
def kb(l:List bv)(k:Nat):List bv:=((qC k).filter (ka l)).map fun i=>l.getD i jI
def cpt(l:List bv):List bv:=kb l l.length
theorem nA(l:List bv)(k:Nat):kb l (k+1)=kb l k++if ka l k then[l.getD k jI]else[]:=by
 unfold kb;rw[zI,zk,qS,zp,yW];split<;>rfl
end Wl
namespace Go.Proofs.YtdhamoojccmbdaaGreatDoor
open Go Go.Vc Go.Proofs Wl
section
variable {B:aA} {h0 h h':Heap} {As:List HP} {s:Sl} {d:List bv}
theorem Nd(a b:bv)(h:Heap):ae xl nM #[recv a,recv b] h fun v h'=>v=xf (decide (lD a b=0))/\Sp h h' []:=by
 refine Hx a b ?_;unfold xV;refine(Sp.refl h).boxed fun e j i=>i.boxed fun f d c=>?_;have c:Sp h d [aq e bc (bB a),aq f bc (bB b)]:=c;refine⟨a,(c.box 0 rfl).aO _ rfl,b,(c.box 1 rfl).aO _ rfl,(rk a b d).mono ?_⟩;rintro _ h3 ⟨rfl,g⟩;refine⟨_,rfl,?_,.zip (aa.up c g.ai).ai⟩;congr 1
theorem KX(l:List bv)(hd:l.length<=2^30)(H:aa B h0 h (cx s l::As)):
  ae xl kB #[vY s.ptr s.len s.cap,.func (.func nM) #[] #[]] h fun v h'=>∃r:Sl,v=vY r.ptr r.len r.cap/\aa B h0 h' (cx r (cpt l)::As):=by
 refine ku s (nM,#[],#[]) ?_;unfold gf;have ad:=(H.own 0 rfl).len;have A:=(H.own 0 rfl).cap;have m:(∀j,j<l.length->ka l j=true)->cpt l=l:=fun w=>by
  have:∀k,k<=l.length->kb l k=l.take k:=fun k=>by
   induction k with
   |zero=>simp[kb]
   |succ k ih=>
    intro U;rw[nA,ih (by omega),if_pos (w k (by omega)),aJ l k (by omega),getD_lt (show k<l.length by omega)]
  unfold cpt;rw[this _ (ql _),qR]
 refine ak (fun e=>⟨s,rfl,?_⟩) (fun e=>?_)
 ·rw[m fun j n=>by unfold ka;rw[decide_eq_true (show j=0 by omega)];rfl];exact H
 refine aw (fun i:Nat=>(i:Int)) (fun i h'=>1<=i/\i<=l.length/\(∀j,j<i->ka l j=true)/\aa B h0 h' (cx s l::As)) (fun i=>l.length-i) 1 rfl ⟨by omega,by omega,fun j n=>by unfold ka;rw[decide_eq_true (show j=0 by omega)];rfl,H⟩ ?_;rintro i h1 ⟨am,hi,w,I⟩;refine ak (fun T=>?_) (fun T=>?_)
 ·have y:i<l.length:=by
   have e':(i:Int)<(s.len:Int):=T;omega
  have ei:qc xh ((i:Int)-1)=((i-1:Nat):Int):=by rw[Go.Vc.wrap_small _ (by omega) (by omega)];omega
  rw[ei];refine jR I i rfl (x:=l.getD i jI) (by rw[getD_lt y,qd y]) (jR I (i-1) rfl (x:=l.getD (i-1) jI) (by rw[getD_lt (show i-1<l.length by omega),qd]) (fa (by rfl) ?_));refine(Nd _ _ h1).mono ?_;rintro _ h2 ⟨rfl,R2⟩;have X:=I.up R2.ai;refine⟨_,rfl,trivial,bs (fun e2=>?_) (fun e2=>?_)⟩
  ·have u:ka l i=false:=by
    unfold ka;rw[decide_eq_false (show¬i=0 by omega)];simpa using e2
   have p:kb l i=l.take i:=by
    have:∀k,k<=i->kb l k=l.take k:=fun k=>by
     induction k with
     |zero=>simp[kb]
     |succ k ih=>
      intro U;rw[nA,ih (by omega),if_pos (w k (by omega)),aJ l k (by omega),getD_lt (show k<l.length by omega)]
    exact this i (ql _)
   refine⟨⟨by omega,by omega⟩,?_⟩;rw[qo];refine aw (fun t:Nat×List bv=>(((kb l (i+t.1)).length:Int),(t.1:Int))) (fun t h'=>1<=t.1/\i+t.1<=l.length/\t.2.length=l.length/\(kb l (i+t.1)).length+1<=i+t.1/\t.2.take (kb l (i+t.1)).length=kb l (i+t.1)/\(∀j,i+t.1-1<=j->t.2[j]?=l[j]?)/\aa B h0 h' (cx s t.2::As)) (fun t=>l.length-t.1) (1,l) ?_ ⟨by simp,by dsimp only;omega,rfl,?_,?_,fun _ _=>rfl,X⟩ ?_
   ·dsimp only;rw[nA,u,p];simp;omega
   ·dsimp only;rw[nA,u,p];simp;omega
   ·dsimp only;rw[nA,u,p];simp
   rintro⟨k,D⟩ h3 ⟨ao,ab,G,O,d,q,J⟩;dsimp only at*;obtain⟨c,K⟩:∃c,c=(kb l (i+k)).length:=⟨_,rfl⟩
   rw[<-K]at O d⊢;have ah:=(J.own 0 rfl).len;have E:=(J.seq 0 rfl fun _=>rfl).drop i A;refine ak (fun e3=>?_) (fun e3=>?_)
   ·have R:i+k<l.length:=by omega
    have ek:qc xh ((k:Int)-1)=((k-1:Nat):Int):=by rw[Go.Vc.wrap_small _ (by omega) (by omega)];omega
    rw[ek];have W:∀j,k-1<=j->(n:i+j<l.length)->(D.drop i)[j]?=some (l.getD (i+j) jI):=fun j n F=>by
     rw[wB,q _ (by omega),getD_lt F,qd F]
    have gk:=W k (by omega) R;have N:=W (k-1) (by omega) (by omega);obtain⟨Z,V⟩:=qm.1 gk;obtain⟨q1,q2⟩:=qm.1 N;refine Seq.dI (f:=bB) (g:=bB) E k rfl Z (l.getD (i+k) jI) (by rw[V]) ?_;refine Seq.dI (f:=bB) (g:=bB) E (k-1) rfl q1 (l.getD (i+(k-1)) jI) (by rw[q2]) (fa (by rfl) ?_);refine(Nd _ _ h3).mono ?_;rintro _ h4 ⟨rfl,R4⟩;have M:=J.up R4.ai;have o:ka l (i+k)=!decide (lD (l.getD (i+k) jI) (l.getD (i+(k-1)) jI)=0):=by
     unfold ka;rw[decide_eq_false (show¬i+k=0 by omega),show i+k-1=i+(k-1)by omega];simp
    have b:=nA l (i+k);rw[o]at b;refine⟨_,rfl,trivial,bi (fun S=>?_) (fun S=>?_)⟩
    ·rw[S]at b;have a:(kb l (i+(k+1))).length=c+1:=by rw[<-yp,b];simp[K]
     have z:=(M.seq 0 rfl fun _=>rfl).drop i A;refine Seq.dI (f:=bB) (g:=bB) z k rfl Z (l.getD (i+k) jI) (by rw[V]) ?_;refine M.set af 0 rfl (fun _=>rfl) rfl c rfl (by omega) (l.getD (i+k) jI) rfl rfl rfl fun h5 H5=>?_;refine⟨(k+1,D.set c (l.getD (i+k) jI)),?_,⟨by dsimp only;omega,by dsimp only;omega,by dsimp only;rw[zH];exact G,by dsimp only;rw[a];omega,?_,fun j n=>?_,H5⟩,by dsimp only;omega⟩
     ·dsimp only;rw[a,Go.Vc.wrap_small _ (by omega) (by omega),Go.Vc.wrap_small _ (by omega) (by omega)];rfl
     ·dsimp only;rw[a,aJ _ c (by rw[zH];omega),vC,List.take_set_of_le (ql _),d,<-yp,b];simp
     ·dsimp only at n⊢;rw[z7 (by omega)];exact q j (by omega)
    ·rw[S]at b;have a:(kb l (i+(k+1))).length=c:=by rw[<-yp,b];simp[K]
     refine⟨(k+1,D),?_,⟨by dsimp only;omega,by dsimp only;omega,G,by dsimp only;rw[a];omega,?_,fun j n=>q j (by dsimp only at n;omega),M⟩,by dsimp only;omega⟩
     ·dsimp only;rw[a,Go.Vc.wrap_small _ (by omega) (by omega)];rfl
     ·dsimp only;rw[a,d,<-yp,b];simp
   ·have P:i+k=l.length:=by omega
    refine⟨⟨by omega,by omega⟩,?_⟩;rw[qo];refine J.oK af 0 rfl agY (fun _=>rfl) rfl (by decide) c (by omega) fun h6 Y=>⟨⟨by omega,by omega⟩,⟨s.ptr,c,s.cap⟩,rfl,?_⟩
    rw[d,P]at Y;exact Y
  ·refine⟨i+1,by rw[Go.Vc.wrap_small _ (by omega) (by omega)];rfl,⟨by omega,by omega,fun j n=>?_,X⟩,by omega⟩;by_cases Q:j=i
   ·subst Q;unfold ka;rw[decide_eq_true (show lD (l.getD j jI) (l.getD (j-1) jI)≠0 by simpa using e2)];simp
   ·exact w j (by omega)
 ·have L:i=l.length:=by
   have e':¬(i:Int)<(s.len:Int):=T;omega
  subst L;rw[m w];exact⟨s,rfl,I⟩
end
def fieldsOf(d:Option TypeDesc):List (Bool×TypeId×Nat):=match d with|some (.struct fs)=>fs.toList.map (fun f=>(f.name== "_",f.type,f.offset))|_=>[]
theorem abp:fieldsOf (Tryz.prog.underlying aP)=[(false,3,0),(false,3,1),(false,3,2)]:=by kernel_rfl
theorem adG:Tryz.prog.stoodInHeld aP=false:=by kernel_rfl
theorem adH:Tryz.prog.eqGuardType Tryz.prog.depth aP=false:=by kernel_rfl
theorem Uk{P:Program}{t:TypeId}{a b c:TypeId×Nat}(h:fieldsOf (P.underlying t)=[(false,a.1,a.2),(false,b.1,b.2),(false,c.1,c.2)]):
  ∃f g e:Field,P.underlying t=some (.struct #[f,g,e])/\(f.name≠ "_" /\f.type=a.1/\f.offset=a.2)/\(g.name≠ "_" /\g.type=b.1/\g.offset=b.2)/\(e.name≠ "_" /\e.type=c.1/\e.offset=c.2):=by
 cases hu:P.underlying t with
 |none=>rw[hu]at h;cases h
 |some d=>
  rw[hu]at h;cases d with
  |struct fs=>
   simp only[fieldsOf]at h;obtain⟨l⟩:=fs;have i:l.length=3:=by simpa using congrArg y6 h
   obtain⟨f,r,rfl⟩:=yi i;obtain⟨g,j,rfl⟩:=yi (by simpa using i:r.length=1+1);obtain⟨e,k,rfl⟩:=yi (by simpa using i:j.length=0+1);obtain rfl:k=[]:=by simpa using i
   simp at h;exact⟨f,g,e,rfl,⟨h.1.1,h.1.2.1,h.1.2.2⟩,⟨h.2.1.1,h.2.1.2.1,h.2.1.2.2⟩,⟨h.2.2.1,h.2.2.2.1,h.2.2.2.2⟩⟩
  |_=>cases h
theorem iY{P:Program}{d:Nat}{t:TypeId}{k:IntKind}(h:∃c,P.underlying t=some (.int c))(a b:Int):aI P (Op.equalIn (d+1) t (.int k a) (.int k b)) (a==b):=by
 obtain⟨c,h⟩:=h;unfold Op.equalIn;refine(aG h).bind ?_;simp only[if_true];exact .pure
theorem lU{P:Program}{t:TypeId}{k:IntKind}(h:P.underlying t=some (.int k)){a:Array Value}{i:Nat}{v:Value}(b:a[i]?=some v):aI P (part t a i) v:=by
 unfold part isAgg;refine aI.bind (v:=false) ((aG h).bind .pure) ?_;simp only[ze,if_false,b];exact .pure
theorem ahP(p q:Pm):aI xl (Op.equal aP (xg #[vX xh p.1,vX xh p.2.1,vX xh p.2.2]) (xg #[vX xh q.1,vX xh q.2.1,vX xh q.2.2])) (decide (p=q)):=by
 obtain⟨f,g,u,G,⟨H,I,y⟩,⟨z,D,E⟩,⟨F,B,u3⟩⟩:=Uk (a:=(3,0)) (b:=(3,1)) (c:=(3,2)) abp;have A:∃k,Tryz.prog.underlying 3=some (.int k):=⟨.i64,by kernel_rfl⟩
 obtain⟨k,d⟩:=A;unfold Op.equal;rw[show Op.maxDepth=9998+1+1 from rfl,Op.equalIn];refine(aG G).bind ?_;refine aI.bind (v:=xl) (fun w=>rfl) ?_;simp only[adG,ze,if_false,List.forIn_toArray,List.forIn_cons,List.forIn_nil,ne_eq,H,z,F,not_false_eq_true,if_true,I,y,D,E,B,u3];obtain⟨a,b,c⟩:=p;obtain⟨h,i,j⟩:=q;dsimp only;have n:aI xl (part 3 #[Value.int xh a,Value.int xh b,Value.int xh c] 0) _:=lU d rfl;have o:aI xl (part 3 #[Value.int xh h,Value.int xh i,Value.int xh j] 0) _:=lU d rfl;have r:aI xl (part 3 #[Value.int xh a,Value.int xh b,Value.int xh c] 1) _:=lU d rfl;have s:aI xl (part 3 #[Value.int xh h,Value.int xh i,Value.int xh j] 1) _:=lU d rfl;have t:aI xl (part 3 #[Value.int xh a,Value.int xh b,Value.int xh c] 2) _:=lU d rfl;have x:aI xl (part 3 #[Value.int xh h,Value.int xh i,Value.int xh j] 2) _:=lU d rfl;by_cases l:a=h
 ·by_cases m:b=i
  ·by_cases h3:c=j
   ·have e:decide ((a,b,c)=(h,i,j))=true:=by simp[l,m,h3]
    rw[e];refine aI.bind (v:=(none,())) (aI.bind (v:=ForInStep.yield (none,())) (n.bind (o.bind ((iY ⟨k,d⟩ a h).bind ?_))) (aI.bind (v:=ForInStep.yield (none,())) (r.bind (s.bind ((iY ⟨k,d⟩ b i).bind ?_))) (aI.bind (v:=ForInStep.yield (none,())) (t.bind (x.bind ((iY ⟨k,d⟩ c j).bind ?_))) .pure))) .pure
    ·simp only[l,beq_self_eq_true,wW,ze,if_false];exact .pure
    ·simp only[m,beq_self_eq_true,wW,ze,if_false];exact .pure
    ·simp only[h3,beq_self_eq_true,wW,ze,if_false];exact .pure
   ·have e:decide ((a,b,c)=(h,i,j))=false:=by simp[h3]
    rw[e];refine aI.bind (v:=(some false,())) (aI.bind (v:=ForInStep.yield (none,())) (n.bind (o.bind ((iY ⟨k,d⟩ a h).bind ?_))) (aI.bind (v:=ForInStep.yield (none,())) (r.bind (s.bind ((iY ⟨k,d⟩ b i).bind ?_))) (aI.bind (v:=ForInStep.done (some false,())) (t.bind (x.bind ((iY ⟨k,d⟩ c j).bind ?_))) .pure))) .pure
    ·simp only[l,beq_self_eq_true,wW,ze,if_false];exact .pure
    ·simp only[m,beq_self_eq_true,wW,ze,if_false];exact .pure
    ·rw[show(c==j)=false by simpa using h3];simp only[wY,if_true];exact .pure
  ·have e:decide ((a,b,c)=(h,i,j))=false:=by simp[m]
   rw[e];refine aI.bind (v:=(some false,())) (aI.bind (v:=ForInStep.yield (none,())) (n.bind (o.bind ((iY ⟨k,d⟩ a h).bind ?_))) (aI.bind (v:=ForInStep.done (some false,())) (r.bind (s.bind ((iY ⟨k,d⟩ b i).bind ?_))) .pure)) .pure
   ·simp only[l,beq_self_eq_true,wW,ze,if_false];exact .pure
   ·rw[show(b==i)=false by simpa using m];simp only[wY,if_true];exact .pure
 ·have e:decide ((a,b,c)=(h,i,j))=false:=by simp[l]
  rw[e];refine aI.bind (v:=(some false,())) (aI.bind (v:=ForInStep.done (some false,())) (n.bind (o.bind ((iY ⟨k,d⟩ a h).bind ?_))) .pure) .pure;rw[show(a==h)=false by simpa using l];simp only[wY,if_true];exact .pure
theorem ahb(x y:Operand)(p q:Pm):kI xl .neq aP x y (xg #[vX xh p.1,vX xh p.2.1,vX xh p.2.2]) (xg #[vX xh q.1,vX xh q.2.1,vX xh q.2.2]) (xf (!decide (p=q))):=by
 unfold kI eqGuard;refine aI.bind (v:=()) ?_ ?_
 ·simp only[wW,ze,if_false];refine aI.bind (v:=xl) (fun w=>rfl) ?_;refine aI.bind (v:=xl) (fun w=>rfl) ?_;simp only[adH,wY,if_true];exact .pure
 ·exact(ahP p q).bind .pure
end Go.Proofs.YtdhamoojccmbdaaGreatDoor
namespace Wl
def YV(P:bY->Bool)(l:List bY)(i:Int):Prop:=(i=-1/\l.any P=false)∨∃n:Nat,∃h:n<l.length,i=n/\P l[n]=true/\(l.take n).any P=false
theorem Ul{P:bY->Bool}{l:List bY}{i:Int}(h:YV P l i):decide (i>=0)=l.any P:=by
 rcases h with⟨rfl,h⟩|⟨n,hn,rfl,h,_⟩
 ·rw[h];rfl
 ·rw[wm.2 ⟨_,qg hn,h⟩];exact decide_eq_true (by omega)
end Wl
namespace Go.Proofs.YtdhamoojccmbdaaGreatDoor
open Go Go.Vc Go.Proofs Wl
theorem JW(f:FuncId)(pre post:Array Value)(P:Wl.bY->Bool)(l:Sl)(a:List Wl.bY)(h:Heap)(q:C.fns[f]?=some true)(o:fG xp h l a)(F:a.length<=2^30)
  (r:∀(u:dZ) (E:Wl.bY) (h':Heap),Sp h h' []->fG oq h' u E->E∈a->ae xl f (pre.toList++[Value.agg #[xd u.1,vX xh u.2.1,vX xh u.2.2.1,vY u.2.2.2.ptr u.2.2.2.len u.2.2.2.cap]]++post.toList).toArray h' fun v j=>v=xf (P E)/\Sp h' j []):
  ae xl lM #[vY l.ptr l.len l.cap,.func (.func f) pre post] h fun v h'=>(∃i:Int,v=vX xh i/\YV P a i)/\Sp h h' []:=by
 refine gE l (f,pre,post) ?_;unfold eZ;obtain⟨e,w,D,s⟩:=cO.sH o;have p:=cO.len o;refine aw (fun i:Nat=>(i:Int)) (fun i h'=>i<=a.length/\(a.take i).any P=false/\Sp h h' []) (fun i=>a.length-i) 0 rfl ⟨by omega,by simp,Sp.refl h⟩ ?_;rintro i m ⟨A,b,d⟩;refine ak (fun k=>?_) (fun k=>?_)
 ·have c:i<a.length:=by
   have t:(i:Int)<(l.len:Int):=k;omega
  have x:fG oq m (e[i]'(by omega)) a[i]:=oq.mono (oq.loc (s i (by omega) c) d.ai) fun _ z=>qV z d.ai.1;refine(Seq.up w d.ai).dI (g:=bI) i rfl (by omega) (e[i]'(by omega)) rfl (fa q ?_);refine(r (e[i]'(by omega)) a[i] m d x (qg c)).mono ?_;rintro _ B ⟨rfl,y⟩;have n:=d.up y.ai;refine⟨_,rfl,bs (fun e2=>⟨⟨i,rfl,.inr ⟨i,c,rfl,e2,b⟩⟩,n⟩) (fun e2=>?_)⟩;refine⟨i+1,by rw[Go.Vc.wrap_small _ (by omega) (by omega)];rfl,⟨by omega,?_,n⟩,by omega⟩;rw[aJ _ _ c,yX,b,List.any_cons,List.any_nil,e2];rfl
 ·have t:¬(i:Int)<(l.len:Int):=k;rw[qi (by omega)]at b;exact⟨⟨-1,rfl,.inl ⟨rfl,b⟩⟩,d⟩
theorem Po(f:FuncId)(pre post:Array Value)(P:Wl.bY->Bool)(l:Sl)(a:List Wl.bY)(h:Heap)(c:C.fns[f]?=some true)(g:fG xp h l a)(k:a.length<=2^30)
  (e:∀(u:dZ) (E:Wl.bY) (h':Heap),Sp h h' []->fG oq h' u E->E∈a->ae xl f (pre.toList++[Value.agg #[xd u.1,vX xh u.2.1,vX xh u.2.2.1,vY u.2.2.2.ptr u.2.2.2.len u.2.2.2.cap]]++post.toList).toArray h' fun v b=>v=xf (P E)/\Sp h' b []):
  ae xl ge #[vY l.ptr l.len l.cap,.func (.func f) pre post] h fun v h'=>v=xf (a.any P)/\Sp h h' []:=by
 refine fV l (f,pre,post) ?_;unfold dY;refine(JW f pre post P l a h c g k e).mono ?_;rintro _ m ⟨⟨i,rfl,d⟩,j⟩;exact⟨i,rfl,by rw[Ul d],j⟩
theorem uV(o b t:Int)(h:Heap):ae xl Tz #[vX xh o,vX xh b,vX xh t] h fun v h'=>v=vX xj (cJ o b t)/\h'=h:=by
 refine QZ o b t ?_;unfold JH;refine⟨?_,rfl⟩;have:qc xj ((qc xj ((qc xj ((128:Int)*(qc xj o)))+(qc xj ((16:Int)*(qc xj b)))))+(qc xj t))=cJ o b t:=by
  unfold cJ qc;simp[qk,yO];omega
 rw[this]
theorem Wi(x:cv)(m:aE)(y:bv)(r:cT)(h:Heap)(q:ff h x m)(hz:dp m)(N:fG dT h y r):
  ae xl ON #[go x,recv y] h fun v h'=>v=xf (cX m r)/\Sp h h' []:=by
 refine Mu x y ?_;unfold Fw;refine(Sp.refl h).boxed fun T h1 H1=>H1.boxed fun c J j=>?_;have j:Sp h J [aq T aF (aZ x),aq c bc (bB y)]:=j;obtain⟨⟨e1,e2,e3,s,Y,e7,e8⟩,e6⟩:=id N;have H:x.2.2.1=m.p.1:=congrArg (·.1) q.p;have t:x.2.2.2.1=m.p.2.1:=congrArg (·.2.1) q.p;have w:x.2.2.2.2.1=m.p.2.2:=congrArg (·.2.2) q.p;have I:y.2.2.2.1=r.p.1:=congrArg (·.1) s;have A:y.2.2.2.2.1=r.p.2.1:=congrArg (·.2.1) s;have G:y.2.2.2.2.2.1=r.p.2.2:=congrArg (·.2.2) s;have U:=hz.ob;refine aX ⟨y,(j.box 1 rfl).aO _ rfl,(JT y r J (dT.mono (dT.loc N j.ai) fun _ hb=>qV hb j.ai.1)).mono ?_⟩;rintro _ h3 ⟨rfl,Z⟩;have i:Sp h h3 [aq T aF (aZ x),aq c bc (bB y)]:=j.up Z.ai;have Q:=i.box 0 rfl;have F:=i.box 1 rfl;refine⟨_,rfl,bi (fun g=>⟨by unfold cX;rw[g];rfl,.zip i.ai⟩) fun g=>?_⟩;obtain⟨_,g2,_⟩:=(iI r).1 g;refine⟨r.p,by rw[<-I,<-A,<-G];exact F.Jb 3 rfl rfl rfl,m.p,by rw[<-H,<-t,<-w];exact Q.Jb 2 rfl rfl rfl,_,ahb _ _ r.p m.p,bi (fun z=>⟨?_,.zip i.ai⟩) fun z=>?_⟩
 ·unfold cX;rw[g,z];rfl
 obtain⟨P,L⟩:∃P:Wl.bY->Bool,P=fun x=>decide (x.object=r.object)&&(decide (r.block<(x.tries.length:Int))&&decide (r.seed=cJ r.object r.block (x.tries.getD r.block.toNat 0))):=⟨_,rfl⟩
 have D:cX m r=m.objs.any P:=by unfold cX;rw[g,z,L];rfl
 refine⟨x.2.2.2.2.2.2.2,Q.cell rfl,?_⟩;refine(Po KK #[] #[vZ (some c)] P x.2.2.2.2.2.2.2 m.objs h3 (by rfl) (q.up i.ai).objs (by omega) fun u E R X he _=>?_).mono ?_
 ·obtain⟨⟨y1,V,y3⟩,M⟩:=he;have ab:=Seq.len M;have k:=F.ai X.ai F.lt;refine Jo u c ?_;unfold Bv;refine(Sp.refl R).boxed fun a5 a b=>?_;have b:Sp R a [aq a5 aV (bI u)]:=b;have S:=b.box 0 rfl;have d:=k.ai b.ai k.lt;have o:cellOf a (a5.add 1)=some (vX xh E.object):=by rw[<-V];exact S.cell rfl
  have n:cellOf a (a5.add 3)=some (vY u.2.2.2.ptr u.2.2.2.len u.2.2.2.cap):=S.cell rfl;have l:cellOf a c=some (vX xh r.object):=by rw[<-e1];exact d.cell0 rfl
  have e:cellOf a (c.add 1)=some (vX xh r.block):=by rw[<-e2];exact d.cell rfl
  have K:cellOf a (c.add 6)=some (vX xj r.seed):=by rw[<-Y];exact d.cell rfl
  rw[L];refine⟨E.object,o,r.object,l,cw (fun B=>?_) fun B=>⟨⟨l,o,trivial⟩,?_,.zip b.ai⟩⟩
  ·refine⟨u.2.2.2,n,r.block,e,ak (fun W=>?_) fun W=>⟨⟨e,n,l,o,trivial⟩,?_,.zip b.ai⟩⟩
   ·have O:r.block.toNat<E.tries.length:=by omega
    refine⟨r.seed,K,r.object,l,r.block,e,u.2.2.2,n,r.block,e,?_⟩;refine Seq.bz (f:=aD) (Seq.up M b.ai) r.block.toNat (by omega) O (E.tries.getD r.block.toNat 0) (by rw[getD_lt O];rfl) ?_;refine(uV _ _ _ a).mono ?_;rintro _ _ ⟨rfl,rfl⟩;refine⟨_,rfl,⟨e,n,K,e,n,l,o,trivial⟩,?_,.zip b.ai⟩;dsimp only;rw[decide_eq_true B,decide_eq_true (show r.block<(E.tries.length:Int)by omega),zU,zU];congr 1
   ·dsimp only;rw[decide_eq_false (show¬r.block<(E.tries.length:Int)by omega)];simp
  ·dsimp only;rw[decide_eq_false B];rfl
 ·rintro _ a ⟨rfl,R5⟩;exact⟨_,rfl,by rw[D],.zip (aa.up i R5.ai).ai⟩
section
variable {α:Type}
def ou(k:Nat)(f:α->List Value):je Sl (List α):=⟨fun h q s l=>Seq h q s k f l/\s.len<=s.cap,fun a c=>⟨a.1.ai c,a.2⟩,fun a b=>⟨a.1.mono b,a.2⟩⟩
theorem aa.aeY{B:aA}{m h:Heap}{As:List HP}{e a k:Nat}{s:Sl}{f:α->List Value}{b:List (List α)}(H:aa B m h (mi e s a k f b::As))(t:∀x,(f x).length=k):∃rs,aa B m h (cj (ou k f) 1 bQ s rs b::As):=by
 obtain⟨rs,H⟩:=H.IJ;obtain⟨H,n⟩:=H.Kj;refine⟨rs,H.gq 0 rfl fun q d=>⟨?_,n,fun i r l j c=>?_⟩⟩
 ·have:=HP.Dv (i:=0) d rfl;exact this.1.seq (fun _=>rfl) this.2
 ·have g:i<b.length:=(qm.1 c).1;have o:=kl (e:=a) (k:=k) (f:=f) n i g;have:=HP.Dv (i:=i+1) d (by simpa using o);have p:rs[i]'(by omega)=r:=by rw[qd (by omega)]at j;simpa using j
  have a:b[i]=l:=by rw[qd g]at c;simpa using c
  rw[p,a]at this;exact⟨this.1.seq t this.2,this.1.cap⟩
end
def sP(T:List (bv×cT)):HP:=⟨fun h q=>∀t∈T,dT.p h q t.1 t.2,fun a d t b=>dT.loc (a t b) d,fun a c t b=>dT.mono (a t b) c⟩
end Go.Proofs.YtdhamoojccmbdaaGreatDoor
namespace Wl
open Go Go.Vc Go.Proofs.YtdhamoojccmbdaaGreatDoor
def Keyed(T:List (bv×cT)):Prop:=∀t∈T,t.1.1=t.2.object/\t.1.2.1=t.2.block/\t.1.2.2.1=t.2.id
def Qp(a b:bv×cT):Bool:=rD a.2 b.2
theorem adI{T:List (bv×cT)}(k:Keyed T):∀a∈T,∀b∈T,Qp a b=cg a.1 b.1:=fun a c b i=>by
 obtain⟨e,g,a3⟩:=k a c;obtain⟨d,h,f⟩:=k b i;unfold Qp rD cg;rw[decide_eq_decide,Du,e,g,a3,d,h,f]
theorem YW{T:List (bv×cT)}(k:Keyed T):(T.mergeSort Qp).map qJ=(T.map qJ).mergeSort cg/\(T.mergeSort Qp).map zC=(T.map zC).mergeSort rD/\Keyed (T.mergeSort Qp):=
 ⟨vt (adI k),vt fun a _ b _=>rfl,fun t c=>k t (yw.1 c)⟩
def Nf:bv×cT:=(jI,LJ)
def EF(T:List (bv×cT)):List (bv×cT):=((qC T.length).filter (pF (T.map zC))).map fun i=>T.getD i Nf
theorem getD_map{α β:Type}(f:α->β)(l:List α)(i:Nat)(d:α):(l.map f).getD i (f d)=f (l.getD i d):=by
 rw[qe,qe,qP];cases l[i]?<;>rfl
theorem abq{T:List (bv×cT)}(k:Keyed T):(EF T).map qJ=cpt (T.map qJ)/\(EF T).map zC=sa (T.map zC)/\∀t∈EF T,t∈T:=by
 have l:∀i,i<T.length->ka (T.map qJ) i=pF (T.map zC) i:=fun i a=>by
  unfold ka pF;have g:∀j,j<T.length->(T.map qJ).getD j jI=(T[j]?.getD Nf).1/\(T.map zC).getD j LJ=(T[j]?.getD Nf).2:=fun j p=>by
   rw[qe,qe,qP,qP,qd p];exact⟨rfl,rfl⟩
  by_cases h0:i=0
  ·rw[decide_eq_true h0];rfl
  ·rw[decide_eq_false h0,vi,vi,(g i a).1,(g i a).2,(g (i-1) (by omega)).1,(g (i-1) (by omega)).2];rw[qd a,qd (show i-1<T.length by omega)];obtain⟨o,f,a3⟩:=k _ (qg a);obtain⟨n,q,m⟩:=k _ (qg (show i-1<T.length by omega));unfold pE;simp only[Option.getD_some];have c:=abl T[i].1 (T[i-1]'(by omega)).1;rw[o,f,a3,n,q,m]at c;by_cases b:lD T[i].1 (T[i-1]'(by omega)).1=0
   ·rw[decide_eq_false (fun h=>h b),decide_eq_true (c.1 b)];rfl
   ·rw[decide_eq_true b,decide_eq_false (fun r=>b (c.2 r))];rfl
 have e:(qC T.length).filter (ka (T.map qJ))=(qC T.length).filter (pF (T.map zC)):=List.filter_congr fun i a=>l i (qF.1 a);refine⟨?_,?_,fun t d=>?_⟩
 ·unfold EF cpt kb;rw[qx,e,wS];congr 1;funext i;exact(getD_map qJ T i Nf).symm
 ·unfold EF sa;rw[qx,wS];congr 1;funext i;exact(getD_map zC T i Nf).symm
 ·unfold EF at d;obtain⟨i,a,rfl⟩:=qu.1 d;have:=qF.1 (qI.1 a).1;rw[getD_lt this];exact qg this
end Wl
namespace Go.Proofs.YtdhamoojccmbdaaGreatDoor
open Go Go.Vc Go.Proofs Wl
theorem RE(a pw:Addr)(d:bC)(s b:Sl)(x:cv)(m:aE)(h:Heap)(H:cy h a cE (gS pw d s b))(hl:gr h s 1 aB d.l)(ok:gm d)(hx:ff h x m)(hz:dp m):
  ae xl Bo #[vZ (some a),go x] h fun v h'=>∃(r:Sl) (T:List (bv×cT)),v=vY r.ptr r.len r.cap/\T.map zC=fQ m d.l/\Keyed T/\Sp h h' [cx r (T.map qJ),sP T]:=by
 refine KA (some a) x ?_;unfold CV;have ab:=ok.len;have V:=ok.room;refine(Sp.refl h).boxed fun p h1 J=>?_;have J:Sp h h1 [aq p aF (aZ x)]:=J;refine(Ud s b (H.ai J.ai H.lt) (hl.up J.ai) ok).mono ?_;rintro _ h2 ⟨F,rfl,R2⟩;have M:=J.dc R2;obtain⟨rs,M⟩:=aa.aeY M fun _=>rfl;refine⟨F,rfl,?_⟩;have F2:=M.dO 0 rfl;have am:=F2.1.len;have ah:=F2.2.1;have E:Sp h h2 [cx ⟨none,0,0⟩ [],sP [],cj (ou 1 aB) 1 bQ F rs d.l,aq p aF (aZ x)]:=
  ((M.comp (.one (A:=sP []) (aU.refl _ _) (fun t f=>(by cases f)))).nil bc 8 bB).bO [3,2,0,1]
 refine aw (fun t:Sl×Nat×List (bv×cT)=>(t.1,(t.2.1:Int)-1)) (fun t h'=>t.2.1<=d.l.length/\t.2.2.length<=t.2.1/\Keyed t.2.2/\t.2.2.map zC=(d.l.take t.2.1).filterMap (jH m)/\Sp h h' [cx t.1 (t.2.2.map qJ),sP t.2.2,cj (ou 1 aB) 1 bQ F rs d.l,aq p aF (aZ x)]) (fun t=>d.l.length-t.2.1) (⟨none,0,0⟩,0,[]) rfl ⟨by simp,by simp,(fun t f=>(by cases f)),by simp,E⟩ ?_;rintro⟨o,i,T⟩ h3 ⟨hi,ap,L,k,E⟩;dsimp only at*;have ei:qc xh ((i:Int)-1+1)=(i:Int):=by rw[Go.Vc.wrap_small _ (by omega) (by omega)];omega
 rw[ei];refine ak (fun e=>?_) (fun e=>?_)
 ·have W:i=d.l.length:=by omega
  subst W;rw[qR]at k;refine(Nc (T.map qJ) (by rw[qx];omega) E).mono ?_;rintro _ h4 ⟨rfl,H4⟩;obtain⟨s1,s2,s3⟩:=YW L;rw[<-s1]at H4;refine⟨(),rfl,(KX _ (by rw[qx,wx];omega) H4).mono ?_⟩;rintro _ h5 ⟨r5,rfl,H5⟩;obtain⟨c1,c2,c3⟩:=abq s3;rw[<-c1]at H5;refine⟨r5,rfl,r5,EF (T.mergeSort Qp),rfl,?_,fun t f=>s3 t (c3 t f),?_⟩
  ·have hr:fQ m d.l=(EF (T.mergeSort Qp)).map zC:=by unfold fQ;rw[<-k,c2,s2]
   exact hr.symm
  ·exact(H5.gq 1 rfl (D:=sP (EF (T.mergeSort Qp))) fun q z t f=>z t (yw.1 (c3 t f))).bO [0,1]
 ·have w:i<d.l.length:=by omega
  have g:=Yl m d.l i w;have next:∀{h':Heap} {G:Sl} {T':List (bv×cT)},T'.length<=i+1->Keyed T'->T'.map zC=(d.l.take (i+1)).filterMap (jH m)->Sp h h' [cx G (T'.map qJ),sP T',cj (ou 1 aB) 1 bQ F rs d.l,aq p aF (aZ x)]->
    ∃j:Sl×Nat×List (bv×cT),((⟨G.ptr,G.len,G.cap⟩:Sl),(i:Int))=(j.1,(j.2.1:Int)-1)/\(j.2.1<=d.l.length/\j.2.2.length<=j.2.1/\Keyed j.2.2/\j.2.2.map zC=(d.l.take j.2.1).filterMap (jH m)/\Sp h h' [cx j.1 (j.2.2.map qJ),sP j.2.2,cj (ou 1 aB) 1 bQ F rs d.l,aq p aF (aZ x)])/\d.l.length-j.2.1<d.l.length-i:=fun{h' G T'} q1 q2 q3 q4=>
   ⟨(G,i+1,T'),by dsimp only;congr 1;omega,⟨by dsimp only;omega,q1,q2,q3,q4⟩,by dsimp only;omega⟩
  refine aX ?_;refine(E.dO 2 rfl).1.ox i rfl (by omega) ?_;obtain⟨u,R⟩:=Fix.row (E.dO 2 rfl) w;obtain⟨c,Z⟩:∃c,c=d.l[i]:=⟨_,rfl⟩
  rw[<-Z]at u g;have ad:c.length=64:=by rw[Z];exact ok.cell _ (qg w)
  refine(Ug (rs[i]'(by omega)) c h3 u (by omega) R).mono ?_;rintro _ h6 ⟨y,rfl,Q0,Q1⟩;refine⟨(y,(dm c).isSome),rfl,?_⟩;dsimp only;cases htr:dm c with
  |none=>
   have I:jH m c=none:=by unfold jH;rw[htr]
   rw[I,Option.toList_none,qQ]at g;have X:=E.up (Q0 htr).ai;refine X.alloc af rfl fun a9 h7 S=>?_;refine S.storeAll af 4 rfl rfl (bB y) rfl rfl rfl rfl fun h8 n=>bs (fun e=>by cases e) fun _=>?_;exact next (by omega) L (by rw[k,g]) (n.bO [0,1,2,3])
  |some r=>
   have X:=E.dc (Q1 r htr);refine X.alloc af rfl fun a9 h7 S=>?_;refine S.storeAll af 5 rfl rfl (bB y) rfl rfl rfl rfl fun h8 n=>bs (fun _=>?_) fun e=>by cases e
   have n:Sp h h8 [EA dT y r,cx o (T.map qJ),sP T,cj (ou 1 aB) 1 bQ F rs d.l,aq p aF (aZ x),aq a9 bc (bB y)]:=n;have Q:=n.eAt 0 rfl;have P:aj h8 p 0 (aZ x):=(n.box 4 rfl).aO _ rfl;have O:aj h8 a9 0 (bB y):=(n.box 5 rfl).aO _ rfl;have Y:=Wi x m y r h8 (hx.up n.ai) hz Q;refine⟨x,P,y,O,Y.mono ?_⟩;rintro _ h9 ⟨rfl,R9⟩;have U:Sp h h9 [EA dT y r,cx o (T.map qJ),sP T,cj (ou 1 aB) 1 bQ F rs d.l,aq p aF (aZ x),aq a9 bc (bB y)]:=n.up R9.ai;refine⟨_,rfl,bs (fun e2=>?_) (fun e2=>?_)⟩
   ·have I:jH m c=some r:=by unfold jH;rw[htr];exact if_pos e2
    rw[I,Option.toList_some]at g;refine⟨y,(U.box 5 rfl).aO _ rfl,?_⟩;refine U.push af 1 rfl agY rfl (by decide) (fun _=>rfl) afM y (by kernel_rfl) (by decide) (by rw[qx];omega) fun G ao K=>?_;have B:=(K.eAt 0 rfl).1;have N:=K.merge 2 0 (by decide) rfl rfl (D:=sP (T++[(y,r)])) (fun q1 q2 _ p1 p2 t f=>by
     rcases qB.1 f with f|f
     ·exact dT.mono (p1 t f) fun _ H=>.inl H
     ·rw[qH.1 f];exact dT.mono p2 fun _ H=>.inr H)
    refine next (T':=T++[(y,r)]) (by simp;omega) (fun t f=>?_) (by rw[qS,k,g];rfl) ?_
    ·rcases qB.1 f with f|f
     ·exact L t f
     ·rw[qH.1 f];exact⟨B.1,B.2.1,B.2.2.1⟩
    ·rw[qS];exact N.bO [1,2,3,4]
   ·have I:jH m c=none:=by unfold jH;rw[htr];exact if_neg (by rw[e2];simp)
    rw[I,Option.toList_none,qQ]at g;exact next (by omega) L (by rw[k,g]) (U.bO [1,2,3,4])
theorem Ae(a pw:Addr)(d:bC)(s b:Sl)(x:cv)(m:aE)(h:Heap)(w:cy h a cE (gS pw d s b))(p:gr h s 1 aB d.l)(ok:gm d)(y:ff h x m)(u:dp m):
  ae xl Bo #[vZ (some a),go x] h fun v h'=>∃(r:Sl) (i:List bv),v=vY r.ptr r.len r.cap/\Sp h h' [cj dT 8 bB r i (fQ m d.l)]:=by
 refine(RE a pw d s b x m h w p ok y u).mono ?_;rintro _ h' ⟨r,T,rfl,n,_,H⟩;refine⟨r,T.map qJ,rfl,?_⟩;have g:=(H.freeze 0 rfl fun _=>rfl).pA;have o:aa _ _ _ (cj dT 8 bB r (T.map qJ) (fQ m d.l)::_):=g.gq 0 rfl fun q ⟨E,B,_,b,c,k,z⟩=>by
  rw[<-n];refine⟨Seq.mono z c,by simp,fun j D A e f=>?_⟩;rw[qP]at e f;cases g3:T[j]? with
  |none=>rw[g3]at e;cases e
  |some t=>
   rw[g3]at e f;simp at e f;subst e;subst f;exact dT.mono (k t (ye g3)) b
 exact o.bO [0]
end Go.Proofs.YtdhamoojccmbdaaGreatDoor
namespace Go.Vc
open Go Wl
def bj(l:List Int)(k:Nat):List Int:=((qC k).map fun i:Nat=>(i:Int)).filter fun i=>decide (0<l.getD i.toNat 0)
def eS(l:List Int):List Int×Bool:=
 if l.all (eV · 0 512)then(bj l l.length,decide (l.length<=64)&&decide (0<(bj l l.length).length))else([],false)
theorem FI(l:List Int)(k:Nat)(a:k<l.length):bj l (k+1)=bj l k++if 0<l[k]then[(k:Int)]else[]:=by
 unfold bj;rw[zI,qS,zk];congr 1;simp only[zT,vA,zp,yW,qo,qe,qd a,Option.getD_some];by_cases h:0<l[k]<;>simp[h]
theorem rl(l:List Int)(k:Nat):(bj l k).length<=k:=by
 unfold bj;exact q9 (qY _ _) (by simp)
end Go.Vc
namespace Go.Proofs.YtdhamoojccmbdaaGreatDoor
open Go Go.Vc Go.Proofs Wl
section
theorem nT(s:Sl)(l:List Int)(h:Heap)(m:Rd h s 1 aD l)(F:l.length<=2^20):
  ae xl Mc #[vY s.ptr s.len s.cap] h fun v h'=>∃r:Sl,v=.tuple #[vY r.ptr r.len r.cap,xf (eS l).2]/\Sp h h' [an aT r 1 aD (eS l).1]:=by
 refine Kw s ?_;unfold CO;have x:=m.len;have z:Sp h h [an aT ⟨none,0,0⟩ 1 aD (bj l 0)]:=(Sp.refl h).nil aT 1 aD;refine aw (fun t:Sl×Nat=>(t.1,(t.2:Int))) (fun t h'=>t.2<=l.length/\(l.take t.2).all (eV · 0 512)=true/\Sp h h' [an aT t.1 1 aD (bj l t.2)]) (fun t=>l.length-t.2) (⟨none,0,0⟩,0) rfl ⟨by simp,by simp,z⟩ ?_;rintro⟨o,i⟩ D ⟨B,c,d⟩;dsimp only at*;have f:∀(a:i<l.length),eV l[i] 0 512=false->eS l=([],false):=fun a g=>by
  unfold eS;rw[if_neg];intro p;have:=qM.1 p _ (qg a);rw[g]at this;cases this
 refine ak (fun e=>?_) (fun e=>?_)
 ·have a:i<l.length:=by omega
  have q:=rl l i;refine(Seq.up m d.ai).bz i rfl a l[i] rfl ?_;refine aX (ak (fun k=>?_) (fun k=>ak (fun e2=>?_) (fun e2=>?_)))
  ·have g:=f a (by unfold eV;simp;omega);rw[g];exact⟨⟨none,0,0⟩,rfl,(d.bO []).nil aT 1 aD⟩
  ·have g:=f a (by unfold eV;simp;omega);rw[g];exact⟨⟨none,0,0⟩,rfl,(d.bO []).nil aT 1 aD⟩
  ·have b:(l.take (i+1)).all (eV · 0 512)=true:=by
    rw[aJ l i a,yD,c,zU,vU,List.all_nil,Bool.and_true];unfold eV;simp;omega
   refine ak (fun y=>?_) (fun y=>?_)
   ·refine d.push af 0 rfl me rfl (by decide) (fun _=>rfl) jp (i:Int) rfl (by decide) (by omega) fun A E w=>?_;refine⟨(A,i+1),by dsimp only;rw[Go.Vc.wrap_small _ (by omega) (by omega)];rfl,⟨by dsimp only;omega,b,?_⟩,by dsimp only;omega⟩;dsimp only;rw[FI l i a,if_pos (by omega)];exact w
   ·refine⟨(o,i+1),by dsimp only;rw[Go.Vc.wrap_small _ (by omega) (by omega)];rfl,⟨by dsimp only;omega,b,?_⟩,by dsimp only;omega⟩;dsimp only;rw[FI l i a,if_neg (by omega),qQ];exact d
 ·have j:i=l.length:=by omega
  subst j;rw[qR]at c;have n:=(d.own 0 rfl).len;have u:eS l=(bj l l.length,decide (l.length<=64)&&decide (0<(bj l l.length).length)):=by unfold eS;rw[if_pos c]
  rw[u];refine ak (fun k=>⟨o,?_,d⟩) (fun k=>⟨o,?_,d⟩)
  ·dsimp only;rw[decide_eq_true (show l.length<=64 by omega),zU];congr 4;refine congrArg Value.bool ?_;rw[decide_eq_decide];omega
  ·dsimp only;rw[decide_eq_false (show¬l.length<=64 by omega),Bool.false_and]
end
section
variable {B:aA} {h0 h:Heap} {As:List HP} {a pw:Addr} {offs:Int} {da:List (Option Addr)} {w:Pow} {ds:aW}
theorem fA(x:cv)(m:aE)(f:ff h x m)(b:dp m)(H:aa B h0 h (bn bA a pw (aZ x) offs da w ds::As)):
  ae xl FO #[vZ (some a)] h fun v h'=>∃r:Sl,v=vY r.ptr r.len r.cap/\Sp h h' [an aT r 1 aD (bg ds m.drives)]:=by
 refine El (some a) ?_;unfold te;obtain⟨ok,d⟩:=aa.cI H;have c:=b.dr;refine bs (fun e=>by cases e) (fun _=>⟨a,rfl,x.2.2.2.2.2.2.1,d.cell rfl,(Na _ m.drives f.drives (by omega) H).mono ?_⟩);rintro _ i ⟨r,rfl,g⟩;exact⟨r,rfl,r,rfl,g⟩
end
end Go.Proofs.YtdhamoojccmbdaaGreatDoor
namespace Go.Vc
open Go Wl
def eF(w:Pow)(offs:Int):Bool:=w.off||w.offs !=offs
end Go.Vc
namespace Go.Proofs.YtdhamoojccmbdaaGreatDoor
open Go Go.Vc Go.Proofs Wl
section
variable {B:aA} {h0 h:Heap} {As:List HP} {a pw:Addr} {mc:List Value} {offs:Int} {da:List (Option Addr)} {w:Pow} {ds:aW}
theorem aa.afO(H:aa B h0 h (bn bA a pw mc offs da w ds::As)):∃l,MY w l/\cy h pw bD (powC w l):=by
 obtain⟨ok,e⟩:=Go.Vc.aa.Ad H;have b:=e.rest;obtain⟨l,c,d⟩:=aa.Dt b;exact⟨l,c,d.box 0 rfl⟩
theorem Dx(H:aa B h0 h (bn bA a pw mc offs da w ds::As)):
  ae xl FX #[vZ (some a)] h fun v h'=>v=xf (eF w offs)/\h'=h:=by
 refine Ew (some a) ?_;unfold tu;obtain⟨ok,f⟩:=aa.cI H;obtain⟨l,i,c⟩:=aa.afO H;have g:cellOf h (a.add 8)=some (vZ (some pw)):=f.cell (adE ok.l8);have d:cellOf h (a.add 9)=some (vX xh offs):=f.cell (YS ok.l8);refine bs (fun _=>?_) (fun e=>by cases e);refine⟨a,rfl,some pw,g,(Ja l c).mono ?_⟩;rintro _ _ ⟨rfl,rfl⟩;refine⟨_,rfl,trivial,bi (fun e=>⟨trivial,?_⟩) fun e=>?_⟩
 ·have b:w.off=true:=by simpa using e
  exact⟨by unfold eF;rw[b];rfl,rfl⟩
 ·have b:w.off=false:=by simpa using e
  refine⟨a,rfl,some pw,g,a,rfl,offs,d,(Qj l c).mono ?_⟩;rintro _ _ ⟨rfl,rfl⟩;exact⟨_,rfl,⟨d,trivial⟩,by unfold eF;rw[b];rfl,rfl⟩
end
end Go.Proofs.YtdhamoojccmbdaaGreatDoor
namespace Go.Vc
open Go Wl
section
variable {k:JU} {B:aA} {h0 h:Heap} {As:List HP} {a pw:Addr} {mc:List Value} {offs:Int} {w:Pow}
theorem aa.ahc(H:aa B h0 h As):∀n,aa B h0 h (qh n emp++As)
 |0=>H
 |n+1=>(((aa.ahc H n).comp (.one (A:=emp) (aU.refl _ _) trivial)).bM:aa B h0 h (emp::(qh n emp++As)))
theorem aa.abr(h8:mc.length=8)(H:aa B h0 h (aq a k.tS (dF mc pw offs (qh 64 none))::dR k.tP pw w::As)):aa B h0 h (bn k a pw mc offs (qh 64 none) w (qh 64 none)::As):=by
 have ok:gZ mc (qh 64 none) (qh 64 (none:Option bC)):=⟨h8,by simp,by simp,fun i=>by
  simp only[qe,zY];split<;>rfl⟩
 have f:iX k pw (qh 64 none) (qh 64 (none:Option bC))=qh 64 emp:=by
  simp[iX,aha]
 refine aa.Bx ok ?_;rw[f];have e:=aa.ahc H 64;refine e.pick (fun i=>if i=0 then 64 else if i=1 then 65 else if i<66 then i-2 else i) (fun x y b=>by(try dsimp only at b);split at b<;>split at b<;>(try split at b)<;>(try split at b)<;>(try split at b)<;>(try split at b)<;>omega) fun i A d=>?_;rcases i with _|_|i
 ·simpa using d
 ·simpa using d
 ·by_cases g:i<64
  ·have c:(qh 64 emp++As)[i]?=some A:=d;rw[qn (by simpa using g)]at c
   try dsimp only
   rw[if_neg (by omega),if_neg (by omega),if_pos (by omega),qn (by simp;omega)];simpa using c
  ·have c:(qh 64 emp++As)[i]?=some A:=d;rw[qj (by simp;omega)]at c
   try dsimp only
   rw[if_neg (by omega),if_neg (by omega),if_neg (by omega),qj (by simp;omega)];simp only[yz]at c⊢;obtain⟨j,rfl⟩:∃j,i=j+64:=⟨i-64,by omega⟩
   have e2:j+64+1+1-64=j+1+1:=by omega
   rw[e2];simpa using c
end
end Go.Vc
namespace Go.Proofs.YtdhamoojccmbdaaGreatDoor
open Go Go.Vc Go.Proofs Wl
section
theorem abs(x:cv)(pw:Addr)(offs:Int):aI xl (vI fS #[(0,go x),(1,vZ (some pw)),(2,vX xh offs)]) (xg (dF (aZ x) pw offs (qh 64 none)).toArray):=
 Gt af (i:=_) rfl rfl rfl (vs:=[(0,go x),(1,vZ (some pw)),(2,vX xh offs)]) (cells:=(dF (aZ x) pw offs (qh 64 none)).toArray) (by kernel_rfl)
end
end Go.Proofs.YtdhamoojccmbdaaGreatDoor
namespace Go.Vc
open Go Wl
section
variable {k:JU} {B:aA} {h0 h:Heap} {As:List HP} {a pw b:Addr} {mc:List Value} {offs:Int} {da:List (Option Addr)} {w:Pow} {ds:aW} {d:bC} {n:Nat}
theorem abt(h8:mc.length=8):(dF mc pw offs da).set (10+n) (vZ (some b))=dF mc pw offs (da.set n (some b)):=by
 unfold dF;rw[zh _ _ (by omega),h8,show 10+n-8=n+1+1 by omega,wD,wD,List.map_set]
theorem aa.afP(ok:gZ mc da ds)(I:n<64)(u:ds[n]?=some none)(H:aa B h0 h (aq a k.tS (dF mc pw offs (da.set n (some b)))::dR k.tP pw w::(iX k pw da ds++(lC k.tD (k.f pw) b d::As)))):aa B h0 h (bn k a pw mc offs (da.set n (some b)) w (ds.set n (some d))::As):=by
 have q:=ok.abm I u;have s:=ok.la;have t:=ok.ls;have o:gZ mc (da.set n (some b)) (ds.set n (some d)):=⟨ok.l8,by simp[s],by simp[t],fun i=>by
  by_cases c:n=i
  ·subst c;rw[qe,qe,zA (by omega),zA (by omega)];rfl
  ·have:=ok.same i;rw[qe,qe]at this⊢;rw[z7 c,z7 c];exact this⟩
 have m:=Uh (k:=k) (pw:=pw) ok;have x:(iX k pw da ds)[n]?=some emp:=by
  simp only[iX,wO,q,u];rfl
 have l:iX k pw (da.set n (some b)) (ds.set n (some d))=(iX k pw da ds).set n (lC k.tD (k.f pw) b d):=by
  apply zK;intro j;simp only[iX,q8,wO,List.length_zipWith];by_cases g:n=j
  ·subst g;rw[if_pos rfl,if_pos (by omega),if_pos rfl,if_pos (by omega),if_pos rfl,if_pos (by omega)];rfl
  ·simp[g]
 refine aa.Bx o ?_;rw[l];obtain⟨L,r⟩:∃L,L=iX k pw da ds:=⟨_,rfl⟩
 rw[<-r]at H x m⊢;have v:=H.cons (L.length+2) (A:=lC k.tD (k.f pw) b d) (by
  rw[qy,qy,qj (ql _),zj];rfl)
 have e:(aq a k.tS (dF mc pw offs (da.set n (some b)))::dR k.tP pw w::(L++(lC k.tD (k.f pw) b d::As))).set (L.length+2) emp=aq a k.tS (dF mc pw offs (da.set n (some b)))::dR k.tP pw w::(L++(emp::As)):=by
  rw[wD,wD,zh _ _ (ql _),zj];rfl
 rw[e]at v;have F:=v.bo 3 [0,2,1];have p:L.set n emp=L:=by
  obtain⟨z,y⟩:=qm.1 x
  conv=>lhs;rw[<-y]
  exact List.set_getElem_self z
 have D:aa B h0 h (lC k.tD (k.f pw) b d::dR k.tP pw w::aq a k.tS (dF mc pw offs (da.set n (some b)))::(L.set n emp++(emp::As))):=by rw[p];exact F
 have E:=aa.Xw n (by omega) D;have G:=aa.closeAll (aq a k.tS (dF mc pw offs (da.set n (some b)))::dR k.tP pw w::L.set n (lC k.tD (k.f pw) b d)) E;exact aa.CE (L:=aq a k.tS (dF mc pw offs (da.set n (some b)))::dR k.tP pw w::L.set n (lC k.tD (k.f pw) b d)) G.II
end
open Go Wl Go.Proofs.YtdhamoojccmbdaaGreatDoor
def ce(p:Pm)(extra:Int)(l:List Int):aE:=⟨1,0,p,extra,bj l l.length,[]⟩
def gK(l:List Int)(k:Nat):aW:=(qC 64).map fun i:Nat=>if(i:Int)∈(bj l l.length).take k then some (bC.new (l.getD i 0).toNat)else none
def eT(p:Pm)(extra:Int)(w:Pow)(l:List Int):Int×Pow×aW:=
 if(eS l).2&&(bJ p&&eV extra 0 16)then
  if(bj l l.length).any fun i=>decide (l.getD i.toNat 0<((be (ce p extra l)).length:Int))then(7,w,[])
  else layAll (bx (ce p extra l) (bj l l.length)) w (gK l (bj l l.length).length)
 else(1,w,[])
theorem Um(l:List Int):gK l 0=qh 64 none:=by
 unfold gK;rw[vO];apply zK;intro j;simp only[qP,zY,zt,List.not_mem_nil,if_false];by_cases h:j<64
 ·simp[h,zt]
 ·simp[h]
theorem Wj(l:List Int)(k:Nat):(gK l k).length=64:=by simp[gK]
theorem Un(l:List Int)(k n:Nat)(d:k<(bj l l.length).length)(e:(bj l l.length)[k]=(n:Int))(b:n<64):(gK l k).set n (some (bC.new (l.getD n 0).toNat))=gK l (k+1):=by
 apply zK;intro j;unfold gK;rw[aJ _ _ d,e,q8,qx,zw];by_cases c:j<64
 ·simp only[qP,zt c,qN,qB,qH];by_cases a:n=j
  ·subst a;rw[if_pos rfl,if_pos b,if_pos (Or.inr rfl)]
  ·rw[if_neg a];have:¬(j:Int)=(n:Int):=by omega
   simp only[this,or_false]
 ·rw[if_neg (by omega)];rw[zf (by simp;omega),zf (by simp;omega)]
theorem Af(l:List Int)(k:Nat)(x:Int):x∈bj l k↔∃n:Nat,n<k/\x=(n:Int)/\0<l.getD n 0:=by
 unfold bj;rw[qI,qu];constructor
 ·rintro⟨⟨n,b,rfl⟩,a⟩;exact⟨n,qF.1 b,rfl,by simpa using a⟩
 ·rintro⟨n,b,rfl,a⟩;exact⟨⟨n,qF.2 b,rfl⟩,by simpa using a⟩
theorem Wk(l:List Int)(k i:Nat)(a:i<(bj l k).length):∃n:Nat,n<k/\(bj l k)[i]=(n:Int)/\0<l.getD n 0:=(Af l k _).1 (qg a)
end Go.Vc
namespace Wl
open Go
def dv(p:Int×Int×Int):Nat:=(p.1*p.2.2).toNat
def uW(a:Nat)(b:List UInt8)(i:Nat):List UInt8:=(b.drop (i*a)).take a++(qh a 0).drop (b.drop (i*a)).length
theorem Ic(a:Nat)(b:List UInt8)(i:Nat):(uW a b i).length=a:=by unfold uW;simp;omega
def bm(p:Int×Int×Int)(b:List UInt8):List (List UInt8):=(qC (countP p b.length).toNat).map (uW (dv p) b)
def Ng(p:Int×Int×Int)(o b:Int)(n:Nat):Bool:=fR p (cJ o b n) (eI p)
def rm(p:Int×Int×Int)(o b:Int):Option Nat:=(qC 16).find? (Ng p o b)
def cz(p:Int×Int×Int)(o:Int):Nat->Option (List Int)
 |0=>some []
 |n+1=>(cz p o n).bind fun l=>(rm p o n).map fun t=>l++[(t:Int)]
theorem im{p:Int×Int×Int}{o:Int}:∀{n:Nat} {l:List Int},cz p o n=some l->l.length=n
 |0,l,h=>by cases h;rfl
 |n+1,l,h=>by
  unfold cz at h;cases h1:cz p o n with
  |none=>rw[h1]at h;cases h
  |some k=>
   rw[h1]at h;cases h2:rm p o n with
   |none=>rw[h2]at h;cases h
   |some t=>
    rw[h2]at h;have h:some (k++[(t:Int)])=some l:=h;injection h with h
    rw[<-h,qw,im h1];rfl
theorem Ie{p:Int×Int×Int}{o b:Int}{t:Nat}(h:rm p o b=some t):t<16/\Ng p o b t=true/\∀k,k<t->Ng p o b k=false:=by
 unfold rm at h;obtain⟨e,us,vs,c,h3⟩:=wL.1 h;have d:=congrArg y6 c;have f:t=us.length:=by
  have:(qC 16)[us.length]?=some t:=by rw[c,qj (ql _),zj];rfl
  rw[zt (by simp at d;omega)]at this;injection this with this;exact this.symm
 refine⟨by simp at d;omega,e,fun k g=>?_⟩;have a:k∈us:=by
  have:(qC 16)[k]?=us[k]?:=by rw[c,qn (by omega)]
  rw[zt (by simp at d;omega)]at this;exact ye this.symm
 simpa using h3 k a
theorem By{p:Int×Int×Int}{o:Int}:∀{n:Nat} {l:List Int},cz p o n=some l->∀i (b:i<l.length),∃t:Nat,l[i]=(t:Int)/\rm p o i=some t
 |0,l,h=>by cases h;intro i b;simp at b
 |n+1,l,h=>by
  unfold cz at h;cases h1:cz p o n with
  |none=>rw[h1]at h;cases h
  |some k=>
   rw[h1]at h;cases h2:rm p o n with
   |none=>rw[h2]at h;cases h
   |some t=>
    rw[h2]at h;have h:some (k++[(t:Int)])=some l:=h;injection h with h
    subst h;intro i b;have c:=im h1;by_cases a:i<k.length
    ·rw[ya a];exact By h1 i a
    ·have:i=k.length:=by simp at b;omega
     subst this;refine⟨t,by simp,?_⟩;rw[c];exact h2
end Wl
namespace Go.Proofs.YtdhamoojccmbdaaGreatDoor
open Go Go.Vc Go.Proofs Wl
theorem If(p:Pm)(h:Heap)(d:bJ p=true):ae xl Rb #[kA p] h fun v h'=>v=vX xh (dv p)/\Sp h h' []:=by
 have c:=(bK p).1 d;refine CW p ?_;unfold xR;refine(Sp.refl h).boxed fun e h3 a=>⟨p.1,(a.box 0 rfl).cell0 rfl,p.2.2,(a.box 0 rfl).cell rfl,?_,a.bO []⟩
 have f:p.1*p.2.2<=16*24:=wi (by omega) (by omega) (by omega) (by omega);have b:0<=p.1*p.2.2:=y9 (by omega) (by omega);rw[Go.Vc.wrap_small _ (by omega) (by omega)];unfold dv;congr 1;omega
theorem kT{p:Pm}(b:bJ p=true):1<=dv p/\dv p<=384/\(dv p:Int)=p.1*p.2.2:=by
 have c:=(bK p).1 b;have d:p.1*p.2.2<=16*24:=wi (by omega) (by omega) (by omega) (by omega);have a:0<p.1*p.2.2:=vR (by omega) (by omega);unfold dv;omega
theorem lO{p:Pm}(a:bJ p=true)(n:Nat):0<=countP p n/\countP p n<=n/\∀i:Nat,(i:Int)<countP p n->i*dv p<n:=by
 obtain⟨d,h,b⟩:=kT a;unfold countP;rw[a,zU];by_cases h0:0<(n:Int)
 ·rw[decide_eq_true h0,if_pos rfl,<-b];have g:((n:Int)-1)/(dv p:Int)<=n-1:=Int.ediv_le_self _ (by omega);have f:0<=((n:Int)-1)/(dv p:Int):=Int.ediv_nonneg (by omega) (by omega);refine⟨by omega,by omega,fun i c=>?_⟩;have h3:(i:Int)<=((n:Int)-1)/(dv p:Int):=by omega
  have e:=(Int.le_ediv_iff_mul_le (by omega)).1 h3;have j:((i*dv p:Nat):Int)=(i:Int)*(dv p:Int):=wh i (dv p);omega
 ·rw[decide_eq_false h0,if_neg (by decide)];exact⟨by omega,by omega,fun i c=>by omega⟩
theorem Wm(p:Pm)(s:Sl)(b:List UInt8)(h:Heap)(f:bJ p=true)(q:Rd h s 1 aB b)(A:s.len<=s.cap)(V:b.length<=2^30):ae xl OB #[kA p,vY s.ptr s.len s.cap] h fun v h'=>∃r:Sl,v=vY r.ptr r.len r.cap/\Sp h h' [dV r (bm p b)]:=by
 refine Mn p s ?_;unfold Fm;have d:=q.len;obtain⟨Y,Q,W⟩:=kT f;obtain⟨R,S,c3⟩:=lO f b.length;refine(Sp.refl h).boxed fun k z m=>?_;refine⟨p,(m.box 0 rfl).aO _ rfl,?_⟩;refine(rj p s.len z (by omega)).mono ?_;rintro _ y ⟨rfl,L⟩;have J:=m.up L.ai;refine⟨_,rfl,?_⟩;obtain⟨n,N⟩:∃n:Nat,n=(countP p b.length).toNat:=⟨_,rfl⟩
 have c:(countP p (s.len:Nat))=(n:Int):=by rw[d];omega
 rw[c];have B:(bm p b).length=n:=by unfold bm;rw[<-N];simp
 have a:Sp h y [dV ⟨none,0,0⟩ ((bm p b).take 0),aq k aP [vX xh p.1,vX xh p.2.1,vX xh p.2.2]]:=J.Gy aH aC 1 aB;refine aw (fun t:Sl×Nat=>(t.1,(t.2:Int))) (fun t h'=>t.2<=n/\Sp h h' [dV t.1 ((bm p b).take t.2),aq k aP [vX xh p.1,vX xh p.2.1,vX xh p.2.2]]) (fun t=>n-t.2) (⟨none,0,0⟩,0) rfl ⟨by simp,a⟩ ?_;rintro⟨o,i⟩ h3 ⟨O,a⟩;dsimp only at*;refine ak (fun e=>?_) (fun e=>?_)
 ·have F:i<n:=by omega
  have G:=c3 i (by rw[<-d,c];omega);refine⟨p,(a.box 1 rfl).aO _ rfl,(If p h3 f).mono ?_⟩;rintro _ U ⟨rfl,I⟩;have H:=a.up I.ai;refine⟨_,rfl,H.LA af aB fX (by decide) (0:UInt8) rfl rfl (dv p) (dv p) rfl rfl (ql _) (by omega) fun v D X P g=>?_⟩;have g:=g.bM;refine⟨p,(g.box 2 rfl).aO _ rfl,(If p D f).mono ?_⟩;rintro _ T ⟨rfl,w⟩;have l:=g.up w.ai;refine⟨_,rfl,?_⟩;have em:qc xh ((i:Int)*(dv p:Int))=((i*dv p:Nat):Int):=by
   rw[<-wh,Go.Vc.wrap_small _ (by omega) (by omega)]
  dsimp only;rw[em,qo];refine⟨⟨by omega,by omega⟩,?_⟩;have x:=(Seq.up q l.ai).drop (i*dv p) A;refine l.Lv af 0 rfl fX (fun _=>rfl) (v:=⟨_,s.len-i*dv p,s.cap-i*dv p⟩) x gp fun _ u j=>?_;have j:Sp h u [an aC v 1 aB (uW (dv p) b i),dV o ((bm p b).take i),aq k aP [vX xh p.1,vX xh p.2.1,vX xh p.2.2]]:=by
   simpa[uW]using j
  refine(j.bo 2 [1,0]).IK af fJ (by simp;omega) fun M h8 E=>?_;refine⟨(M,i+1),by dsimp only;rw[Go.Vc.wrap_small _ (by omega) (by omega)];rfl,⟨by dsimp only;omega,?_⟩,by dsimp only;omega⟩;dsimp only;rw[aJ _ _ (show i<(bm p b).length by omega)];have K:(bm p b)[i]'(by omega)=uW (dv p) b i:=by simp[bm]
  rw[K];exact E
 ·rw[qi (by omega)]at a;exact⟨o,rfl,a.bO [0]⟩
theorem rn(a b:UInt8):qc xi ((qA (qk xi) (a.toNat:Int)^^^qA (qk xi) (b.toNat:Int)).toNat:Nat)=((a^^^b).toNat:Int):=by
 have e:∀a:UInt8,qA (qk xi) (a.toNat:Int)=a.toBitVec:=fun a=>by
  apply BitVec.eq_of_toNat_eq;have:=wP a;simp[qk]
 rw[e,e];have c:=(a.toBitVec^^^b.toBitVec).isLt;have:((a^^^b).toNat:Int)=((a.toBitVec^^^b.toBitVec).toNat:Int):=rfl;rw[this];show(((a.toBitVec^^^b.toBitVec).toNat:Nat):Int)%256=_;have:(a.toBitVec^^^b.toBitVec).toNat<256:=c;omega
def tri(a:UInt8):Nat->Int×Int×Int
 |0=>((a.toNat:Int),(3:Int),(0:Int))
 |1=>(((Gf.x2 a).toNat:Int),(1:Int),(a.toNat:Int))
 |_=>(((Gf.x2 (Gf.x2 a)).toNat:Int),(0:Int),((Gf.x3 a).toNat:Int))
theorem Wn(a:UInt8)(h:Heap):ae xl VZ #[vX xi a.toNat,vX xi 3] h fun v h'=>v=vX xi (Gf.x3 a).toNat/\h'=h:=by
 have e:∀n:Nat,n<256->
   ((qc xi ((qA (qk xi) (n:Int)&&&(qA (qk xi) (128:Int))).toNat:Nat)) !=(0:Int))=true->qc xi ((qA (qk xi) (qc xi ((n:Int)*2^min (1:Int).toNat (qk xi)))^^^(qA (qk xi) (27:Int))).toNat:Nat)=((Gf.x2 (yq n)).toNat:Int):=by decide+kernel
 have c:∀n:Nat,n<256->
   ((qc xi ((qA (qk xi) (n:Int)&&&(qA (qk xi) (128:Int))).toNat:Nat)) !=(0:Int))=false->qc xi ((n:Int)*2^min (1:Int).toNat (qk xi))=((Gf.x2 (yq n)).toNat:Int):=by decide+kernel
 refine TZ _ _ ?_;unfold MR;refine aw (tri a) (fun t h'=>h'=h/\t<=2) (fun t=>2-t) 0 rfl ⟨rfl,by omega⟩ ?_;rintro t h' ⟨rfl,f⟩;rcases(show t=0∨t=1∨t=2 by omega)with rfl|rfl|rfl
 ·rw[show tri a 0=((a.toNat:Int),(3:Int),(0:Int))from rfl];dsimp only;refine DO (by decide) (aX (NV (by decide) ?_));refine⟨by decide,aX ?_⟩;refine bs (fun d=>?_) (fun d=>?_)
  ·rw[e _ (wP a) d,yG];refine⟨by decide,1,?_,⟨rfl,by decide⟩,by decide⟩;have:=rn 0 a;simp only[wg]at this;exact yT rfl (yT rfl this)
  ·rw[c _ (wP a) d,yG];refine⟨by decide,1,?_,⟨rfl,by decide⟩,by decide⟩;have:=rn 0 a;simp only[wg]at this;exact yT rfl (yT rfl this)
 ·rw[show tri a 1=(((Gf.x2 a).toNat:Int),(1:Int),(a.toNat:Int))from rfl];dsimp only;refine DO (by decide) (aX (NV (by decide) ?_));refine⟨by decide,aX ?_⟩;refine bs (fun d=>?_) (fun d=>?_)
  ·rw[e _ (wP (Gf.x2 a)) d,yG];refine⟨by decide,2,?_,⟨rfl,by decide⟩,by decide⟩;refine yT rfl (yT rfl ?_);have:=rn a (Gf.x2 a);rw[vz]at this;exact this
  ·rw[c _ (wP (Gf.x2 a)) d,yG];refine⟨by decide,2,?_,⟨rfl,by decide⟩,by decide⟩;refine yT rfl (yT rfl ?_);have:=rn a (Gf.x2 a);rw[vz]at this;exact this
 ·exact NV (b:=(0:Int)==0) (by decide) ⟨rfl,rfl⟩
def iZ:List Int:=(qC 255).map fun i=>((Gf.pw i).toNat:Int)
def su:List Int:=(qC 256).map fun x=>if x=0 then 0 else((Gf.lg (yq x):Nat):Int)
theorem gH:iZ.length=255:=by simp[iZ]
theorem Ag:su.length=256:=by simp[su]
def dq:List Value:=iZ.map (Sc.enc (.int .u8))++su.map (Sc.enc (.int .i64))
abbrev gI(h:Heap)(a:Addr):Prop:=cy h a gC dq
theorem Pp(k:IntKind)(l:List Int):(l.map (Sc.enc (.int k))).all (·.oneCell')=true:=by
 rw[List.all_map,qM];intro x _;rfl
theorem Wo(h:Heap):ae xl TU #[] h fun v h'=>v=xg (iZ.map (Sc.enc (.int .u8))).toArray/\Sp h h' []:=by
 refine Rw ?_;unfold JR;refine(Sp.refl h).alloc af rfl fun a s o=>?_;refine aw (fun i:Nat=>(((Gf.pw i).toNat:Int),(i:Int))) (fun i h'=>i<=255/\Sp h h' [aq a VD (((qC 255).map fun j=>if j<i then((Gf.pw j).toNat:Int)else 0).map (Sc.enc (.int .u8)))]) (fun i=>255-i) 0 rfl ⟨by omega,?_⟩ ?_
 ·have e:((qC 255).map fun j=>if j<0 then((Gf.pw j).toNat:Int)else 0).map (Sc.enc (.int .u8))=qh 255 (vX xi 0):=by simp;rfl
  rw[e];exact o
 ·rintro i r ⟨q,g⟩;refine ak (fun l=>?_) (fun m=>?_)
  ·dsimp only at l;refine⟨⟨by dsimp only;omega,by dsimp only;omega⟩,?_⟩;dsimp only;rw[show((i:Int).toNat*1)=i by omega];refine g.storeAt af 0 rfl rfl rfl rfl rfl (by simp;omega) fun h3 f=>?_;refine(Wn (Gf.pw i) h3).mono ?_;rintro v t ⟨rfl,rfl⟩;refine⟨_,rfl,i+1,?_,⟨by omega,?_⟩,by omega⟩
   ·rw[wrap_small _ (by omega) (by omega)];rfl
   ·have e:((((qC 255).map fun j=>if j<i then((Gf.pw j).toNat:Int)else 0).map (Sc.enc (.int .u8))).set i (vX xi (Gf.pw i).toNat))=(((qC 255).map fun j=>if j<i+1 then((Gf.pw j).toNat:Int)else 0).map (Sc.enc (.int .u8))):=by
     apply zK;intro j;simp only[q8,qP,qx,zw];by_cases c:i=j
     ·subst c;have:i<255:=by omega
      simp[this]
     ·by_cases d:j<255
      ·simp only[c,if_false,zt d,qN];by_cases b:j<i
       ·rw[if_pos b,if_pos (by omega)]
       ·rw[if_neg b,if_neg (by omega)]
      ·simp[c,d]
    rw[<-e];exact f
  ·have k:i=255:=by dsimp only at m;omega
   subst k;have e:((qC 255).map fun j=>if j<255 then((Gf.pw j).toNat:Int)else 0)=iZ:=by
    unfold iZ;apply List.map_congr_left;intro j c;rw[if_pos (qF.1 c)]
   rw[e]at g;have p:=g.box 0 rfl;refine⟨iZ,⟨gH,p.aO _ (by rw[qi (ql _)])⟩,?_⟩;refine g.storeAll af 0 rfl rfl (iZ.map (Sc.enc (.int .u8))) rfl (by rw[qx,gH]) (Pp _ _) rfl fun h3 f=>?_;have n:=f.box 0 rfl;exact⟨iZ,⟨gH,n.aO _ (by rw[qi (ql _)])⟩,rfl,.zip f.ai⟩
theorem abu(h:Heap):ae xl YK #[xg (iZ.map (Sc.enc (.int .u8))).toArray] h fun v h'=>v=xg (su.map (Sc.enc (.int .i64))).toArray/\Sp h h' []:=by
 refine VV iZ ?_;unfold Qh;refine(Sp.refl h).boxed fun a D y=>?_;refine y.alloc af rfl fun s B q=>?_;have n:=q.box 0 rfl;refine⟨iZ,⟨gH,n.aO _ (by show List.take _ (iZ.map _)=_;rw[qi (ql _)])⟩,?_⟩;let L:Nat->List Int:=fun i=>(qC 256).map fun x=>if x≠0/\Gf.lg (yq x)<i then((Gf.lg (yq x):Nat):Int)else 0
 refine aw (fun i:Nat=>(i:Int)) (fun i h'=>i<=255/\Sp h h' [emp,aq s abb ((L i).map (Sc.enc (.int .i64)))]) (fun i=>255-i) 0 rfl ⟨by omega,?_⟩ ?_
 ·have e:(L 0).map (Sc.enc (.int .i64))=qh 256 (vX xh 0):=by simp[L];rfl
  rw[e];exact q.gq 0 rfl fun _ _=>trivial
 ·rintro i h3 ⟨A,g⟩;refine ak (fun t=>?_) (fun u=>?_)
  ·have c:i<255:=by omega
   have p:=wP (Gf.pw i);refine⟨((Gf.pw i).toNat:Int),⟨by omega,by omega,by simp[iZ,c]⟩,⟨by omega,by omega⟩,?_⟩;rw[show(((Gf.pw i).toNat:Int).toNat*1)=(Gf.pw i).toNat by omega];refine g.storeAt af 1 rfl rfl rfl rfl rfl (by simp[L];omega) fun w k=>?_;refine⟨i+1,by rw[wrap_small _ (by omega) (by omega)];rfl,⟨by omega,?_⟩,by omega⟩;have e:((L i).map (Sc.enc (.int .i64))).set (Gf.pw i).toNat (vX xh i)=(L (i+1)).map (Sc.enc (.int .i64)):=by
    apply zK;intro j;simp only[q8,qP,qx,zw,L];by_cases f:(Gf.pw i).toNat=j
    ·subst f;simp only[if_true,zt p,qN,p];have l:(Gf.pw i).toNat≠0:=fun h0=>Gf.Yb i c (yl.1 h0);rw[yG,Gf.Ya i c,if_pos ⟨l,by omega⟩]
    ·by_cases d:j<256
     ·simp only[f,if_false,zt d,qN];by_cases b:j=0
      ·simp[b]
      ·have E:Gf.lg (yq j)≠i:=fun h0=>by
        apply f;rw[<-h0,Gf.XZ _ (fun z=>b (by have:=congrArg UInt8.toNat z;simpa[vb d]using this))];simp[vb d]
       by_cases o:Gf.lg (yq j)<i
       ·rw[if_pos ⟨b,o⟩,if_pos ⟨b,by omega⟩]
       ·rw[if_neg fun r=>o r.2,if_neg fun r=>o (by omega)]
     ·simp[f,d]
   rw[<-e];exact k
  ·have c:i=255:=by omega
   subst c;have e:L 255=su:=by
    unfold su;apply List.map_congr_left;intro j f;by_cases b:j=0
    ·simp[b]
    ·rw[if_pos ⟨b,Gf.LC _⟩,if_neg b]
   rw[e]at g;have n:=g.box 1 rfl;refine⟨su,⟨Ag,n.aO _ (by rw[qi (ql _)])⟩,?_⟩;refine g.storeAll af 1 rfl rfl (su.map (Sc.enc (.int .i64))) rfl (by rw[qx,Ag]) (Pp _ _) rfl fun w k=>?_;have m:=k.box 1 rfl;exact⟨su,⟨Ag,m.aO _ (by rw[qi (ql _)])⟩,rfl,.zip k.ai⟩
theorem uX(h:Heap):ae xl abc #[] h fun v h'=>∃a:Addr,v=vZ (some a)/\Sp h h' [aq a gC dq]:=by
 refine YG ?_;unfold TK;refine(Wo h).mono ?_;rintro v s ⟨rfl,p⟩;refine⟨iZ,rfl,?_⟩;refine p.alloc af rfl fun a r o=>?_;refine o.storeAll af 0 rfl rfl (iZ.map (Sc.enc (.int .u8))) rfl (by rw[qx,gH]) (Pp _ _) (by rw[qx,gH];rfl) fun h3 g=>?_;have l:=g.box 0 rfl;have c:aj h3 a 0 (iZ.map (Sc.enc (.int .u8))):=l.aO _ (by rw[qi (ql _)]);refine⟨iZ,⟨gH,c⟩,iZ,⟨gH,c⟩,?_⟩;refine(abu h3).mono ?_;rintro v u ⟨rfl,j⟩;refine⟨su,rfl,nU.2 ⟨(j.ai).cells l.lt c,trivial⟩,_,Gt af (i:=_) rfl rfl rfl (cells:=dq.toArray) ?_,?_⟩
 ·have b:∀z:List Value,z.length=511->wu (fun n=>[(0,255),(255,256)][n]?) z.toArray [(0,xg (iZ.map (Sc.enc (.int .u8))).toArray),(1,xg (su.map (Sc.enc (.int .i64))).toArray)]=some dq.toArray:=by
   intro z b;have e:z=[]++z.take 255++z.drop 255:=by simp
   conv=>lhs;rw[e]
   rw[Sx (vs:=iZ.map (Sc.enc (.int .u8))) rfl (by simp[gH]) (by simp[gH,b])];have e2:[]++iZ.map (Sc.enc (.int .u8))++z.drop 255=iZ.map (Sc.enc (.int .u8))++z.drop 255++[]:=by simp
   rw[e2,Sx (vs:=su.map (Sc.enc (.int .i64))) rfl (by simp[gH,Ag]) (by simp[Ag,b])];simp[wu,dq]
  exact b _ rfl
 ·have m:(Value.agg dq.toArray).cells.toList=dq:=rfl;refine(g.comp j).boxed fun q t k=>?_;have d:=k.box 0 rfl;exact⟨nU.2 ⟨d.aO _ (by rw[qi (ql _)]),trivial⟩,q,rfl,k.take 1 (fun i A f=>by cases i with|zero=>exact f|succ i=>simp at f)⟩
theorem Ig{h:Heap}{a:Addr}(c:gI h a)(n:Nat)(b:n<255):cellOf h (a.add n)=some (vX xi (Gf.pw n).toNat):=
 c.cell (by rw[dq,qn (by simp[gH,b])];simp[iZ,b])
theorem Ih{h:Heap}{a:Addr}(c:gI h a)(x:UInt8)(f:x≠0):cellOf h ((a.add 255).add x.toNat)=some (vX xh (Gf.lg x)):=by
 have d:=c.addr;have e:(a.add 255).add x.toNat=a.add (255+x.toNat):=by rw[d,add_eq,add_eq,add_eq];congr 1;omega
 rw[e];refine c.cell ?_;have b:=wP x;have h0:x.toNat≠0:=fun h0=>f (yl.1 h0);rw[dq,qj (by simp[gH])];simp[gH,su,b,h0]
theorem sv(a:Addr)(h:Heap):ae xl MV #[vZ (some a)] h fun v h'=>v=vZ (some a)/\h'=h:=by
 refine KO (some a) ?_;unfold Dr;exact DO rfl ⟨rfl,rfl⟩
theorem uh(a:Addr)(h:Heap):ae xl VT #[vZ (some a)] h fun v h'=>v=vZ (some a)/\h'=h:=by
 refine TS (some a) ?_;unfold MJ;exact DO rfl ⟨rfl,rfl⟩
theorem RF(a:Addr)(h:Heap):ae xl Wb #[vZ (some a)] h fun v h'=>v=vZ (some a)/\h'=h:=by
 refine Ub (some a) ?_;unfold MX;exact DO rfl ⟨rfl,rfl⟩
theorem EG{x:UInt8}:((x.toNat:Int)=0)↔x=0:=⟨fun h=>yl.1 (by simpa using h),fun h=>by rw[h];rfl⟩
theorem KY(a:Addr)(x y:UInt8)(h:Heap)(d:gI h a):ae xl Bw #[vZ (some a),vX xi x.toNat,vX xi y.toNat] h fun v h'=>v=vX xi (Gf.mul x y).toNat/\h'=h:=by
 refine KL (some a) _ _ ?_;unfold Dm;refine aX ?_;refine cw (fun h0=>⟨by rw[Gf.mul,if_pos (.inl (EG.1 h0))];rfl,rfl⟩) (fun i=>?_);refine cw (fun h0=>⟨by rw[Gf.mul,if_pos (.inr (EG.1 h0))];rfl,rfl⟩) (fun g=>?_);have b:x≠0:=fun h0=>i (EG.2 h0);have c:y≠0:=fun h0=>g (EG.2 h0);refine(sv a h).mono ?_;rintro v j ⟨rfl,rfl⟩;have k:=wP x;have l:=wP y;have l1:=Gf.LC x;have l2:=Gf.LC y;refine⟨some a,rfl,a,rfl,⟨by omega,by omega⟩,(Gf.lg x:Int),?_,a,rfl,⟨by omega,by omega⟩,(Gf.lg y:Int),?_,by decide,a,rfl,?_⟩
 ·rw[show((x.toNat:Int).toNat*1)=x.toNat by omega];exact Ih d x b
 ·rw[show((y.toNat:Int).toNat*1)=y.toNat by omega];exact Ih d y c
 rw[wrap_small _ (by omega) (by omega)];have e:zX ((Gf.lg x:Int)+(Gf.lg y:Int)) 255=(((Gf.lg x+Gf.lg y)%255:Nat):Int):=by
  rw[yx (by omega)];rfl
 rw[e];have f:=yJ (Gf.lg x+Gf.lg y) (show 255>0 by decide);refine⟨⟨by omega,by omega⟩,_,?_,by rw[Gf.mul,if_neg (by simp[b,c])],rfl⟩;rw[show((((Gf.lg x+Gf.lg y)%255:Nat):Int).toNat*1)=(Gf.lg x+Gf.lg y)%255 by omega];exact Ig d _ f
theorem adJ(a:Addr)(x:UInt8)(h:Heap)(d:gI h a):ae xl MP #[vZ (some a),vX xi x.toNat] h fun v h'=>v=vX xi (Gf.inv x).toNat/\h'=h:=by
 refine KM (some a) _ ?_;unfold Dn;refine cw (fun h0=>⟨by rw[Gf.inv,if_pos (EG.1 h0)];rfl,rfl⟩) (fun f=>?_);have b:x≠0:=fun h0=>f (EG.2 h0);refine(sv a h).mono ?_;rintro v i ⟨rfl,rfl⟩;have g:=wP x;have l1:=Gf.LC x;refine⟨some a,rfl,a,rfl,⟨by omega,by omega⟩,(Gf.lg x:Int),?_,by decide,a,rfl,?_⟩
 ·rw[show((x.toNat:Int).toNat*1)=x.toNat by omega];exact Ih d x b
 rw[wrap_small _ (by omega) (by omega)];have e:zX (255-(Gf.lg x:Int)) 255=(((255-Gf.lg x)%255:Nat):Int):=by
  rw[yx (by omega)];omega
 rw[e];have c:=yJ (255-Gf.lg x) (show 255>0 by decide);refine⟨⟨by omega,by omega⟩,_,?_,by rw[Gf.inv,if_neg b],rfl⟩;rw[show((((255-Gf.lg x)%255:Nat):Int).toNat*1)=(255-Gf.lg x)%255 by omega];exact Ig d _ c
theorem adK(a:Addr)(n:Int)(h:Heap)(g:gI h a):ae xl MT #[vZ (some a),vX xh n] h fun v h'=>v=vX xi (Gf.pw (n%255).toNat).toNat/\h'=h:=by
 refine KN (some a) n ?_;unfold Do;have j:=vn n (show(0:Int)<255 by decide);have i:-255<n.tmod 255:=Int.lt_tmod_of_pos n (by decide);have b:=Sw n 255 (by decide);have c:=yk n (show(255:Int)≠0 by decide);have d:=wC n (show(0:Int)<255 by decide);refine⟨by decide,co (fun s h'=>s=n%255/\h'=h) ?_ ?_⟩
 ·refine ak (fun e=>?_) (fun f=>?_)
  ·rw[if_pos e]at b;exact⟨by rw[wrap_small _ (by omega) (by omega),b],rfl⟩
  ·rw[if_neg f]at b;exact⟨b.symm,rfl⟩
 ·rintro s h' ⟨rfl,rfl⟩;refine(sv a h').mono ?_;rintro v i ⟨rfl,rfl⟩;refine⟨some a,rfl,a,rfl,⟨c,d⟩,_,?_,rfl,rfl⟩;rw[wJ];exact Ig g _ (by omega)
theorem lP(p:Pm)(h:Heap):ae xl VO #[kA p] h fun v h'=>v=vX xh (bZ p)/\Sp h h' []:=by
 refine TN p ?_;unfold ME;refine(Sp.refl h).boxed fun a g d=>?_;refine⟨p,(d.box 0 rfl).aO _ rfl,?_⟩;refine(dS p g).mono ?_;rintro v i ⟨rfl,f⟩;have b:=d.comp f;have c:=b.box 0 rfl;refine⟨_,rfl,bi (fun e=>⟨by simp[bZ,e],.zip b.ai⟩) (fun e=>?_)⟩;refine⟨_,c.cell0 rfl,_,c.cell rfl,?_,.zip b.ai⟩;have:=(bK p).1 e;rw[wrap_small _ (by omega) (by omega),bZ,if_pos e]
theorem abv(n i:Int)(h:Heap):ae xl Wa #[vX xh n,vX xh i] h fun v h'=>∃s:Sl,v=vY s.ptr s.len s.cap/\
  Sp h h' [an aC s 1 aB (if 1<=n/\n<=64/\0<=i/\i<n then(qh n.toNat (0:UInt8)).set i.toNat 1 else[])]:=by
 refine Ua n i ?_;unfold MS;have a:∀c:Prop,¬c->[Decidable c]->Sp h h [an aC ⟨none,0,0⟩ 1 aB (if c then(qh n.toNat (0:UInt8)).set i.toNat 1 else[])]:=fun c b _=>by
  rw[if_neg b];exact(Sp.refl h).nil aC 1 aB
 refine aX ?_;refine ak (fun e=>⟨⟨none,0,0⟩,rfl,a _ (by omega)⟩) (fun l=>?_);refine ak (fun e=>⟨⟨none,0,0⟩,rfl,a _ (by omega)⟩) (fun e2=>?_);refine ak (fun e=>⟨⟨none,0,0⟩,rfl,a _ (by omega)⟩) (fun m=>?_);refine ak (fun e=>⟨⟨none,0,0⟩,rfl,a _ (by omega)⟩) (fun k=>?_);refine(Sp.refl h).make af aB ⟨_,_,rfl,rfl,rfl,rfl,rfl,rfl⟩ (by decide) 0 rfl rfl n.toNat n.toNat (by omega) (by omega) (ql _) (by omega) fun s j o b f=>?_;refine f.set af 0 rfl (fun _=>rfl) rfl i.toNat (by omega) (by simp;omega) 1 rfl rfl rfl fun g d=>?_;refine⟨s,rfl,?_⟩;rw[if_pos (by omega)];exact d
theorem RG(s:Int)(h:Heap):ae xl VP #[vX xj s] h fun v h'=>∃a:Addr,v=vZ (some a)/\Sp h h' [aq a fm [vX xk (qc xk s)]]:=by
 refine TP s ?_;unfold MF;exact(Sp.refl h).boxed fun a c b=>⟨a,rfl,b⟩
theorem Dy(a:Addr)(s:Int)(h:Heap)(d:cy h a fm [vX xk s]):ae xl Jm #[vZ (some a)] h fun v h'=>v=vX xj (told s)/\cy h' a fm [vX xk (EW s)]/\aU (·≠a.block) h h':=by
 refine HD (some a) ?_;unfold xY;refine DO rfl ⟨a,rfl,s,d.cell0 rfl,a,rfl,?_⟩;refine DQ af d rfl _ rfl rfl rfl (ql _) fun e b c _=>?_;exact⟨a,rfl,_,b.cell0 rfl,by decide,rfl,b,c⟩
theorem Nh(a:Addr)(s n:Int)(h:Heap)(f:cy h a fm [vX xk s])(g:0<n)(d:n<=2^62):ae xl HN #[vZ (some a),vX xh n] h fun v h'=>v=vX xh (lH s n)/\cy h' a fm [vX xk (EW s)]/\aU (·≠a.block) h h':=by
 refine Gg (some a) n ?_;unfold ux;refine aX (DO rfl (ak (fun e=>by omega) fun _=>?_));refine(Dy a s h f).mono ?_;rintro v i ⟨rfl,b,c⟩;exact⟨_,rfl,by rw[wrap_u64];omega,rfl,b,c⟩
theorem Xx(a b:Nat)(d:a<=2^40)(c:b<=2^40):qc xh ((a:Int)+(b:Int))=((a+b:Nat):Int):=by
 rw[wrap_small _ (by omega) (by omega)];rfl
theorem abw(l:Nat)(h:Heap)(f:l<=20):ae xl MW #[vX xh l] h fun v h'=>v=vX xh (fb l)/\h'=h:=by
 have m:∀l:Nat,l<=20->∀r:Nat,r<=5->(∀j,j<r->j*j<l)->r*r<l->r<5:=by decide
 have n:∀l:Nat,l<=20->∀r:Nat,r<=5->(∀j,j<r->j*j<l)->¬r*r<l->r=fb l:=by decide
 refine KP l ?_;unfold Ds;refine aw (fun r:Nat=>(r:Int)) (fun r h'=>h'=h/\r<=5/\∀j,j<r->j*j<l) (fun r=>5-r) 0 rfl ⟨rfl,by omega,fun j d=>by omega⟩ ?_;rintro r h' ⟨rfl,c,d⟩;have k:r*r<=25:=we c c;have e:qc xh ((r:Int)*(r:Int))=((r*r:Nat):Int):=by rw[<-wh];exact uC _ (by omega)
 rw[e];refine ak (fun g=>?_) (fun i=>?_)
 ·have a:r*r<l:=by omega
  have o:=m l f r c d a;refine⟨r+1,by rw[wrap_small _ (by omega) (by omega)];rfl,⟨rfl,by omega,fun j b=>?_⟩,by omega⟩;rcases zq.1 b with b|rfl
  ·exact d j b
  ·exact a
 ·exact⟨by rw[n l f r c d (by omega)],rfl⟩
theorem abx(r:Nat)(h:Heap)(b:r<=5):ae xl xX #[vX xk r] h fun v h'=>v=vX xh (IM r)/\h'=h:=by
 intro w a;refine(Tryz.bits_Len (r:Int) w (by omega) (by omega)).mono ?_;rintro e w' ⟨rfl,rfl⟩;have k:∀r:Nat,r<=5->Lib.bitLen r=IM r:=by decide+kernel
 exact⟨_,rfl,cQ.refl _,by rw[qo,k r b],a⟩
theorem Wp(l k:Nat)(h:Heap)(b:l<=20)(a:1<=l)(d:k<=20)(f:1<=k):ae xl Jq #[vX xh l,vX xh k] h fun v h'=>v=vX xh (rV l k)/\h'=h:=by
 have o:∀k:Nat,k<=20->1<k->qc xh ((k:Int)*qc xh ((k:Int)-1))=((k*(k-1):Nat):Int)/\k*(k-1)≠0:=by decide
 have r:∀l:Nat,l<=20->1<=l->1<=fb l/\fb l<=5:=by decide
 have c3:∀l:Nat,l<=20->1<=l->qc xh (wH (l:Int) (fb l))=((l/fb l:Nat):Int):=by decide
 have j:∀l:Nat,l<=20->1<=l->∀k:Nat,k<=20->1<=k->qc xh ((l:Int)*k)≠0:=by decide+kernel
 have p:∀k:Nat,k<=20->1<k->qc xh (wH (1048576:Int) (qc xh ((k:Int)*qc xh ((k:Int)-1))))=((1048576/(k*(k-1)):Nat):Int):=by decide+kernel
 have q:∀l:Nat,l<=20->1<=l->qc xh (wH (1048576:Int) (l:Int))=((1048576/l:Nat):Int):=by decide+kernel
 have t:∀l:Nat,l<=20->1<=l->∀k:Nat,k<=20->1<=k->qc xh (wH (qc xh ((1048576:Int)*fb l)) (qc xh ((l:Int)*k)))=((1048576*fb l/(l*k):Nat):Int):=by decide+kernel
 have y:∀l:Nat,l<=20->1<=l->qc xh (wH (qc xh ((qc xh ((1048576:Int)*fb l))*IM (fb l))) (l:Int))=((1048576*fb l*IM (fb l)/l:Nat):Int):=by decide+kernel
 have u:∀l:Nat,l<=20->∀k:Nat,k<=20->1048576*fb l/(l*k)<=2^30/\1048576*fb l*IM (fb l)/l<=2^30/\1048576/(k*(k-1))<=2^30/\1048576/l<=2^30:=by decide+kernel
 refine HO l k ?_;unfold Aa;have i:=u l b k d;refine(abw l h b).mono ?_;rintro v n ⟨rfl,rfl⟩;have w:=r l b a;refine⟨_,rfl,by omega,co (fun s h'=>s=(((if k>1 then 1048576/(k*(k-1))else 1048576/l):Nat):Int)/\h'=n) ?_ ?_⟩
 ·refine ak (fun e=>?_) (fun e=>?_)
  ·have:=o k d (by omega);refine⟨by rw[this.1];omega,by rw[p k d (by omega),if_pos (by omega)],rfl⟩
  ·refine⟨by rw[q l b a,if_neg (by omega)],rfl⟩
 ·rintro s m ⟨rfl,rfl⟩;have z:(if k>1 then 1048576/(k*(k-1))else 1048576/l)<=2^30:=by split<;>first|exact i.2.2.1|exact i.2.2.2
  refine aX ?_;dsimp only;refine⟨show((fb l:Nat):Int)≠0 by omega,?_⟩;rw[c3 l b a];refine ak (fun e=>⟨j l b a k d f,?_,rfl⟩) (fun e=>?_)
  ·rw[t l b a k d f,Xx _ _ (by omega) (q9 i.1 (by decide)),rV,if_pos (c:=k<l/fb l) (Int.ofNat_lt.1 e)]
  ·refine cw (fun e2=>?_) (fun e2=>?_)
   ·have x:qc xk (fb l:Int)=(fb l:Int):=by rw[wrap_u64];omega
    rw[x];refine(abx (fb l) m w.2).mono ?_;rintro v h3 ⟨rfl,rfl⟩;refine⟨_,rfl,by omega,?_,rfl⟩;rw[y l b a,Xx _ _ (by omega) (q9 i.2.1 (by decide)),rV,if_neg (c:=k<l/fb l) (fun g=>e (Int.ofNat_lt.2 g)),if_pos (c:=k=l/fb l) (vT.1 e2)]
   ·exact⟨by rw[rV,if_neg (c:=k<l/fb l) (fun g=>e (Int.ofNat_lt.2 g)),if_neg (c:=k=l/fb l) (fun g=>e2 (vT.2 g)),w9],rfl⟩
theorem YX(l:Nat)(h:Heap)(c:l<=20)(a:1<=l):ae xl KJ #[vX xh l] h fun v h'=>∃s:Sl,v=vY s.ptr s.len s.cap/\Sp h h' [an aT s 1 aD (jv l)]:=by
 refine Jn l ?_;unfold Bu;refine aX (ak (fun e=>by omega) fun _=>ak (fun e=>by omega) fun _=>?_);refine(Sp.refl h).make af aD me (by decide) 0 rfl rfl 0 l rfl rfl (by omega) (by omega) fun s o d p i=>?_;refine aw (fun t:Sl×Nat=>(t.1,((mF l t.2:Nat):Int),((t.2+1:Nat):Int))) (fun t h'=>t.2<=l/\Sp h h' [an aT t.1 1 aD ((jv l).take t.2)]) (fun t=>l-t.2) (s,0) rfl ⟨by simp,by simpa using i⟩ ?_;rintro⟨s,k⟩ f ⟨n,b⟩;dsimp only at*;refine ak (fun e=>?_) (fun e=>?_)
 ·refine(Wp l (k+1) f c a (by omega) (by omega)).mono ?_;rintro v h3 ⟨rfl,rfl⟩;refine⟨_,rfl,?_⟩;have q:=IN l c k (by omega);have u:=LD l c (k+1) (by omega);have e2:qc xh ((mF l k:Int)+(rV l (k+1):Int))=((mF l (k+1):Nat):Int):=by rw[wrap_small _ (by omega) (by omega),mF];rfl
  dsimp only;rw[e2];refine b.push af 0 rfl me rfl (by decide) (fun _=>rfl) jp _ rfl (by decide) (by rw[qZ];omega) fun j r g=>?_;refine⟨(j,k+1),by dsimp only;rw[wrap_small _ (by omega) (by omega)];rfl,⟨by dsimp only;omega,?_⟩,by dsimp only;omega⟩;have m:(jv l).take (k+1)=(jv l).take k++[((mF l (k+1):Nat):Int)]:=by
   rw[aJ _ _ (by rw[lp];omega)];simp[jv]
  dsimp only;rw[m];exact g
 ·refine⟨s,rfl,?_⟩;rw[qi (by rw[lp];omega)]at b;exact b
theorem Wq{p:aA}(t:Sl)(lt:List Int)(x b:Int)(h:Heap)(f:Seq h p t 1 aD lt)(r:0<=x)(a:lt.getLast?=some b)(j:x<b)(q:lt.length<=2^40):
  ae xl Jp #[vY t.ptr t.len t.cap,vX xh x] h fun v h'=>v=vX xh (Yc lt x)/\h'=h:=by
 refine HM t x ?_;unfold zV;have s:=f.len;have c:lt≠[]:=fun e=>by rw[e]at a;cases a
 have m:0<lt.length:=List.length_pos_iff.2 c;have l:lt[lt.length-1]=b:=by rw[List.getLast?_eq_getElem?,qd (by omega)]at a;simpa using a
 refine aX (cw (fun e=>by omega) fun _=>ak (fun e=>by omega) fun _=>?_);rw[wrap_small _ (by omega) (by omega)];refine f.bz (lt.length-1) (by omega) (by omega) _ rfl ?_;rw[l];refine ak (fun e=>by omega) fun _=>?_;have g:(lt.findIdx fun y=>decide (y>x))<lt.length:=yH ⟨b,List.mem_of_getLast? a,by simpa using j⟩;refine aw (fun k:Nat=>(k:Int)) (fun k h'=>h'=h/\k<=(lt.findIdx fun y=>decide (y>x))) (fun k=>lt.length-k) 0 rfl ⟨rfl,by omega⟩ ?_;rintro k h' ⟨rfl,n⟩;refine ak (fun e=>?_) (fun e=>by omega);have d:k<lt.length:=by omega
 refine f.bz k rfl d _ rfl ?_;rw[wrap_small _ (by omega) (by omega)];refine ak (fun e2=>?_) (fun e2=>?_)
 ·have:(lt.findIdx fun y=>decide (y>x))=k:=Nat.le_antisymm (Nat.le_of_not_lt fun i=>by have:=List.not_of_lt_findIdx i;simp at this;omega) n;exact⟨by rw[Yc,this];rfl,rfl⟩
 ·refine⟨k+1,rfl,⟨rfl,?_⟩,by omega⟩;refine Nat.lt_of_le_of_ne n fun o=>?_;have:=List.findIdx_getElem (xs:=lt) (p:=fun y=>decide (y>x)) (w:=g);simp only[<-o]at this;simp at this;omega
theorem Jr(t:Sl)(n:Nat)(a:Addr)(s:Int)(h:Heap)(f:Seq h (·≠a.block) t 1 aD (jv n))(m:cy h a fm [vX xk s])(c:1<=n)(i:n<=20):
  ae xl MG #[vY t.ptr t.len t.cap,vZ (some a)] h fun v h'=>v=vX xh (IP s n)/\cy h' a fm [vX xk (EW s)]/\aU (·≠a.block) h h':=by
 refine KI t (some a) ?_;unfold Di;have o:=f.len;rw[lp]at o;refine cw (fun e=>by omega) fun _=>?_;rw[wrap_small _ (by omega) (by omega)];refine f.bz (n-1) (by omega) (by rw[lp];omega) _ rfl ?_;have l:(jv n)[n-1]'(by rw[lp];omega)=((mF n n:Nat):Int):=by simp only[jv,wo,List.getElem_range];rw[show n-1+1=n by omega]
 rw[l];have q:=SI n i c;have j:=IN n i n i;refine(Nh a s _ h m (by omega) (by omega)).mono ?_;rintro v k ⟨rfl,g,d⟩;have b:=xA s (mF n n) (by omega) (by omega);refine⟨_,rfl,(Wq t (jv n) _ _ k (f.ai d) b.1 (LF n c) b.2 (by rw[lp];omega)).mono ?_⟩;rintro v p ⟨rfl,rfl⟩;exact⟨_,rfl,rfl,g,d⟩
theorem aby(a:Addr)(s:Int)(n k:Nat)(h:Heap)(F:cy h a fm [vX xk s])(V:n<=64)(O:k<=n):
  ae xl OU #[vZ (some a),vX xh n,vX xh k] h fun v h'=>∃r:Sl,v=vY r.ptr r.len r.cap/\aa (fun b=>b<h.size/\¬b=a.block) h h' [aq a fm [vX xk (fZ n s (upto n) k).1],an aT r 1 aD (IL s n k)]:=by
 refine MH (some a) n k ?_;unfold FB;refine aX (ak (fun e=>by omega) fun _=>ak (fun e=>by omega) fun _=>ak (fun e=>by omega) fun _=>ak (fun e=>by omega) fun _=>?_);have L:aa (fun b=>b<h.size/\¬b=a.block) h h [aq a fm [vX xk s]]:=.aah (fun b=>b=a.block) (fun b t=>by rw[t];exact F.lt) ⟨F,rfl⟩;refine L.make af aD me (by decide) 0 rfl rfl n n rfl rfl (ql _) (by omega) fun v Q U R J=>?_;refine aw (fun i:Nat=>(i:Int)) (fun i h'=>i<=n/\aa (fun b=>b<h.size/\¬b=a.block) h h' [aq a fm [vX xk s],an aT v 1 aD ((upto n).take i++qh (n-i) 0)]) (fun i=>n-i) 0 rfl ⟨by omega,by simpa using J⟩ ?_;rintro i P ⟨N,u⟩;refine ak (fun e=>?_) (fun e=>?_)
 ·have g:i<n:=by omega
  refine u.set af 1 rfl (fun _=>rfl) rfl i rfl (by simp[gu];omega) (i:Int) rfl rfl rfl fun h3 f=>?_;refine⟨i+1,by rw[wrap_small _ (by omega) (by omega)];rfl,⟨by omega,?_⟩,by omega⟩;have e2:((upto n).take i++qh (n-i) 0).set i (i:Int)=(upto n).take (i+1)++qh (n-(i+1)) 0:=by
   have o:((upto n).take i).length=i:=by rw[qZ,gu];omega
   rw[aJ _ _ (by rw[gu];omega),zh _ _ (by omega),o,zj,show n-i=n-(i+1)+1 by omega,yL,zB];simp[upto]
  rw[<-e2];exact f
 ·have g:i=n:=by omega
  subst g;have e2:(upto i).take i++qh (i-i) 0=upto i:=by rw[qi (by rw[gu];omega)];simp
  rw[e2]at u;refine aw (fun j:Nat=>(j:Int)) (fun j h'=>j<=k/\aa (fun b=>b<h.size/\¬b=a.block) h h' [aq a fm [vX xk (fZ i s (upto i) j).1],an aT v 1 aD (fZ i s (upto i) j).2]) (fun j=>k-j) 0 rfl ⟨by omega,u⟩ ?_;rintro j h3 ⟨T,f⟩;have q:=xB i s (upto i) j;rw[gu]at q;refine ak (fun K=>?_) (fun K=>?_)
  ·rw[wrap_small _ (by omega) (by omega)];have d:((i:Int)-(j:Int))=((i-j:Nat):Int):=by omega
   rw[d];refine(Nh a _ _ h3 (f.box 0 rfl) (by omega) (by omega)).mono ?_;rintro w E ⟨rfl,A,z⟩;have l:=f.CD 0 rfl z A;have I:=xA (fZ i s (upto i) j).1 ((i-j:Nat):Int) (by omega) (by omega);refine⟨_,rfl,?_⟩;dsimp only;rw[wrap_small _ (by omega) (by omega),wrap_small _ (by omega) (by omega)];have M:(j:Int)+lH (fZ i s (upto i) j).1 ((i-j:Nat):Int)=((j+(lH (fZ i s (upto i) j).1 ((i-j:Nat):Int)).toNat:Nat):Int):=by omega
   have c:j+(lH (fZ i s (upto i) j).1 ((i-j:Nat):Int)).toNat<(fZ i s (upto i) j).2.length:=by omega
   rw[M];have m:=l.seq 1 rfl (fun _=>rfl);refine m.bz _ rfl c _ rfl ?_;refine m.bz j rfl (by omega) _ rfl ?_;refine l.set af 1 rfl (fun _=>rfl) rfl j rfl (by omega) _ rfl rfl rfl fun H x=>⟨trivial,?_⟩
   refine x.set af 1 rfl (fun _=>rfl) rfl _ rfl (by simpa using c) _ rfl rfl rfl fun S G=>⟨trivial,?_⟩
   refine⟨j+1,rfl,⟨by omega,?_⟩,by omega⟩;rw[fZ,sI,kL,kL,Go.Vc.getD_lt c,Go.Vc.getD_lt (show j<(fZ i s (upto i) j).2.length by omega)];exact G
  ·have y:j=k:=by omega
   subst y;refine⟨⟨by omega,by omega⟩,?_⟩;have p:=f.seq 1 rfl (fun _=>rfl);refine(jr ⟨v.ptr,j,v.cap⟩ ((fZ i s (upto i) j).2.take j) h3 (p.take j (by omega)) (by rw[qZ];omega)).mono ?_;rintro w E ⟨r,rfl,l⟩;refine⟨r,rfl,?_⟩;refine(Qk r _ E (l.own 0 rfl) (by rw[qZ];omega)).mono ?_;rintro w H ⟨rfl,D,B⟩;have x:=(f.comp l).oI 2 rfl B D;exact⟨(),rfl,r,rfl,x.del 1⟩
theorem Bz(p:Pm)(seed id:Int)(h:Heap):ae xl YF #[kA p,vX xj seed,vX xh id] h fun v h'=>∃r:Sl,v=vY r.ptr r.len r.cap/\Sp h h' [an aT r 1 aD (if bJ p&&bU id then de (bZ p).toNat seed id else[])]:=by
 refine VL p seed id ?_;unfold Qd;refine(Sp.refl h).boxed fun a z F=>?_;refine aX ?_;refine⟨p,(F.box 0 rfl).aO _ rfl,(dS p z).mono ?_⟩;rintro v j ⟨rfl,Q⟩;have u:=F.comp Q;have o:(bJ p&&bU id)=false->Sp h j [an aT ⟨none,0,0⟩ 1 aD (if bJ p&&bU id then de (bZ p).toNat seed id else[])]:=fun I=>by
  rw[I];exact(u.nil aT 1 aD).take 1 (fun i A c=>by cases i with|zero=>exact c|succ i=>simp at c)
 refine⟨_,rfl,bi (fun e=>⟨⟨none,0,0⟩,rfl,o (by rw[e];rfl)⟩) fun k=>?_⟩;refine ak (fun e=>⟨⟨none,0,0⟩,rfl,o (by simp[bU];omega)⟩) fun V=>?_;refine ak (fun e=>⟨⟨none,0,0⟩,rfl,o (by simp[bU];omega)⟩) fun e2=>?_;have hid:bU id=true:=by simp[bU];omega
 rw[k,hid];refine⟨p,(u.box 0 rfl).aO _ rfl,(lP p j).mono ?_⟩;rintro v h3 ⟨rfl,N⟩;have K:=u.comp N;have P:=(bK p).1 k;have T:bZ p=p.1+p.2.1:=by rw[bZ,if_pos k]
 obtain⟨n,S⟩:∃n:Nat,bZ p=n:=⟨(bZ p).toNat,by omega⟩
 refine⟨_,rfl,?_⟩;dsimp only;rw[S,qo];refine(RG _ h3).mono ?_;rintro v O ⟨d,rfl,E⟩;refine⟨some d,rfl,?_⟩;refine(Dy d _ O (E.box 0 rfl)).mono ?_;rintro v J ⟨rfl,m,y⟩;have D:=E.CD 0 rfl y m;refine⟨_,rfl,?_⟩;refine(YX n J (by omega) (by omega)).mono ?_;rintro v L ⟨t,rfl,g⟩;have f:=D.comp g;refine⟨t,rfl,?_⟩;have w:∀b,t.on b->b≠d.block:=fun b x U=>by
  have z:=(g.fresh 0 rfl).2 b x;have j:=(D.box 0 rfl).lt;omega
 refine(Jr t n d _ L ((g.own 0 rfl).seq (fun _=>rfl) w) (f.box 0 rfl) (by omega) (by omega)).mono ?_;rintro v G ⟨rfl,l,s⟩;have B:=f.CD 0 rfl s l;refine⟨_,rfl,?_⟩;refine(aby d _ n _ G (B.box 0 rfl) (by omega) (xC _ n (by omega) (by omega))).mono ?_;rintro v h8 ⟨r,rfl,M⟩;have R:=B.call 0 rfl (fun b=>b=d.block) (fun q H b x=>by rw[x];exact H.2) M;exact⟨r,rfl,r,rfl,((K.comp R).take 3 (fun i A c=>by cases i with|zero=>exact c|succ i=>simp at c))⟩
end Go.Proofs.YtdhamoojccmbdaaGreatDoor
