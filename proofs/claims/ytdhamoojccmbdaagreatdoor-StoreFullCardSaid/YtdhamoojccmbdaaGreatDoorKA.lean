/- Part of the proofs that the laws of this seat answer true whatever the input reads, and leave it as it was; no condition. -/
import Derived.Test.YtdhamoojccmbdaaGreatDoorTabS
import Derived.Test.YtdhamoojccmbdaaGreatDoorPlA
import Derived.Test.YtdhamoojccmbdaaGreatDoorPlB
import Derived.Test.YtdhamoojccmbdaaGreatDoorShelfA
import Derived.Test.YtdhamoojccmbdaaGreatDoorPlC
import Derived.Test.YtdhamoojccmbdaaGreatDoorPlD
import Derived.Test.YtdhamoojccmbdaaGreatDoorPlE
import Derived.Test.YtdhamoojccmbdaaGreatDoorPlF
import Derived.Test.YtdhamoojccmbdaaGreatDoorPlG
set_option linter.unusedVariables false
set_option linter.unusedSimpArgs false
open Go.Proofs.Tryz renaming prog -> vV
open Go.Value renaming agg -> vQ, bool -> vP, int -> vL, pointer -> vN, slice -> vM, string -> vO
open Go.IntKind renaming bits -> qk, i64 -> vR, signed -> yI, u32 -> vT, u64 -> vU, u8 -> vS, wrap -> qc
open Option renaming isSome_iff_exists -> y8, map_some -> qO, some -> zJ
open Int renaming emod_lt_of_pos -> z8, emod_nonneg -> wY, fdiv -> qS, fdiv_eq_ediv_of_nonneg -> yV, mul_le_mul -> wu, mul_nonneg -> vm, mul_pos -> vF, natCast_mul -> wz, ofNat_inj -> vH, tdiv -> wC, tmod -> zW, tmod_eq_emod_of_nonneg -> yu, tmod_lt_of_pos -> va, toNat_natCast -> qp
open UInt8 renaming ofNat -> yo, ofNat_toNat -> yC, toNat_inj -> yh, toNat_lt -> wH, xor_comm -> vl, zero_xor -> wc
open List renaming all_append -> yz, all_cons -> vI, all_eq_false -> ye, all_eq_true -> qM, any_append -> yP, any_eq_true -> wR, append_assoc -> qo, append_nil -> qP, cons_append -> zu, drop_drop -> zx, drop_eq_getElem_cons -> qT, drop_of_length_le -> q9, eq_nil_of_length_eq_zero -> qW, exists_cons_of_length_eq_add_one -> yf, ext_getElem? -> zH, filter_append -> zh, filter_cons -> zm, filter_nil -> yO, find?_eq_some_iff_append -> wD, flatMap_append -> zb, flatMap_cons -> zr, flatMap_nil -> wO, foldl_append -> wE, foldl_cons -> zB, foldl_nil -> wI, getD_eq_getElem?_getD -> qe, getElem?_append_left -> qn, getElem?_append_right -> qj, getElem?_cons_succ -> qz, getElem?_drop -> wq, getElem?_eq_getElem -> qd, getElem?_eq_none -> ze, getElem?_eq_some_iff -> qm, getElem?_map -> qN, getElem?_range -> zo, getElem?_replicate -> zX, getElem?_set -> qZ, getElem?_set_ne -> z6, getElem?_set_self -> zy, getElem?_zipWith -> wG, getElem_append_left -> w5, getElem_drop -> zR, getElem_map -> zY, getElem_mem -> qg, getElem_of_mem -> qF, getElem_set_self -> vp, getElem_take -> wX, getElem_zip -> yK, length -> vg, length_append -> qu, length_cons -> zi, length_drop -> qY, length_filter_le -> q7, length_map -> qw, length_mergeSort -> wj, length_nil -> yj, length_range -> zt, length_replicate -> yx, length_set -> zE, length_take -> qX, map_append -> qQ, map_cons -> w4, map_map -> wK, map_mergeSort -> vf, map_nil -> vn, mem_append -> qE, mem_cons -> zc, mem_cons_of_mem -> qU, mem_cons_self -> q8, mem_filter -> qI, mem_flatMap -> zO, mem_map -> qx, mem_mergeSort -> yt, mem_of_getElem? -> ya, mem_range -> qH, mem_singleton -> qG, nil_append -> zV, pairwise_cons -> zL, range -> qC, range_succ -> zF, replicate -> qh, replicate_append_replicate -> yF, replicate_succ -> yG, set_append_right -> za, set_cons_succ -> wv, set_cons_zero -> zw, take_append_drop -> qD, take_append_of_le_length -> w9, take_length -> qR, take_of_length_le -> qi, take_zero -> vC, zipWith -> zj
open Nat renaming add_assoc -> yn, add_sub_cancel_left -> zk, add_zero -> yl, le_refl -> ql, le_trans -> zl, lt_of_lt_of_le -> qV, lt_succ_iff_lt_or_eq -> zn, lt_trichotomy -> yd, min_eq_left -> wJ, mod_eq_of_lt -> yX, mod_lt -> yE, mul_le_mul -> wb, mul_le_mul_right -> zG, mul_one -> wN, sub_self -> zf, succ_mul -> zI, zero_add -> wk, zero_le -> w8
open BitVec renaming ofInt -> qA, ofInt_natCast -> wP, ofNat -> vB
open Go.Instr renaming build -> vy, buildSlice -> qt, fill -> wh, storeAt -> qf
open Go.Builtin renaming append_ -> qq
open Bool renaming and_eq_true -> qy, eq_iff_iff -> yQ, false_eq_true -> zd, false_or -> vx, not_false -> wU, not_true -> wS, or_eq_true -> wx, true_and -> zS
open Prod renaming ext -> yL, fst -> qK, snd -> zA
set_option maxRecDepth 100000
namespace Go.Vc
open Go Wl
abbrev Cells:=List (List UInt8)
abbrev powC(w:Pow)(l:Int):List Value:=[vP w.off,vP w.fuse.isSome,vL vR l,vL vR w.offs]
def LX(w:Pow)(l:Int):Prop:=∀k,w.fuse=some k->l=k/\k<2^62
def dU(t:Nat)(a:Addr)(w:Pow):HP:=HP.ex fun l:Int=>(au a t (powC w l)).and (LX w l)
section
variable {B:aA} {h0 h h':Heap} {As:List HP} {t:Nat} {a:Addr} {w:Pow}
theorem aa.CL(H:aa B h0 h (dU t a w::As)):∃l,LX w l/\aa B h0 h (au a t (powC w l)::As):=by
 obtain⟨l,H⟩:=H.HT;obtain⟨H,b⟩:=H.Jr;exact⟨l,b,H⟩
theorem aa.JY{l:Int}(b:LX w l)(H:aa B h0 h (au a t (powC w l)::As)):aa B h0 h (dU t a w::As):=
 (H.toJr b).KD (F:=fun l:Int=>(au a t (powC w l)).and (LX w l)) l
end
end Go.Vc
namespace Go.Proofs.YtdhamoojccmbdaaGreatDoor
open Go Go.Vc Go.Proofs Wl
section
variable {B:aA} {h0 h h':Heap} {As:List HP} {t:Nat} {a:Addr} {w:Pow}
theorem Ik(l:Int)(b:cw h a bG (powC w l)):ac vV Ir #[vN (some a)] h fun v h'=>v=vP (!w.off)/\h'=h:=by
 refine Gv (some a) ?_;unfold xl;exact bA (fun _=>⟨a,rfl,w.off,b.cell0 rfl,rfl,rfl⟩) fun e=>by cases e
theorem Pe(l:Int)(b:cw h a bG (powC w l)):ac vV Fg #[vN (some a)] h fun v h'=>v=vL vR w.offs/\h'=h:=by
 refine DH (some a) ?_;unfold sJ;exact bA (fun e=>by cases e) fun _=>⟨a,rfl,w.offs,b.cell rfl,rfl,rfl⟩
theorem Pf(h:Heap):ac vV Sh #[] h fun v h'=>∃a,v=vN (some a)/\Sp h h' [dU bG a Pow.new]:=by
 refine PQ ?_;unfold IK;refine(Sp.refl h).boxed fun a c b=>⟨a,rfl,aa.JY (l:=0) (w:=Pow.new) (fun k e=>by cases e) b⟩
theorem Hb(H:aa B h0 h (dU bG a w::As)):ac vV Ff #[vN (some a)] h fun v h'=>v=vP w.step.1/\aa B h0 h' (dU bG a w.step.2::As):=by
 obtain⟨l,s,c⟩:=H.CL;refine DG (some a) ?_;unfold sI;refine(Ik l (c.box 0 rfl)).mono ?_;rintro _ x ⟨rfl,rfl⟩;refine⟨_,rfl,bg (fun e=>?_) (fun e=>?_)⟩
 ·have:w.step=(false,w):=by unfold Pow.step;rw[if_pos (by simpa using e)]
  rw[this];exact⟨rfl,H⟩
 have g:w.off=false:=by simpa using e
 refine⟨a,rfl,_,(c.box 0 rfl).cell rfl,bg (fun e2=>?_) (fun e2=>?_)⟩
 ·have:w.step=(true,w):=by
   unfold Pow.step;rw[if_neg (by simp[g])];cases d:w.fuse with
   |none=>rfl
   |some k=>rw[d]at e2;cases e2
  rw[this];exact⟨rfl,H⟩
 obtain⟨k,d⟩:∃k,w.fuse=some k:=y8.1 e2;obtain⟨rfl,u⟩:=s k d;have p:powC w (k:Int)=[vP false,vP true,vL vR k,vL vR w.offs]:=by simp[powC,g,d]
 rw[p]at c;refine⟨a,rfl,_,(c.box 0 rfl).cell rfl,cx (fun r=>?_) (fun r=>?_)⟩
 ·have m:k=0:=by omega
  subst m;have i:w.step=(false,⟨true,some 0,qc vR (w.offs+1)⟩):=by unfold Pow.step;rw[if_neg (by simp[g]),d]
  rw[i];refine⟨a,rfl,c.jD ae 0 rfl rfl [vP true] rfl rfl rfl (by simp) fun t n=>?_⟩;refine⟨a,rfl,w.offs,(n.box 0 rfl).cell rfl,a,rfl,n.store ae 0 rfl rfl 3 [vL vR (qc vR (w.offs+1))] rfl rfl rfl (by simp[powC]) fun h3 f=>⟨rfl,?_⟩⟩;refine aa.JY (l:=((0:Nat):Int)) (fun o b=>by cases b;exact⟨rfl,by decide⟩) ?_;exact f
 ·obtain⟨j,rfl⟩:∃j,k=j+1:=⟨k-1,by omega⟩
  have i:w.step=(true,⟨false,some j,w.offs⟩):=by unfold Pow.step;rw[if_neg (by simp[g]),d]
  rw[i];refine⟨a,rfl,_,(c.box 0 rfl).cell rfl,a,rfl,c.store ae 0 rfl rfl 2 [vL vR (qc vR (((j+1:Nat):Int)-1))] rfl rfl rfl (by simp[powC]) fun h3 f=>⟨rfl,?_⟩⟩;refine aa.JY (l:=(j:Int)) (fun o b=>by cases b;exact⟨rfl,by omega⟩) ?_;rw[Go.Vc.wrap_small _ (by omega) (by omega)]at f;have q:((j+1:Nat):Int)-1=(j:Int):=by omega
  rw[q]at f;exact f
end
abbrev Pm:=Int×Int×Int
abbrev kB(p:Pm):Value:=vQ #[vL vR p.1,vL vR p.2.1,vL vR p.2.2]
theorem dN(p:Pm)(h:Heap):ac vV XG #[kB p] h fun v h'=>v=vP (bM p)/\Sp h h' []:=by
 refine UJ p ?_;unfold OW;refine(Sp.refl h).boxed fun a d f=>?_;have e:=f.box 0 rfl;have c:Sp h d []:=.zip f.ai;have i:cellOf d a=some (vL vR p.1):=e.cell0 rfl;have g:cellOf d (a.add 1)=some (vL vR p.2.1):=e.cell rfl;have j:cellOf d (a.add 2)=some (vL vR p.2.2):=e.cell rfl;unfold bM;refine⟨_,i,ak (fun b=>?_) (fun b=>⟨by rw[decide_eq_false b];rfl,c⟩)⟩;rw[decide_eq_true b];refine⟨_,i,ak (fun b=>?_) (fun b=>⟨by rw[decide_eq_false b];rfl,c⟩)⟩;rw[decide_eq_true b];refine⟨_,g,ak (fun b=>?_) (fun b=>⟨by rw[decide_eq_false b];rfl,c⟩)⟩;rw[decide_eq_true b];refine⟨_,g,ak (fun b=>?_) (fun b=>⟨by rw[decide_eq_false b];rfl,c⟩)⟩;rw[decide_eq_true b];refine⟨_,j,ak (fun b=>?_) (fun b=>⟨by rw[decide_eq_false b];rfl,c⟩)⟩;rw[decide_eq_true b];exact⟨_,j,rfl,c⟩
abbrev nw:bN C.toBR oe aS 1 [vL vR 0] 8:=⟨_,_,rfl,rfl,rfl,rfl,rfl,rfl⟩
abbrev fP:bN C.toBR aF aD 1 [vL vS 0] 1:=⟨_,_,rfl,rfl,rfl,rfl,rfl,rfl⟩
abbrev fq:bN C.toBR dq aF 1 [vM none 0 0] 24:=⟨_,_,rfl,rfl,rfl,rfl,rfl,rfl⟩
theorem mU(s:Sl)(l:List Int)(h:Heap)(a:Rd h s 1 aE l)(c:l.length<=2^30):ac vV xW #[vM s.ptr s.len s.cap] h fun v h'=>∃r:Sl,v=vM r.ptr r.len r.cap/\Sp h h' [an aS r 1 aE l]:=by
 refine xj s ?_;unfold nK;refine bA (fun e=>?_) (fun e=>?_)
 ·have:=a.isNil e;subst this;exact⟨⟨none,0,0⟩,rfl,(Sp.refl h).nil aS 1 aE⟩
 ·refine(Sp.refl h).lit ae aE nw rfl [] rfl (by decide) rfl fun j g b=>?_;refine b.append ae 0 rfl nw ⟨_,_,rfl,rfl⟩ rfl (by decide) (fun _=>rfl) (a.up b.ai) ja (by simp;omega) fun d i f=>⟨d,rfl,f⟩
theorem fH(s:Sl)(l:List UInt8)(h:Heap)(a:Rd h s 1 aC l)(c:l.length<=2^30):ac vV rF #[vM s.ptr s.len s.cap] h fun v h'=>∃r:Sl,v=vM r.ptr r.len r.cap/\Sp h h' [an aD r 1 aC l]:=by
 refine Ll s ?_;unfold EB;refine bA (fun e=>?_) (fun e=>?_)
 ·have:=a.isNil e;subst this;exact⟨⟨none,0,0⟩,rfl,(Sp.refl h).nil aD 1 aC⟩
 ·refine(Sp.refl h).lit ae aC fP rfl [] rfl (by decide) rfl fun j g b=>?_;refine b.append ae 0 rfl fP ⟨_,_,rfl,rfl⟩ rfl (by decide) (fun _=>rfl) (a.up b.ai) ge (by simp;omega) fun d i f=>⟨d,rfl,f⟩
theorem Ph{e:TypeId}(s:Sl)(l:List Int)(h:Heap)(c:Own h e s 1 aE l)(a:l.length<2^40):ac vV Bw #[vM s.ptr s.len s.cap] h fun v h'=>v=.tuple #[]/\Own h' e s 1 aE (mL l)/\aU (fun b=>¬s.on b) h h':=
 Rz Tryz.slices_Sort_int Tryz.slices_Sort_int_none c a
theorem bK(x n:Int)(h:Heap)(a:0<n)(g:n<=2^62):ac vV xd #[vL vR x,vL vR n] h fun v h'=>v=vL vR (x%n)/\h'=h:=by
 refine uq x n ?_;unfold ne;have e:=va x a;have f:-n<x.tmod n:=Int.lt_tmod_of_pos x a;have d:=Rn x n a;refine⟨by omega,ba ?_⟩;refine ak (fun c=>?_) (fun b=>?_)
 ·rw[wrap_small _ (by omega) (by omega)];exact⟨by rw[d,if_pos c],rfl⟩
 ·exact⟨by rw[d,if_neg b],rfl⟩
theorem XP{p q:aA}(a b:Sl)(c g:Row)(h:Heap)(o:Seq h p a 1 aC c)(r:Seq h q b 1 aC g)(w:c.length<=2^40):
  ac vV sH #[vM a.ptr a.len a.cap,vM b.ptr b.len b.cap] h fun v h'=>v=vP (decide (c=g))/\h'=h:=by
 refine rE a b ?_;unfold lq;have m:=o.len;have n:=r.len;refine bQ (fun d=>⟨?_,rfl⟩) (fun j=>?_)
 ·rw[decide_eq_false (fun e=>d (by rw[m,n,e]))]
 ·refine av (fun k:Nat=>(k:Int)) (fun k h'=>h'=h/\k<=c.length/\c.take k=g.take k) (fun k=>c.length-k) 0 rfl ⟨rfl,by omega,by simp⟩ ?_;rintro k h' ⟨rfl,x,l⟩;refine ak (fun u=>?_) (fun s=>?_)
  ·have i:k<c.length:=by omega
   have f:k<g.length:=by omega
   refine o.bv k rfl i _ rfl ?_;refine r.bv k rfl f _ rfl ?_;refine bQ (fun d=>⟨?_,rfl⟩) (fun j=>?_)
   ·rw[decide_eq_false];intro e;subst e;exact d rfl
   ·rw[wrap_small _ (by omega) (by omega)];have t:c[k]=g[k]:=yh.1 (by omega);exact⟨k+1,by simp,⟨rfl,by omega,by rw[aH _ _ i,aH _ _ f,l,t]⟩,by omega⟩
  ·have:k=c.length:=by omega
   subst this;rw[qi (by omega),qi (by omega)]at l;exact⟨by rw[decide_eq_true l],rfl⟩
end Go.Proofs.YtdhamoojccmbdaaGreatDoor
namespace Wl
structure gc (d:bE):Prop where
 wait:d.wait<=d.l.length
 len:d.l.length<=d.room
 room:d.room<=512
 cell:∀c∈d.l,c.length=64
 laid:d.laid.length<=d.room
 cellL:∀c∈d.laid,c.length=64
section
variable {d:bE} {w:Pow} {b:List UInt8}
theorem gc.new{n:Nat}(h:n<=512):gc (bE.new n):=⟨ql _,w8 _,h,by simp[bE.new],w8 _,by simp[bE.new]⟩
theorem gc.rewrite{l:List (List UInt8)}(h:gc d):gc (d.rewrite w l).2.2:=by
 obtain⟨a,b,h3,e,i,f⟩:=h;unfold bE.rewrite;split
 ·exact⟨a,b,h3,e,i,f⟩
 ·rename_i g;have g:∀c∈l,c.length=64:=by simpa using g
  split
  ·exact⟨a,b,h3,e,i,f⟩
  ·split
   ·exact⟨a,b,h3,e,i,f⟩
   ·split
    ·exact⟨a,b,h3,e,i,f⟩
    ·split
     ·exact⟨w8 _,by dsimp only;omega,h3,g,w8 _,by simp⟩
     ·exact⟨a,b,h3,e,by dsimp only;omega,g⟩
end
end Wl
namespace Go.Vc
open Go Wl Go.Proofs.YtdhamoojccmbdaaGreatDoor
abbrev dP(s:Sl)(l:Cells):HP:=lP aF s aD 1 aC l
def kY(t:Nat)(f:bE->Sl->Sl->List Value)(a:Addr)(d:bE):HP:=
 (HP.ex fun b:Sl×Sl=>(au a t (f d b.1 b.2)).sep ((dP b.1 d.l).sep (dP b.2 d.laid))).and (gc d)
section
variable {B:aA} {h0 h h':Heap} {As:List HP} {t:Nat} {f:bE->Sl->Sl->List Value} {a:Addr} {d:bE}
theorem aa.ux(H:aa B h0 h (kY t f a d::As)):gc d/\∃s b:Sl,aa B h0 h (au a t (f d s b)::dP s d.l::dP b d.laid::As):=by
 obtain⟨H,ok⟩:=H.Jr;obtain⟨c,H⟩:=H.HT;exact⟨ok,c.1,c.2,H.KE.KE.bo 3 [2,1,0]⟩
theorem aa.Hd{s b:Sl}(ok:gc d)(H:aa B h0 h (au a t (f d s b)::dP s d.l::dP b d.laid::As)):aa B h0 h (kY t f a d::As):=
 ((((H.bo 3 [2,1,0]).oX).oX).KD (F:=fun c:Sl×Sl=>(au a t (f d c.1 c.2)).sep ((dP c.1 d.l).sep (dP c.2 d.laid))) (s,b)).toJr ok
end
end Go.Vc
namespace Go.Proofs.YtdhamoojccmbdaaGreatDoor
open Go Go.Vc Go.Proofs Wl
abbrev gJ(pw:Addr)(d:bE)(s b:Sl):List Value:=[vN (some pw),vL vR d.room,vM s.ptr s.len s.cap,vL vR d.wait,vM b.ptr b.len b.cap,vP d.has,vP d.lost]
abbrev mE(pw a:Addr)(d:bE):HP:=kY cC (gJ pw) a d
section
variable {B:aA} {h0 h h':Heap} {As:List HP} {a pw:Addr} {d:bE} {w:Pow}
theorem XQ(n:Int)(pw:Addr)(h:Heap):ac vV Si #[vL vR n,vN (some pw)] h fun v h'=>
  (1<=n/\n<=512->∃a,v=vN (some a)/\Sp h h' [mE pw a (bE.new n.toNat)])/\(¬(1<=n/\n<=512)->v=vN none/\Sp h h' []):=by
 refine PR n (some pw) ?_;unfold IL;refine ba (ak (fun e=>⟨fun c=>absurd c (by omega),fun _=>⟨rfl,Sp.refl h⟩⟩) fun g=>ak (fun e=>⟨fun c=>absurd c (by omega),fun _=>⟨rfl,Sp.refl h⟩⟩) fun e2=>bA (fun e=>by cases e) fun _=>?_);refine(Sp.refl h).boxed fun a i d=>⟨fun _=>⟨a,rfl,?_⟩,fun c=>absurd (by omega) c⟩
 refine aa.Hd (s:=⟨none,0,0⟩) (b:=⟨none,0,0⟩) (gc.new (by omega)) ?_;have e:((n.toNat:Nat):Int)=n:=by omega
 have f:=((d.FN aF aD 1 aC).FN aF aD 1 aC).bo 3 [2,1,0];have e2:gJ pw (bE.new n.toNat) ⟨none,0,0⟩ ⟨none,0,0⟩=[vN (some pw),vL vR n,vM none 0 0,vL vR 0,vM none 0 0,vP false,vP false]:=by
  simp only[gJ,bE.new,e];rfl
 rw[e2];exact f
theorem He(s b:Sl)(c:bE)(H:aa B h0 h (au a cC (gJ pw d s b)::dP s d.l::dP b d.laid::dU bG pw w::As))(ok:gc d)(f:c={d with laid:=[],has:=false}):
  ac vV Fp #[vN (some a)] h fun v h'=>v=vL vR 0/\aa B h0 h' (mE pw a c::dU bG pw w::As):=by
 refine DQ (some a) ?_;unfold sT;refine⟨a,rfl,H.store ae 0 rfl rfl 4 [vM none 0 0] rfl rfl rfl (by simp[gJ]) fun i g=>?_⟩;refine⟨a,rfl,g.store ae 0 rfl rfl 5 [vP false] rfl rfl rfl (by simp[gJ]) fun h3 e=>⟨rfl,?_⟩⟩;subst f;refine aa.Hd (s:=s) (b:=⟨none,0,0⟩) ⟨ok.wait,ok.len,ok.room,ok.cell,w8 _,by simp⟩ ?_;exact((e.FN aF aD 1 aC).bo 5 [1,2,0,4])
theorem Vi(x:Sl)(row:List UInt8)(H:aa B h0 h (mE pw a d::dU bG pw w::As))(O:Rd h x 1 aC row)(hr:row.length<=2^20):
  ac vV oE #[vN (some a),vM x.ptr x.len x.cap] h fun v h'=>v=vL vR (d.append w row).1/\aa B h0 h' (mE pw a (d.append w row).2.2::dU bG pw (d.append w row).2.1::As):=by
 refine nL (some a) x ?_;unfold kV;have W:=O.len;obtain⟨ok,s,b,E⟩:=H.ux;have y:=E.box 0 rfl;obtain⟨V,_⟩:=aa.Dk (E.bo 4 [1]);have I:=ok.room;have P:=ok.len;have L:=ok.wait;have g:∀(e:Int),d.append w row=(e,w,d)->(Value.int .i64 e=vL vR (d.append w row).1/\aa B h0 h (mE pw a (d.append w row).2.2::dU bG pw (d.append w row).2.1::As)):=fun e S=>by
  rw[S];exact⟨rfl,H⟩
 refine ba (bQ (fun e=>g 1 (by unfold bE.append;rw[if_pos (by omega)])) fun R=>?_);have q:row.length=64:=by omega
 refine ba (bA (fun e=>by cases e) fun _=>⟨a,rfl,d.lost,y.cell rfl,bA (fun e=>g 5 ?_) fun f=>?_⟩)
 ·unfold bE.append;rw[if_neg (by omega),if_pos e]
 refine⟨a,rfl,s,y.cell rfl,a,rfl,(d.room:Int),y.cell rfl,ak (fun e=>g 7 ?_) fun G=>?_⟩
 ·unfold bE.append;rw[if_neg (by omega),if_neg (by simp[f]),if_pos (by omega)]
 obtain⟨l,hl,K⟩:=(E.bo 4 [3,0,1,2]).CL;refine⟨a,rfl,some pw,y.cell0 rfl,(Ik l (K.box 0 rfl)).mono ?_⟩;rintro _ T ⟨rfl,rfl⟩;refine⟨_,rfl,bg (fun e=>g 14 ?_) fun u=>?_⟩
 ·unfold bE.append;rw[if_neg (by omega),if_neg (by simp[f]),if_neg (by omega),if_pos (by simpa using e)]
 have j:w.off=false:=by simpa using u
 refine ba ⟨a,rfl,s,y.cell rfl,(fH x row T O (by omega)).mono ?_⟩;rintro _ h4 ⟨r,rfl,U⟩;have A:=(E.cY U).bo 5 [2,0,1,3,4];have p:=A.box 2 rfl;refine⟨r,rfl,⟨p.cell rfl,trivial⟩,?_⟩;have Q:=A;refine A.rp ae bI fq rfl [r] rfl (show 1*1<=2^20 by decide) rfl ⟨p.cell rfl,trivial⟩ ?_;refine A.HU ae fq (by omega) fun m h6 J=>⟨trivial,?_⟩
 have J:=J.bo 4 [1,0,2,3];refine⟨a,rfl,J.store ae 0 rfl rfl 2 [vM m.ptr m.len m.cap] rfl rfl rfl (by simp[gJ]) fun Z N=>⟨trivial,?_⟩⟩;have F:=N.box 0 rfl;refine⟨a,rfl,(d.wait:Int),F.cell rfl,a,rfl,?_⟩;rw[Go.Vc.wrap_small ((d.wait:Int)+1) (by omega) (by omega)];refine N.store ae 0 rfl rfl 3 [vL vR ((d.wait:Int)+1)] rfl rfl rfl (by simp[gJ]) fun h8 Y=>?_;obtain⟨i,k⟩:∃i:bE,i={d with l:=d.l++[row],wait:=d.wait+1}:=⟨_,rfl⟩
 have n:gc i:=by
  subst k;refine⟨by simp;omega,by simp;omega,ok.room,fun c z=>?_,ok.laid,ok.cellL⟩;rcases qE.1 z with z|z
  ·exact ok.cell c z
  ·rw[qG.1 z];exact q
 have o:aa B h0 h8 (au a cC (gJ pw i m b)::dP m i.l::dP b i.laid::dU bG pw w::As):=by rw[k];exact Y
 refine⟨a,rfl,some pw,(o.box 0 rfl).cell0 rfl,(Hb (o.bo 4 [3,0,1,2])).mono ?_⟩;rintro _ h9 ⟨rfl,D⟩;have D:=D.bo 4 [1,2,3,0];have t:d.append w row=if w.step.1 then(0,w.step.2,{i with laid:=[],has:=false})else(14,w.step.2,i):=by
  rw[k];unfold bE.append;rw[if_neg (by omega),if_neg (by simp[f]),if_neg (by omega),if_neg (by simp[j])]
 rw[t];refine⟨_,rfl,bg (fun e=>?_) (fun e=>?_)⟩
 ·rw[e];exact⟨rfl,D.Hd n⟩
 ·rw[e];refine(He m b _ D n rfl).mono ?_;rintro _ X ⟨rfl,M⟩;exact⟨0,rfl,rfl,M⟩
theorem Oc(x:Sl)(row:List UInt8)(h:Heap)(a:Rd h x 1 aC row):ac vV oE #[vN none,vM x.ptr x.len x.cap] h fun v h'=>v=vL vR (if row.length≠64 then 1 else 5)/\h'=h:=by
 refine nL none x ?_;unfold kV;have b:=a.len;refine ba (bQ (fun e=>⟨by rw[if_pos (by omega)],rfl⟩) fun e=>?_);exact ba (bA (fun _=>⟨by rw[if_neg (by omega)],rfl⟩) fun e=>by cases e)
theorem aab(H:aa B h0 h (mE pw a d::dU bG pw w::As)):
  ac vV rf #[vN (some a)] h fun v h'=>v=vL vR (d.sync w).1/\aa B h0 h' (mE pw a (d.sync w).2.2::dU bG pw (d.sync w).2.1::As):=by
 refine pB (some a) ?_;unfold mz;obtain⟨ok,s,b,j⟩:=H.ux;have i:=j.box 0 rfl;refine ba (bA (fun e=>by cases e) fun _=>⟨a,rfl,d.lost,i.cell rfl,bA (fun e=>?_) fun c=>?_⟩)
 ·have:d.sync w=(5,w,d):=by unfold bE.sync;rw[if_pos e]
  rw[this];exact⟨rfl,H⟩
 refine⟨a,rfl,some pw,i.cell0 rfl,(Hb (j.bo 4 [3,0,1,2])).mono ?_⟩;rintro _ m ⟨rfl,g⟩;have g:=g.bo 4 [1,2,3,0];have f:d.sync w=if w.step.1 then(0,w.step.2,{{d with wait:=0}with laid:=[],has:=false})else(14,w.step.2,d):=by
  unfold bE.sync;rw[if_neg (by simp[c])]
 rw[f];refine⟨_,rfl,bg (fun e=>?_) (fun e=>?_)⟩
 ·rw[e];exact⟨rfl,g.Hd ok⟩
 ·rw[e];refine⟨a,rfl,g.store ae 0 rfl rfl 3 [vL vR 0] rfl rfl rfl (by simp[gJ]) fun h3 k=>?_⟩;refine(He (d:={d with wait:=0}) s b _ k ⟨w8 _,ok.len,ok.room,ok.cell,ok.laid,ok.cellL⟩ rfl).mono ?_;rintro _ n ⟨rfl,l⟩;exact⟨0,rfl,rfl,l⟩
theorem SX(h:Heap):ac vV rf #[vN none] h fun v h'=>v=vL vR 5/\h'=h:=by
 refine pB none ?_;unfold mz;exact ba (bA (fun _=>⟨rfl,rfl⟩) fun e=>by cases e)
theorem mE.box(H:aa B h0 h (mE pw a d::As)):∃s b:Sl,cw h a cC (gJ pw d s b)/\gg h s 1 aC d.l/\s.len=d.l.length:=by
 obtain⟨ok,s,b,c⟩:=H.ux;exact⟨s,b,c.box 0 rfl,(c.bo 3 [1]).OE fun _=>rfl,(aa.Dk (c.bo 3 [1])).1⟩
theorem aac(s b:Sl)(c:cw h a cC (gJ pw d s b)):ac vV Fo #[vN (some a)] h fun v h'=>v=vL vR d.room/\h'=h:=by
 refine DP (some a) ?_;unfold sS;exact bA (fun e=>by cases e) fun _=>⟨a,rfl,_,c.cell rfl,rfl,rfl⟩
theorem Pj(s b:Sl)(f:cw h a cC (gJ pw d s b))(c:s.len=d.l.length):ac vV GL #[vN (some a)] h fun v h'=>v=vL vR (d.l.length:Int)/\h'=h:=by
 refine Fs (some a) ?_;unfold ua;exact bA (fun e=>by cases e) fun _=>⟨a,rfl,_,f.cell rfl,by rw[c],rfl⟩
theorem Hg(s b:Sl)(c:cw h a cC (gJ pw d s b)):ac vV Fj #[vN (some a)] h fun v h'=>v=vP d.lost/\h'=h:=by
 refine DL (some a) ?_;unfold sN;exact bA (fun _=>⟨a,rfl,_,c.cell rfl,rfl,rfl⟩) fun e=>by cases e
theorem JZ(l:Sl)(a:Cells)(h:Heap)(f:gg h l 1 aC a)(x:a.length<=2^20)(q:∀c∈a,c.length<=2^20):ac vV Sk #[vM l.ptr l.len l.cap] h fun v h'=>∃r:Sl,v=vM r.ptr r.len r.cap/\Sp h h' [dP r a]:=by
 refine PU l ?_;unfold IN;have n:=f.len;refine av (fun t:Sl×Nat=>(t.1,(t.2:Int))) (fun t h'=>t.2<=a.length/\Sp h h' [dP t.1 (a.take t.2)]) (fun t=>a.length-t.2) (⟨none,0,0⟩,0) rfl ⟨by simp,by simpa using(Sp.refl h).FN aF aD 1 aC⟩ ?_;rintro⟨s,i⟩ p ⟨u,d⟩;dsimp only at*;refine ak (fun e=>?_) (fun e=>?_)
 ·have b:i<a.length:=by omega
  refine(f.up d.ai).get i rfl b fun r m=>?_;have:=q _ (qg b);refine(fH r _ p m (by omega)).mono ?_;rintro _ w ⟨o,rfl,k⟩;refine⟨o,rfl,?_⟩;refine aa.HU ae (d.comp k) fq (by simp;omega) fun g h3 j=>?_;refine⟨(g,i+1),by dsimp only;rw[Go.Vc.wrap_small _ (by omega) (by omega)];rfl,⟨by dsimp only;omega,?_⟩,by dsimp only;omega⟩;dsimp only;rw[aH _ _ b];exact j
 ·rw[qi (by omega)]at d;exact⟨s,rfl,d⟩
theorem SY(s b:Sl)(g:cw h a cC (gJ pw d s b))(j:gg h s 1 aC d.l)(ok:gc d):ac vV Gs #[vN (some a)] h fun v h'=>∃r:Sl,v=vM r.ptr r.len r.cap/\Sp h h' [dP r d.l]:=by
 refine Fk (some a) ?_;unfold tZ;have:=ok.len;have:=ok.room;refine bA (fun e=>by cases e) fun _=>⟨a,rfl,s,g.cell rfl,(JZ s d.l h j (by omega) fun c f=>by rw[ok.cell c f];decide).mono ?_⟩
 rintro _ k ⟨r,rfl,i⟩;exact⟨r,rfl,r,rfl,i⟩
end
theorem acq(b:Sl)(l:List UInt8)(h:Heap)(q:Rd h b 1 aC l)(A:l.length<=2^40):ac vV XK #[vM b.ptr b.len b.cap] h fun v h'=>v=vL vT (BY l).toNat/\h'=h:=by
 refine UV b ?_;unfold OZ;have E:=q.len;refine av (fun t:Nat=>(((uh (l.take t)).toNat:Int),(t:Int))) (fun t h'=>t<=l.length/\h'=h) (fun t=>l.length-t) 0 rfl ⟨by omega,rfl⟩ ?_;rintro i w ⟨B,rfl⟩;refine ak (fun e=>?_) (fun e=>?_)
 ·have d:i<l.length:=by
   have x:(i:Int)<(b.len:Int):=e;omega
  refine q.bv i rfl d (l[i].toNat:Int) rfl ?_;have y:qc vT (l[i].toNat:Int)=((vB 32 l[i].toNat).toNat:Int):=by rw[OI,wP]
  rw[y,Xj];refine av (fun k:Nat=>(((BX k (uh (l.take i)^^^vB 32 l[i].toNat)).toNat:Int),(k:Int))) (fun k h'=>k<=8/\h'=w) (fun k=>8-k) 0 rfl ⟨by omega,rfl⟩ ?_;rintro k p ⟨D,rfl⟩;obtain⟨c,o⟩:∃c,c=BX k (uh (l.take i)^^^vB 32 l[i].toNat):=⟨_,rfl⟩
  dsimp only;rw[<-o];refine ak (fun e2=>⟨by decide,?_⟩) (fun e2=>?_)
  ·have a:∀n:sq,n=KK c->∃f:Nat,(((n.toNat:Nat):Int),qc vR ((k:Int)+1))=(((BX f (uh (l.take i)^^^vB 32 l[i].toNat)).toNat:Int),(f:Int))/\(f<=8/\p=p)/\8-f<8-k:=fun n u=>
    ⟨k+1,by rw[Go.Vc.wrap_small _ (by omega) (by omega),u,o];rfl,⟨by omega,rfl⟩,by omega⟩
   have s:qc vT ((qA (qk vT) (c.toNat:Int)&&&qA (qk vT) (1:Int)).toNat:Nat)=((c&&&1#32).toNat:Int):=agp c 1#32;have r:qc vT ((qA (qk vT) ((c>>>1).toNat:Int)^^^qA (qk vT) (3988292384:Int)).toNat:Nat)=(((c>>>1)^^^3988292384#32).toNat:Int):=Xj (c>>>1) 3988292384#32;rw[s,aed,r];refine cx (fun j=>a _ ?_) (fun j=>a _ ?_)
   ·unfold KK;rw[if_pos ((Wj c).1 j)]
   ·unfold KK;rw[if_neg (fun z=>j ((Wj c).2 z))]
  ·have g:k=8:=by omega
   subst g;refine⟨i+1,?_,⟨by omega,rfl⟩,by omega⟩;rw[Go.Vc.wrap_small _ (by omega) (by omega),aH _ _ d,Xi,o];rfl
 ·have m:i=l.length:=by
   have x:¬(i:Int)<(b.len:Int):=e;omega
  subst m;refine⟨?_,rfl⟩;rw[qR];exact congrArg (Value.int .u32) (Xj 4294967295#32 (uh l))
theorem Hi(a:Int)(b:Sl)(l:List UInt8)(h:Heap)(z:Rd h b 1 aC l)(M:l.length<=2^40):ac vV UR #[vL vR a,vM b.ptr b.len b.cap] h fun v h'=>∃r:Sl,v=vM r.ptr r.len r.cap/\Sp h h' [an aD r 1 aC (dW a l)]:=by
 refine SB a b ?_;unfold Lv;have S:=z.len;have g:¬(1<=a/\a<=255/\l.length<=55)->∃r:Sl,Value.slice none 0 0=vM r.ptr r.len r.cap/\Sp h h [an aD r 1 aC (dW a l)]:=fun e=>by
  unfold dW;rw[if_neg e];exact⟨⟨none,0,0⟩,rfl,(Sp.refl h).nil aD 1 aC⟩
 refine ba (ak (fun e=>g (by omega)) fun R=>ak (fun e=>g (by omega)) fun e2=>ak (fun e=>g (by omega)) fun Q=>?_);refine(Sp.refl h).make ae aC fP (by decide) 0 rfl rfl 64 64 rfl rfl (ql _) (by decide) fun o x n u D=>?_;rw[dM];refine D.lit ae aC fP rfl [87,115,1,b8 a] rfl (show 4*1<=2^20 by decide) rfl fun v3 h3 w=>?_;refine w.KB ae 0 rfl fP (fun _=>rfl) (w.seq 1 rfl fun _=>rfl) ge fun _ q k=>⟨⟨by decide,by rw[n];decide⟩,?_⟩
 have k:Sp h q [an aD o 1 aC ([87,115,1,b8 a]++qh 60 0)]:=by
  have:=k.bV [0];simpa using this
 refine k.RD ae 0 rfl fP (fun _=>rfl) (Seq.up z k.ai) ge 4 (by simp) rfl rfl fun _ A p=>⟨⟨by decide,by rw[u];decide⟩,?_⟩
 have L:([87,115,1,b8 a]++qh 60 0).take 4++(l.take (([87,115,1,b8 a]++qh 60 (0:UInt8)).length-4)++([87,115,1,b8 a]++qh 60 0).drop (4+l.length))=dE a l++qh 5 0:=by
  have I:([87,115,1,b8 a]++qh 60 (0:UInt8)).length=64:=by simp
  rw[I,qi (l:=l) (by omega),<-zx];have x:([87,115,1,b8 a]++qh 60 (0:UInt8)).drop 4=qh 60 0:=rfl;have h3:([87,115,1,b8 a]++qh 60 (0:UInt8)).take 4=[87,115,1,b8 a]:=rfl;rw[x,h3,List.drop_replicate];unfold dE;have q:qh (60-l.length) (0:UInt8)=qh (55-l.length) 0++qh 5 0:=by rw[yF];congr 1;omega
  rw[q];simp[qo]
 rw[L]at p;have d:(dE a l).length=59:=FR (by omega);have E:Rd A ⟨o.ptr,59,o.cap⟩ 1 aC (dE a l):=by
  have:=(p.seq 0 rfl fun _=>rfl).take 59 (by simp[d]);rw[w9 (by omega),qi (by omega)]at this;exact this
 refine(acq ⟨o.ptr,59,o.cap⟩ (dE a l) A E (by omega)).mono ?_;rintro _ P ⟨rfl,rfl⟩;obtain⟨c,B⟩:∃c,c=BY (dE a l):=⟨_,rfl⟩
 rw[<-B];refine⟨_,rfl,?_⟩;refine av (fun i:Nat=>(i:Int)) (fun i h'=>i<=4/\Sp h h' [an aD o 1 aC (dE a l++((oa c).take i++qh (5-i) 0))]) (fun i=>4-i) 0 rfl ⟨by omega,by simpa using p⟩ ?_;rintro i O ⟨N,y⟩;have f:=RF c;refine ak (fun e=>?_) (fun e=>?_)
 ·have H:i<4:=by
   have J:(i:Int)<4:=e;omega
  rw[Go.Vc.wrap_small ((8:Int)*i) (by omega) (by omega),Go.Vc.wrap_small ((59:Int)+i) (by omega) (by omega)];refine⟨by omega,?_⟩;have K:((8:Int)*(i:Int)).toNat=8*i:=by omega
  have F:min (8*i) (qk vT)=8*i:=by
   have:qk vT=32:=rfl;omega
  rw[K,F,dM];have G:b8 (qS (c.toNat:Int) (2^(8*i)))=(oa c)[i]'(by omega):=by simp[oa]
  rw[G];refine y.set ae 0 rfl (fun _=>rfl) rfl (59+i) (by omega) (by simp[d];omega) ((oa c)[i]'(by omega)) rfl rfl rfl fun h8 j=>?_;refine⟨i+1,by rw[Go.Vc.wrap_small _ (by omega) (by omega)];rfl,⟨by omega,?_⟩,by omega⟩;have m:(dE a l++((oa c).take i++qh (5-i) 0)).set (59+i) ((oa c)[i]'(by omega))=dE a l++((oa c).take (i+1)++qh (5-(i+1)) 0):=by
   rw[za _ _ (by omega),d,zk,za _ _ (by simp;omega),aH _ _ (by omega)];have:5-i=(5-(i+1))+1:=by omega
   rw[this,yG];simp[f,wJ (show i<=4 by omega)];rw[aH _ _ (show i<(oa c).length by omega),qo];rfl
  rw[m]at j;exact j
 ·have s:i=4:=by
   have J:¬(i:Int)<4:=e;omega
  subst s;refine y.set ae 0 rfl (fun _=>rfl) rfl 63 rfl (by simp[d,f]) 165 rfl rfl rfl fun h8 j=>⟨o,rfl,?_⟩
  have t:(dE a l++((oa c).take 4++qh (5-4) 0)).set 63 165=dW a l:=by
   unfold dW;rw[if_pos ⟨by omega,by omega,by omega⟩,<-B,qi (by omega),za _ _ (by omega),d,za _ _ (by simp[f])];simp[f]
  rw[t]at j;exact j
end Go.Proofs.YtdhamoojccmbdaaGreatDoor
namespace Go.Vc
open Go Wl
abbrev dV:=ByteArray×Int×Int×Sl
abbrev cg:=Int×Int×Int×Int×Int×Int×Sl×Sl
abbrev bH(x:dV):List Value:=[vO x.1,vL vR x.2.1,vL vR x.2.2.1,vM x.2.2.2.ptr x.2.2.2.len x.2.2.2.cap]
abbrev aV(x:cg):List Value:=[vL vR x.1,vL vR x.2.1,vL vR x.2.2.1,vL vR x.2.2.2.1,vL vR x.2.2.2.2.1,vL vR x.2.2.2.2.2.1,vM x.2.2.2.2.2.2.1.ptr x.2.2.2.2.2.2.1.len x.2.2.2.2.2.2.1.cap,vM x.2.2.2.2.2.2.2.ptr x.2.2.2.2.2.2.2.len x.2.2.2.2.2.2.2.cap]
abbrev ft(x:cg):Value:=vQ #[vL vR x.1,vL vR x.2.1,vL vR x.2.2.1,vL vR x.2.2.2.1,vL vR x.2.2.2.2.1,vL vR x.2.2.2.2.2.1,vM x.2.2.2.2.2.2.1.ptr x.2.2.2.2.2.2.1.len x.2.2.2.2.2.2.1.cap,vM x.2.2.2.2.2.2.2.ptr x.2.2.2.2.2.2.2.len x.2.2.2.2.2.2.2.cap]
def nQ:iC dV Wl.bW:=⟨fun h q a b=>(a.1=b.name/\a.2.1=b.object/\a.2.2.1=b.length)/\Seq h q a.2.2.2 1 aE b.tries,fun a d=>⟨a.1,a.2.ai d⟩,fun a c=>⟨a.1,a.2.mono c⟩⟩
abbrev uP:iC Sl (List Wl.bW):=cm nQ 4 bH
structure uy (h:Heap) (q:aA) (x:cg) (m:aG):Prop where
 seq:x.1=m.seq
 next:x.2.1=m.next
 p:(x.2.2.1,x.2.2.2.1,x.2.2.2.2.1)=m.p
 extra:x.2.2.2.2.2.1=m.extra
 drives:Seq h q x.2.2.2.2.2.2.1 1 aE m.drives
 objs:uP.p h q x.2.2.2.2.2.2.2 m.objs
 dcap:x.2.2.2.2.2.2.1.len<=x.2.2.2.2.2.2.1.cap
 ocap:x.2.2.2.2.2.2.2.len<=x.2.2.2.2.2.2.2.cap
abbrev eG(h:Heap)(x:cg)(m:aG):Prop:=uy h (fun b=>b<h.size) x m
theorem uy.ai{h h':Heap}{q:aA}{x:cg}{m:aG}(a:uy h q x m)(b:aU q h h'):uy h' q x m:=⟨a.seq,a.next,a.p,a.extra,a.drives.ai b,uP.loc a.objs b,a.dcap,a.ocap⟩
theorem uy.mono{h:Heap}{q q':aA}{x:cg}{m:aG}(a:uy h q x m)(c:∀b,q b->q' b):uy h q' x m:=⟨a.seq,a.next,a.p,a.extra,a.drives.mono c,uP.mono a.objs c,a.dcap,a.ocap⟩
theorem eG.up{h h':Heap}{x:cg}{m:aG}(a:eG h x m)(c:aU (fun b=>b<h.size) h h'):eG h' x m:=(uy.ai a c).mono fun _ d=>qV d c.1
def cO(x:cg)(m:aG):HP:=⟨fun h q=>uy h q x m,fun a c=>a.ai c,fun a b=>a.mono b⟩
theorem Od:∀x,∀c∈bH x,c.oneCell'=true:=by intro x c a;simp[bH]at a;rcases a with rfl|rfl|rfl|rfl<;>rfl
end Go.Vc
namespace Go.Proofs.YtdhamoojccmbdaaGreatDoor
open Go Go.Vc Go.Proofs Wl
theorem rI(n a b:Int)(h:Heap):ac vV ND #[vL vR n,vL vR a,vL vR b] h fun v h'=>v=vP (eS n a b)/\h'=h:=by
 refine Lp n a b ?_;unfold EH eS;refine ak (fun e=>⟨?_,rfl⟩) (fun e=>⟨?_,rfl⟩)
 ·rw[decide_eq_true (show a<=n from e)];rfl
 ·rw[decide_eq_false (show¬a<=n from e)];rfl
theorem Pk(s:ByteArray)(h:Heap)(F:s.size<=2^40):ac vV Sv #[vO s] h fun v h'=>v=vP (jF s)/\Sp h h' []:=by
 refine Qa s ?_;unfold IS;refine aee ae ⟨_,rfl,rfl⟩ ⟨_,rfl,rfl⟩ ⟨_,rfl,rfl⟩ s fun r D o=>?_;have w:=o.rd 0 rfl;have z:=w.len;have B:=Dn s;refine av (fun i:Nat=>(i:Int)) (fun i h'=>i<=s.size/\h'=D/\∀c∈(iz s).take i,mh c=true) (fun i=>s.size-i) 0 rfl ⟨by omega,rfl,by simp⟩ ?_;rintro i p ⟨G,rfl,d⟩;refine ak (fun e=>?_) (fun e=>?_)
 ·have j:i<(iz s).length:=by
   have E:(i:Int)<(r.len:Int):=e;omega
  refine w.bv i rfl j ((iz s)[i].toNat:Int) rfl ?_;obtain⟨c,u⟩:∃c,c=(iz s)[i]:=⟨_,rfl⟩
  rw[<-u];have a:mh c=true->∃n:Nat,qc vR ((i:Int)+1)=(n:Int)/\(n<=s.size/\p=p/\∀c∈(iz s).take n,mh c=true)/\s.size-n<s.size-i:=fun q=>
   ⟨i+1,by rw[Go.Vc.wrap_small _ (by omega) (by omega)];rfl,⟨by omega,rfl,fun x k=>by
    rw[aH _ _ j]at k;rcases qE.1 k with k|k
    ·exact d x k
    ·rw[qG.1 k,<-u];exact q⟩,by omega⟩
  have g:mh c=false->Value.bool false=vP (jF s)/\Sp h p []:=fun q=>by
   refine⟨?_,o.bV []⟩;unfold jF;have:s.data.toList.all mh=false:=ye.2 ⟨c,by rw[u];exact qg j,by rw[q];simp⟩;rw[this];rfl
  have b:mh c=true↔((97<=(c.toNat:Int)/\(c.toNat:Int)<=122)∨(48<=(c.toNat:Int)/\(c.toNat:Int)<=57)∨(c.toNat:Int)=45):=by
   unfold mh;simp[or_assoc];omega
  have f:mh c=false↔¬((97<=(c.toNat:Int)/\(c.toNat:Int)<=122)∨(48<=(c.toNat:Int)/\(c.toNat:Int)<=57)∨(c.toNat:Int)=45):=by
   rw[<-b];cases mh c<;>simp
  refine ak (fun t=>ak (fun e2=>bQ (fun m=>g (f.2 (by omega))) fun m=>a (b.2 (by omega))) fun e2=>ak (fun m=>bQ (fun l=>g (f.2 (by omega))) fun l=>a (b.2 (by omega))) fun m=>a (b.2 (by omega))) fun t=>ak (fun e2=>ak (fun m=>bQ (fun l=>g (f.2 (by omega))) fun l=>a (b.2 (by omega))) fun m=>ak (fun l=>bQ (fun A=>g (f.2 (by omega))) fun A=>a (b.2 (by omega))) fun l=>a (b.2 (by omega))) fun e2=>a (b.2 (by omega))
 ·have E:¬(i:Int)<(r.len:Int):=e;rw[qi (by omega)]at d;have y:s.data.toList.all mh=true:=qM.2 d;refine ak (fun t=>⟨?_,o.bV []⟩) (fun t=>⟨?_,o.bV []⟩)
  ·unfold jF;rw[y,decide_eq_true (show 1<=s.size by omega)];congr 1;simp;omega
  ·unfold jF;rw[y,decide_eq_false (show¬1<=s.size by omega)];rfl
theorem aad(s:Sl)(l:List Int)(a:Int)(h:Heap)(p:Rd h s 1 aE l)(z:l.length<=2^40):ac vV Sz #[vM s.ptr s.len s.cap,vL vR a] h fun v h'=>v=vP (oZ l a)/\h'=h:=by
 refine Qf s a ?_;unfold IV;have t:=p.len;refine av (fun i:Nat=>(i:Int)) (fun i h'=>i<=l.length/\h'=h/\∀j,j<i->jg l a j=true) (fun i=>l.length-i) 0 rfl ⟨by omega,rfl,by omega⟩ ?_;rintro i m ⟨y,rfl,b⟩;refine ak (fun e=>?_) (fun e=>?_)
 ·have d:i<l.length:=by
   have x:(i:Int)<(s.len:Int):=e;omega
  refine p.bv i rfl d l[i] rfl ?_;have o:l.getD i 0=l[i]:=getD_lt d;have f:jg l a i=false->Value.bool false=vP (oZ l a)/\m=m:=fun q=>⟨by unfold oZ;rw[FS d q],rfl⟩
  have c:jg l a i=true->∃n:Nat,qc vR ((i:Int)+1)=(n:Int)/\(n<=l.length/\m=m/\∀j,j<n->jg l a j=true)/\l.length-n<l.length-i:=fun q=>
   ⟨i+1,by rw[Go.Vc.wrap_small _ (by omega) (by omega)];rfl,⟨by omega,rfl,fun j u=>by
    by_cases r:j=i
    ·rw[r];exact q
    ·exact b j (by omega)⟩,by omega⟩
  refine(rI l[i] 0 a m).mono ?_;rintro _ _ ⟨rfl,rfl⟩;refine⟨_,rfl,bg (fun k=>f (by unfold jg;rw[o,k];rfl)) fun k=>ak (fun e2=>?_) fun e2=>c (by unfold jg;rw[o,k,decide_eq_true (show i=0 by omega)];rfl)⟩;rw[Go.Vc.wrap_small ((i:Int)-1) (by omega) (by omega)];refine p.bv (i-1) (by omega) (by omega) (l[i-1]'(by omega)) rfl ?_;have g:l.getD (i-1) 0=l[i-1]'(by omega):=getD_lt (by omega);refine ak (fun w=>f ?_) (fun w=>c ?_)
  ·unfold jg;rw[o,g,k,decide_eq_false (show¬i=0 by omega),decide_eq_false (by omega)];rfl
  ·unfold jg;rw[o,g,k,decide_eq_true (show l[i-1]'(by omega)<l[i]by omega)];simp
 ·have x:¬(i:Int)<(s.len:Int):=e;exact⟨by unfold oZ;rw[tw fun j u=>b j (by omega)],rfl⟩
theorem uz(p:Pm)(n:Int)(h:Heap)(r:n<=2^40):ac vV Nr #[kB p,vL vR n] h fun v h'=>v=vL vR (countP p n)/\Sp h h' []:=by
 refine La p n ?_;unfold Ev;refine(Sp.refl h).boxed fun m f g=>?_;refine ba ⟨p,(g.box 0 rfl).aQ _ rfl,(dN p f).mono ?_⟩;rintro _ k ⟨rfl,i⟩;have b:=g.up i.ai;refine⟨_,rfl,bg (fun e=>⟨?_,b.bV []⟩) fun d=>ak (fun e=>⟨?_,b.bV []⟩) fun e=>?_⟩
 ·unfold countP;rw[e];rfl
 ·unfold countP;rw[decide_eq_false (show¬0<n by omega),Bool.and_false];rfl
 ·have j:=(bU p).1 d;refine⟨p,(b.box 0 rfl).aQ _ rfl,?_⟩;refine(Cm p (R:=fun v h'=>v=vL vR (p.1*p.2.2)/\Sp h h' []) ?_).mono ?_
  ·unfold xk;refine b.boxed fun q h3 c=>⟨p.1,(c.box 1 rfl).cell0 rfl,p.2.2,(c.box 1 rfl).cell rfl,?_,c.bV []⟩
   have o:p.1*p.2.2<=16*24:=wu (by omega) (by omega) (by omega) (by omega);have a:0<=p.1*p.2.2:=vm (by omega) (by omega);rw[Go.Vc.wrap_small _ (by omega) (by omega)]
  ·rintro _ h3 ⟨rfl,l⟩;have a:0<p.1*p.2.2:=vF (by omega) (by omega);refine⟨_,rfl,Int.ne_of_gt a,?_,l⟩;have f:(n-1)/(p.1*p.2.2)<=n-1:=Int.ediv_le_self _ (by omega);have k:0<=(n-1)/(p.1*p.2.2):=Int.ediv_nonneg (by omega) (by omega);rw[Go.Vc.wrap_small (n-1) (by omega) (by omega),Int.tdiv_eq_ediv_of_nonneg (by omega),Go.Vc.wrap_small ((n-1)/(p.1*p.2.2)) (by omega) (by omega),Go.Vc.wrap_small _ (by omega) (by omega)];unfold countP;rw[d,decide_eq_true (show 0<n by omega)];rfl
theorem Vj(s:Sl)(l:List Int)(h:Heap)(d:Rd h s 1 aE l)(k:l.length<=2^40):ac vV jK #[vM s.ptr s.len s.cap,.func (.func pC) #[] #[]] h fun v h'=>v=vP (!l.all (eS · 0 15))/\h'=h:=by
 refine jv s (pC,#[],#[]) ?_;unfold gI;have g:=d.len;refine(gX s (pC,#[],#[]) (R:=fun v h'=>(∃i:Int,v=vL vR i/\(decide (i>=0)=!l.all (eS · 0 15)))/\h'=h) ?_).mono ?_
 ·unfold fL;refine av (fun i:Nat=>(i:Int)) (fun i h'=>i<=l.length/\(l.take i).all (eS · 0 15)=true/\h'=h) (fun i=>l.length-i) 0 rfl ⟨by omega,by simp,rfl⟩ ?_;rintro i c ⟨f,a,rfl⟩;refine ak (fun e=>?_) (fun e=>?_)
  ·have b:i<l.length:=by
    have j:(i:Int)<(s.len:Int):=e;omega
   refine d.bv i rfl b l[i] rfl (eU (by rfl) ?_);refine(JP l[i] (R:=fun v h'=>v=vP (!eS l[i] 0 15)/\h'=c) ?_).mono ?_
   ·unfold Cw;refine(rI l[i] 0 15 c).mono ?_;rintro _ _ ⟨rfl,rfl⟩;exact⟨_,rfl,rfl,rfl⟩
   ·rintro _ _ ⟨rfl,rfl⟩;refine⟨_,rfl,bg (fun e2=>?_) (fun e2=>?_)⟩
    ·refine⟨⟨i,rfl,?_⟩,rfl⟩;rw[decide_eq_true (show(i:Int)>=0 by omega)];have:l.all (eS · 0 15)=false:=ye.2 ⟨_,qg b,by rw[e2];simp⟩;rw[this];rfl
    ·refine⟨i+1,by rw[Go.Vc.wrap_small _ (by omega) (by omega)];rfl,⟨by omega,?_,rfl⟩,by omega⟩;rw[aH _ _ b,yz,a];simp[e2]
  ·have j:¬(i:Int)<(s.len:Int):=e;refine⟨⟨-1,rfl,?_⟩,rfl⟩;rw[qi (by omega)]at a;rw[a];rfl
 ·rintro _ c ⟨⟨i,rfl,f⟩,rfl⟩;exact⟨i,rfl,by rw[f],rfl⟩
end Go.Proofs.YtdhamoojccmbdaaGreatDoor
namespace Wl
structure db (m:aG):Prop where
 dr:m.drives.length<=2^30
 ob:m.objs.length<=2^30
 nm:∀e∈m.objs,e.name.size<=2^30/\e.tries.length<=2^30
end Wl
namespace Go.Vc
open Go
theorem addr_add(a:Addr)(i j:Nat):(a.add i).add j=a.add (i+j):=by
 unfold Addr.add;by_cases b:i=0<;>by_cases c:j=0<;>simp[b,c,yn]
theorem cw.xx{h:Heap}{a:Addr}{e:TypeId}{b:List Value}{v:Value}(c:cw h a e b)(i j:Nat)(d:b[i+j]?=some v):cellOf h ((a.add i).add j)=some v:=by
 rw[addr_add];exact c.cell d
theorem cw.AK{h:Heap}{a:Addr}{e:TypeId}{b:List Value}{u v w:Value}(c:cw h a e b)(i:Nat)(d:b[i]?=some u)(f:b[i+1]?=some v)(g:b[i+2]?=some w):aj h (a.add i) 0 [u,v,w]:=
 ⟨c.xx i 0 d,c.xx i 1 f,c.xx i 2 g,trivial⟩
end Go.Vc
namespace Go.Proofs.YtdhamoojccmbdaaGreatDoor
open Go Go.Vc Go.Proofs Wl
abbrev Oe:bN C.toBR No aX 4 [vO ⟨#[]⟩,vL vR 0,vL vR 0,vM none 0 0] 56:=⟨_,_,rfl,rfl,rfl,rfl,rfl,rfl⟩
theorem XR(x:cg)(m:aG)(e:dV)(E:Wl.bW)(h:Heap)(k:eG h x m)(y:fA nQ h e E)(I:ki m=true)(R:E.name.size<=2^30)(L:E.tries.length<=2^30):
  ac vV Qg #[ft x,vQ #[vO e.1,vL vR e.2.1,vL vR e.2.2.1,vM e.2.2.2.ptr e.2.2.2.len e.2.2.2.cap]] h fun v h'=>v=vP (gj m E)/\Sp h h' []:=by
 refine NE x e ?_;unfold GB;obtain⟨_,F,c,_⟩:=RG I;have z:=(bU m.p).1 c;obtain⟨⟨H,e2,u⟩,s⟩:=y;have g:x.2.2.1=m.p.1:=congrArg (·.1) k.p;have n:x.2.2.2.1=m.p.2.1:=congrArg (·.2.1) k.p;have f:x.2.2.2.2.1=m.p.2.2:=congrArg (·.2.2) k.p;have O:m.p.1*m.p.2.2<=16*24:=wu (by omega) (by omega) (by omega) (by omega);have G:0<=m.p.1*m.p.2.2:=vm (by omega) (by omega);refine(Sp.refl h).boxed fun M Q K=>?_;refine K.boxed fun P A r=>?_;have j:∀{h':Heap} {As:List HP},Sp h h' As->gj m E=false->Value.bool false=vP (gj m E)/\Sp h h' []:=fun{h' As} H' d=>⟨by rw[d],.zip H'.ai⟩
 refine ba ⟨E.name,by rw[<-H];exact(r.box 1 rfl).cell0 rfl,(Pk E.name A (by omega)).mono ?_⟩;rintro _ h3 ⟨rfl,D⟩;have a:=r.up D.ai;refine⟨_,rfl,bg (fun b=>j a (by unfold gj;rw[b];rfl)) fun l=>?_⟩;refine⟨E.object,by rw[<-e2];exact(a.box 1 rfl).cell rfl,m.next,by rw[<-k.next];exact(a.box 0 rfl).cell rfl,?_⟩;rw[Go.Vc.wrap_small (m.next-1) (by omega) (by omega)];refine(rI E.object 0 (m.next-1) h3).mono ?_;rintro _ _ ⟨rfl,rfl⟩;refine⟨_,rfl,bg (fun b=>j a (by unfold gj;rw[l,b];rfl)) fun o=>?_⟩;have d:=a.box 0 rfl;refine⟨E.length,by rw[<-u];exact(a.box 1 rfl).cell rfl,m.p.1,by rw[<-g];exact d.cell rfl,m.p.2.2,by rw[<-f];exact d.xx 2 2 rfl,?_⟩;rw[Go.Vc.wrap_small (m.p.1*m.p.2.2) (by omega) (by omega),Go.Vc.wrap_small (m.p.1*m.p.2.2*8) (by omega) (by omega)];refine(rI E.length 0 (m.p.1*m.p.2.2*8) _).mono ?_;rintro _ _ ⟨rfl,rfl⟩;refine⟨_,rfl,bg (fun b=>j a (by unfold gj;rw[l,o,b];rfl)) fun i=>?_⟩;have w:0<=E.length/\E.length<=m.p.1*m.p.2.2*8:=by unfold eS at i;simpa using i
 refine⟨e.2.2.2,(a.box 1 rfl).cell rfl,?_⟩;refine(Vj e.2.2.2 E.tries _ (Seq.up s a.ai) (by omega)).mono ?_;rintro _ _ ⟨rfl,rfl⟩;refine⟨_,rfl,bg (fun b=>?_) (fun b=>⟨trivial,j a ?_⟩)⟩
 ·have q:E.tries.all (eS · 0 15)=true:=by simpa using b
  refine⟨e.2.2.2,(a.box 1 rfl).cell rfl,m.p,?_,E.length,by rw[<-u];exact(a.box 1 rfl).cell rfl,?_⟩
  ·rw[<-g,<-n,<-f];exact d.AK 2 rfl rfl rfl
  ·refine(uz m.p E.length _ (by omega)).mono ?_;rintro _ N ⟨rfl,B⟩;have t:=a.up B.ai;refine⟨_,rfl,⟨(t.box 1 rfl).cell rfl,trivial⟩,?_,.zip t.ai⟩;unfold gj;have J:=s.len;rw[l,o,i,q,J];simp;rfl
 ·have q:E.tries.all (eS · 0 15)=false:=by simpa using b
  unfold gj;rw[l,o,i,q];rfl
theorem Vk(a:Addr)(e:dV)(l:Sl)(b:List Wl.bW)(h:Heap)(q:cw h a aX (bH e))(r:fA uP h l b)(D:b.length<=2^30):
  ac vV fW #[vM l.ptr l.len l.cap,.func (.func tG) #[] #[vN (some a)]] h fun v h'=>v=vP (b.any fun y=>decide (y.object=e.2.1))/\Sp h h' []:=by
 refine fN l (tG,#[],#[vN (some a)]) ?_;unfold dT;refine(gw l (tG,#[],#[vN (some a)]) (R:=fun v h'=>(∃i:Int,v=vL vR i/\(decide (i>=0)=b.any fun y=>decide (y.object=e.2.1)))/\Sp h h' []) ?_).mono ?_
 ·unfold eT;obtain⟨p,A,F,z⟩:=cm.oW r;have u:=cm.len r;refine av (fun i:Nat=>(i:Int)) (fun i h'=>i<=b.length/\(b.take i).any (fun y=>decide (y.object=e.2.1))=false/\Sp h h' []) (fun i=>b.length-i) 0 rfl ⟨by omega,by simp,Sp.refl h⟩ ?_;rintro i m ⟨o,c,j⟩;refine ak (fun k=>?_) (fun k=>?_)
  ·have d:i<b.length:=by
    have B:(i:Int)<(l.len:Int):=k;omega
   obtain⟨⟨_,x,_⟩,_⟩:=z i (by omega) d;refine(Seq.up A j.ai).dD (g:=bH) i rfl (by omega) (p[i]'(by omega)) rfl (eU (by rfl) ?_);refine(NF (p[i]'(by omega)) a (R:=fun v h'=>v=vP (b[i].object==e.2.1)/\Sp m h' []) ?_).mono ?_
   ·unfold GC;refine(Sp.refl m).boxed fun E t f=>?_;have n:=q.ai (up j.ai f.ai) q.lt;exact⟨b[i].object,by rw[<-x];exact(f.box 0 rfl).cell rfl,e.2.1,n.cell rfl,rfl,.zip f.ai⟩
   ·rintro _ t ⟨rfl,s⟩;have f:=j.up s.ai;refine⟨_,rfl,cx (fun e2=>?_) (fun e2=>?_)⟩
    ·refine⟨⟨i,rfl,?_⟩,f⟩;rw[decide_eq_true (show(i:Int)>=0 by omega)];exact(wR.2 ⟨_,qg d,by simpa using e2⟩).symm
    ·refine⟨i+1,by rw[Go.Vc.wrap_small _ (by omega) (by omega)];rfl,⟨by omega,?_,f⟩,by omega⟩;rw[aH _ _ d,yP,c];simpa using e2
  ·have B:¬(i:Int)<(l.len:Int):=k;refine⟨⟨-1,rfl,?_⟩,j⟩;rw[qi (by omega)]at c;rw[c];rfl
 ·rintro _ m ⟨⟨i,rfl,o⟩,w⟩;exact⟨i,rfl,by rw[o],w⟩
theorem Ka(x:cg)(m:aG)(h:Heap)(d:eG h x m)(J:db m):ac vV UL #[ft x] h fun v h'=>v=vP (bS m)/\Sp h h' []:=by
 refine Sn x ?_;unfold Lf;refine(Sp.refl h).boxed fun R h1 G=>?_;have y:=G.box 0 rfl;have O:x.2.2.1=m.p.1:=congrArg (·.1) d.p;have L:x.2.2.2.1=m.p.2.1:=congrArg (·.2.1) d.p;have N:x.2.2.2.2.1=m.p.2.2:=congrArg (·.2.2) d.p;have w:∀{h':Heap} {As:List HP},Sp h h' As->bS m=false->Value.bool false=vP (bS m)/\Sp h h' []:=fun{h' As} H' y=>⟨by rw[y],.zip H'.ai⟩
 refine ba ⟨m.seq,by rw[<-d.seq];exact y.cell0 rfl,(rI m.seq 1 2147483647 h1).mono ?_⟩;rintro _ _ ⟨rfl,rfl⟩;refine⟨_,rfl,bg (fun b=>w G (by unfold bS ki;rw[b];rfl)) fun H=>?_⟩;refine⟨m.next,by rw[<-d.next];exact y.cell rfl,(rI m.next 0 16777216 _).mono ?_⟩;rintro _ _ ⟨rfl,rfl⟩;refine⟨_,rfl,bg (fun b=>w G (by unfold bS ki;rw[H,b];rfl)) fun S=>?_⟩;refine⟨m.p,by rw[<-O,<-L,<-N];exact y.AK 2 rfl rfl rfl,(dN m.p _).mono ?_⟩;rintro _ h2 ⟨rfl,R2⟩;have o:=G.up R2.ai;refine⟨_,rfl,bg (fun b=>w o (by unfold bS ki;rw[H,S,b];rfl)) fun X=>?_⟩;refine⟨m.extra,by rw[<-d.extra];exact(o.box 0 rfl).cell rfl,(rI m.extra 0 16 _).mono ?_⟩;rintro _ _ ⟨rfl,rfl⟩;refine⟨_,rfl,bg (fun b=>w o (by unfold bS ki;rw[H,S,X,b];rfl)) fun b4=>?_⟩;have F:ki m=true:=by unfold ki;rw[H,S,X,b4];rfl
 have Q:=d.up o.ai;have A:=o.box 0 rfl;have ah:=J.dr;have am:=J.ob;refine ba ⟨_,A.cell rfl,(aad _ m.drives 63 _ Q.drives (by omega)).mono ?_⟩;rintro _ _ ⟨rfl,rfl⟩;refine⟨_,rfl,bg (fun b=>w o (by unfold bS;rw[F,b];rfl)) fun V=>?_⟩;have ab:=cm.len d.objs;refine⟨x.2.2.2.2.2.2.2,A.cell rfl,ak (fun e=>w o ?_) fun ao=>?_⟩
 ·unfold bS;rw[F,V,decide_eq_false (by omega)];rfl
 have T:m.objs.length<=12:=by omega
 refine⟨x.2.2.2.2.2.2.2,A.cell rfl,?_⟩;obtain⟨l,B⟩:=cm.fix d.objs;have ad:=B.2.1;refine av (fun i:Nat=>(i:Int)) (fun i h'=>i<=m.objs.length/\(∀j,j<i->pc m j=true)/\Sp h h' [au R aB (aV x)]) (fun i=>m.objs.length-i) 0 rfl ⟨by omega,by omega,o⟩ ?_;rintro i h3 ⟨hi,q,P⟩;refine ak (fun e=>?_) (fun e=>?_)
 ·have f:i<m.objs.length:=by
   have e':(i:Int)<(x.2.2.2.2.2.2.2.len:Int):=e;omega
  have D:=J.nm _ (qg f);have c:oY m.objs i=m.objs[i]:=oc f;have r:∀{h':Heap} {As:List HP},Sp h h' As->pc m i=false->Value.bool false=vP (bS m)/\Sp h h' []:=fun{h' As} H' y=>w H' (by unfold bS;rw[FS f y];simp);have F3:=nE.up B P.ai;refine F3.1.dD (g:=bH) i rfl (by omega) (l[i]'(by omega)) rfl ?_;refine P.alloc ae rfl fun s h4 H4=>?_;refine H4.storeAll ae 1 rfl rfl (bH (l[i]'(by omega))) rfl rfl rfl rfl fun h5 u=>?_;have u:Sp h h5 [au R aB (aV x),au s aX (bH (l[i]'(by omega)))]:=u;have W:=nE.up B u.ai;obtain⟨⟨y1,y2,y3⟩,y4⟩:=Fix.row W f;obtain⟨b6,k⟩:∃b,b=(decide (i=0)||ez (oY m.objs (i-1)).name (oY m.objs i).name):=⟨_,rfl⟩
  refine cl (fun _ h'=>gj m m.objs[i]=true/\b6=true/\Sp h h' [au R aB (aV x),au s aX (bH (l[i]'(by omega)))]) ?_ ?_
  ·refine⟨x,(u.box 0 rfl).aQ _ rfl,l[i]'(by omega),(u.box 1 rfl).aQ _ rfl,?_⟩;refine(XR x m (l[i]'(by omega)) m.objs[i] h5 (d.up u.ai) (Fix.row W f) F D.1 D.2).mono ?_;rintro _ Z ⟨rfl,R6⟩;have a:=u.up R6.ai;have E:=nE.up B a.ai;refine⟨_,rfl,trivial,bg (fun b=>r a (by unfold pc;rw[c,b];rfl)) fun b=>ak (fun e2=>?_) fun e2=>⟨b,by rw[k,decide_eq_true (show i=0 by omega)];rfl,a⟩⟩;rw[Go.Vc.wrap_small ((i:Int)-1) (by omega) (by omega)];obtain⟨I,ha,zz,hc,rfl⟩:=E.1.dD (g:=bH) (i:=(i:Int)-1) (i-1) (by omega) (by omega) (l[i-1]'(by omega)) rfl (K:=fun t=>t=l[i-1]'(by omega)) rfl;refine⟨x.2.2.2.2.2.2.2,(a.box 0 rfl).cell rfl,I,ha,m.objs[i-1].name,?_,m.objs[i].name,?_,?_⟩
   ·rw[<-(Fix.row E (show i-1<m.objs.length by omega)).1.1];exact hc.1
   ·rw[<-y1];exact(a.box 1 rfl).cell0 rfl
   ·have n:oY m.objs (i-1)=m.objs[i-1]:=oc (by omega);rw[c,n]at k;refine bg (fun z=>r a ?_) (fun z=>⟨b,?_,a⟩)
    ·unfold pc;rw[c,n,b,decide_eq_false (show¬i=0 by omega)];unfold ez;rw[z];rfl
    ·rw[k];unfold ez;rw[z];simp
  ·rintro _ Z ⟨b,M,a⟩;have E:=nE.up B a.ai;refine⟨x.2.2.2.2.2.2.2,(a.box 0 rfl).cell rfl,⟨by omega,by have:=d.ocap;omega⟩,?_⟩;rw[qp];refine(Vk s (l[i]'(by omega)) ⟨x.2.2.2.2.2.2.2.ptr,i,x.2.2.2.2.2.2.2.cap⟩ (m.objs.take i) Z (a.box 1 rfl) (cm.take E.elt i (by omega)) (by simp;omega)).mono ?_;rintro _ h7 ⟨rfl,R7⟩;have Y:=a.up R7.ai;rw[y2];refine⟨_,rfl,bA (fun z=>r Y ?_) fun z=>?_⟩
   ·unfold pc;rw[c,z];simp
   ·refine⟨i+1,by rw[Go.Vc.wrap_small _ (by omega) (by omega)];rfl,⟨by omega,fun j hj=>?_,Y.bV [0]⟩,by omega⟩;by_cases U:j=i
    ·subst U;rw[M]at k;unfold pc;rw[<-k,c,b,z];rfl
    ·exact q j (by omega)
 ·have e':¬(i:Int)<(x.2.2.2.2.2.2.2.len:Int):=e;refine⟨?_,.zip P.ai⟩;unfold bS;rw[F,V,decide_eq_true T,tw fun j hj=>q j (by omega)];rfl
section
variable {B:aA} {h0 h:Heap} {As:List HP}
theorem sg(s:Sl)(l:List UInt8)(n:Int)(k:Nat)(r:k<=4)(x:l.length<=2^20)(H:aa B h0 h (an aD s 1 aC l::As)):
  ac vV NM #[vM s.ptr s.len s.cap,vL vR n,vL vR k] h fun v h'=>∃a:Sl,v=vM a.ptr a.len a.cap/\aa B h0 h' (an aD a 1 aC (l++bJ n k)::As):=by
 refine Lu s n k ?_;unfold EL;have i:=ci n k;refine av (fun t:Sl×Nat=>(t.1,(k:Int)-1-t.2)) (fun t h'=>t.2<=k/\aa B h0 h' (an aD t.1 1 aC (l++(bJ n k).take t.2)::As)) (fun t=>k-t.2) (s,0) (by rw[Go.Vc.wrap_small _ (by omega) (by omega)];simp) ⟨by simp,by simpa using H⟩ ?_;rintro⟨o,j⟩ w ⟨u,b⟩;dsimp only at*;refine ak (fun e=>?_) (fun e=>?_)
 ·have g:j<k:=by omega
  rw[Go.Vc.wrap_small ((8:Int)*((k:Int)-1-j)) (by omega) (by omega)];refine⟨by omega,?_⟩;have m:((8:Int)*((k:Int)-1-j)).toNat=8*(k-1-j):=by omega
  have d:min (8*(k-1-j)) (qk vR)=8*(k-1-j):=by
   have:qk vR=64:=rfl;omega
  rw[m,d,dM];have f:b8 (qS n (2^(8*(k-1-j))))=(bJ n k)[j]'(by omega):=by simp[bJ]
  rw[f];refine b.push ae 0 rfl fP rfl (by decide) (fun _=>rfl) ge ((bJ n k)[j]'(by omega)) rfl (by decide) (by simp;omega) fun p q c=>?_;refine⟨(p,j+1),by dsimp only;rw[Go.Vc.wrap_small _ (by omega) (by omega)];congr 1;omega,⟨by dsimp only;omega,?_⟩,by dsimp only;omega⟩;dsimp only;rw[aH _ _ (show j<(bJ n k).length by omega),<-qo];exact c
 ·rw[qi (by omega)]at b;exact⟨o,rfl,b⟩
theorem LY(b:Sl)(l:List Int)(o:Sl)(c:List UInt8)(H:aa B h0 h (an aD o 1 aC c::As))(q:St B h0 As fun h=>Rd h b 1 aE l)(F:c.length<=2^30)(G:l.length<=2^30){K:Sl×Int->Heap->Prop}
  (w:∀r h',aa B h0 h' (an aD r 1 aC (c++l.map b8)::As)->K (r,(l.length:Int)) h'):
  aL (σ:=Sl×Int) (fun a v h8=>
 Br (decide (a.2<((b.len:Nat):Int)))
 (∃j:Addr,(b.ptr=some j/\0<=a.2/\a.2<((b.len:Nat):Int))/\
 ∃g:Int,cellOf h8 (j.add (a.2.toNat*1))=some (vL vR g)/\
 aw vV (qt aF 1 #[(0,(vL vS (qc vS g)))]) (.one (.sc .slc)) h8 fun f y=>
 aw vV (qq #[aF,aF] aF #[(vM a.1.ptr a.1.len a.1.cap),(vM f.ptr f.len f.cap)]) (.one (.sc .slc)) y fun d p=>
 v ((⟨d.ptr,d.len,d.cap⟩:Sl),qc vR (a.2+(1:Int))) p)
 (K a h8)) (o,(0:Int)) h:=by
 have x:b.len=l.length:=(q.at [_] H).len;refine av (fun t:Sl×Nat=>(t.1,(t.2:Int))) (fun t h'=>t.2<=l.length/\aa B h0 h' (an aD t.1 1 aC (c++(l.take t.2).map b8)::As)) (fun t=>l.length-t.2) (o,0) rfl ⟨by simp,by simpa using H⟩ ?_;rintro⟨u,i⟩ z ⟨D,m⟩;dsimp only at*;refine ak (fun e=>?_) (fun e=>?_)
 ·have k:i<l.length:=by omega
  refine(q.at [_] m).bv i rfl k l[i] rfl ?_;rw[dM];refine m.push ae 0 rfl fP rfl (by decide) (fun _=>rfl) ge (b8 l[i]) rfl (by decide) (by simp;omega) fun A E s=>?_;refine⟨(A,i+1),by dsimp only;rw[Go.Vc.wrap_small _ (by omega) (by omega)];rfl,⟨by dsimp only;omega,?_⟩,by dsimp only;omega⟩;dsimp only;rw[aH _ _ k,qQ,<-qo];exact s
 ·have n:i=l.length:=by omega
  subst n;rw[qR]at m;exact w u z m
end
theorem aey{m:aG}(a:bS m=true){i:Nat}(b:i<m.objs.length):gj m m.objs[i]=true:=by
 unfold bS at a;simp only[qy]at a;have:=qM.1 a.2.2.2 i (qH.2 b);unfold pc at this;simp only[qy]at this;have c:=this.1
 rwa [oc b]at c
theorem aae{m:aG}(c:bS m=true){i:Nat}(g:i<m.objs.length):m.objs[i].name.size<=12/\m.objs[i].tries.length<=3073:=by
 have b:=aey c g;unfold gj jF at b;simp only[qy,decide_eq_true_eq]at b;obtain⟨⟨_,_,f⟩,_,h3,_,d⟩:=b;refine⟨f,?_⟩;obtain⟨_,_,a,_⟩:=RG (Zp c);have h:=(bU m.p).1 a;unfold eS at h3;simp only[qy,decide_eq_true_eq]at h3;have j:m.p.1*m.p.2.2<=16*24:=wu (by omega) (by omega) (by omega) (by omega);unfold countP at d;split at d
 ·have:(m.objs[i].length-1)/(m.p.1*m.p.2.2)<=m.objs[i].length-1:=Int.ediv_le_self _ (by rename_i e;simp at e;omega);omega
 ·omega
theorem aaf{m:aG}(a:bS m=true){i:Nat}(b:i<m.objs.length):(iJ m.objs[i]).length<=4000:=by
 have:=aae a b;unfold iJ;simp[ci];have:m.objs[i].name.data.size=m.objs[i].name.size:=rfl;omega
theorem Hj{m:aG}(a:bS m=true):∀n,n<=m.objs.length->((m.objs.take n).flatMap iJ).length<=n*4000
 |0,_=>by simp
 |n+1,hn=>by
  rw[aH _ _ (show n<m.objs.length by omega),zb,qu];have b:=Hj a n (by omega);have c:=aaf a (show n<m.objs.length by omega);have h3:([m.objs[n]].flatMap iJ).length=(iJ m.objs[n]).length:=by rw[zr,wO,qP]
  omega
theorem Kb{m:aG}(a:bS m=true):m.objs.length<=12:=by
 unfold bS at a;simp only[qy,decide_eq_true_eq]at a;exact a.2.2.1
theorem Kc(m:aG)(k:db m):(ga m).length<=100000:=by
 unfold ga;split
 ·rename_i b;have d:=b;unfold bS at d;simp only[qy,decide_eq_true_eq]at d;have j:m.drives.length<=64:=by
   have a:=d.2.1;unfold oZ at a;rw[qM]at a;by_cases g:m.drives.length<=64
   ·exact g
   ·exfalso;have c:∀i,i<m.drives.length->(i:Int)<=m.drives.getD i 0:=fun i=>by
     induction i with
     |zero=>
      intro e;have:=a 0 (qH.2 e);unfold jg eS at this;simp at this;simpa using this.1
     |succ i ih=>
      intro e;have:=a (i+1) (qH.2 e);have h3:=ih (by omega);unfold jg eS at this;simp at this;have f:=this.2;simp only[qe]at h3⊢;omega
    have h3:=c 64 (by omega);have f:=a 64 (qH.2 (by omega));unfold jg eS at f;simp at f;simp only[qe]at h3;omega
  have h:(m.objs.flatMap iJ).length<=12*4000:=by
   have a:=Hj b m.objs.length (ql _);rw[qR]at a;have:=zG 4000 (Kb b);omega
  simp only[qu,zi,yj,qw,ci];omega
 ·simp
theorem aag(x:cg)(m:aG)(h:Heap)(d:eG h x m)(U:db m):ac vV Sr #[ft x] h fun v h'=>∃r:Sl,v=vM r.ptr r.len r.cap/\Sp h h' [an aD r 1 aC (ga m)]:=by
 refine PZ x ?_;unfold IR;refine(Sp.refl h).boxed fun a1 h1 H1=>?_;refine⟨x,(H1.box 0 rfl).aQ _ rfl,(Ka x m h1 (d.up H1.ai) U).mono ?_⟩;rintro _ h2 ⟨rfl,R2⟩;have Z:=H1.up R2.ai;refine⟨_,rfl,bg (fun e=>?_) fun z=>?_⟩
 ·unfold ga;rw[e];exact⟨⟨none,0,0⟩,rfl,((Z.nil aD 1 aC).bV [1])⟩
 have ao:x.2.2.1=m.p.1:=congrArg (·.1) d.p;have ab:x.2.2.2.1=m.p.2.1:=congrArg (·.2.1) d.p;have ah:x.2.2.2.2.1=m.p.2.2:=congrArg (·.2.2) d.p;have O:=Z.box 0 rfl;have b:=Kc m U;unfold ga at b;rw[z,if_pos rfl]at b;have hM:∀{h':Heap} {As:List HP},Sp h h' As->eG h' x m:=fun{h' As} A=>d.up A.ai;refine ba ⟨m.seq,by rw[<-d.seq];exact O.cell0 rfl,m.next,by rw[<-d.next];exact O.cell rfl,?_⟩;have H3:=(Z.nil aD 1 aC).bL;refine(sg ⟨none,0,0⟩ [] m.seq 4 (by decide) (by simp) H3).mono ?_;rintro _ h4 ⟨s4,rfl,H4⟩;refine⟨s4,rfl,⟨by rw[<-d.next];exact(H4.box 1 rfl).cell rfl,trivial⟩,?_⟩;refine(sg s4 _ m.next 4 (by decide) (by simp[ci]) H4).mono ?_;rintro _ h5 ⟨s5,rfl,H5⟩;refine⟨s5,rfl,trivial,?_⟩;have l:=H5.box 1 rfl;refine⟨m.p.1,by rw[<-ao];exact l.cell rfl,m.p.2.1,by rw[<-ab];exact l.xx 2 1 rfl,m.p.2.2,by rw[<-ah];exact l.xx 2 2 rfl,m.extra,by rw[<-d.extra];exact l.cell rfl,x.2.2.2.2.2.2.1,l.cell rfl,?_⟩;have ap:=d.drives.len;have ax:=cm.len d.objs;rw[dM,dM,dM,dM,dM,ap];refine H5.lit ae aC fP rfl [b8 m.p.1,b8 m.p.2.1,b8 m.p.2.2,b8 m.extra,b8 (m.drives.length:Nat)] rfl (show 5*1<=2^20 by decide) rfl fun bl h6 H6=>?_;refine H6.append ae 0 rfl fP ⟨_,_,rfl,rfl⟩ rfl (by decide) (fun _=>rfl) (H6.seq 2 rfl fun _=>rfl) ge (by simp[ci]) fun s7 h7 Q=>?_;have Q:=Q.bV [0,1];refine⟨x.2.2.2.2.2.2.1,(Q.box 1 rfl).cell rfl,?_⟩;have a5:(([]++bJ m.seq 4)++bJ m.next 4++[b8 m.p.1,b8 m.p.2.1,b8 m.p.2.2,b8 m.extra,b8 (m.drives.length:Nat)]).length=13:=by simp[ci]
 have bk:=U.dr;refine LY x.2.2.2.2.2.2.1 m.drives s7 _ Q (St.mk' fun h' A=>(hM A).drives) (by omega) (by omega) fun s8 h8 H8=>?_;dsimp only;refine⟨x.2.2.2.2.2.2.2,(H8.box 1 rfl).cell rfl,?_⟩;rw[dM,ax];obtain⟨a,c⟩:∃a,a=([]++bJ m.seq 4)++bJ m.next 4++[b8 m.p.1,b8 m.p.2.1,b8 m.p.2.2,b8 m.extra,b8 (m.drives.length:Nat)]++m.drives.map b8:=⟨_,rfl⟩
 rw[<-c]at H8;have X:a.length=13+m.drives.length:=by rw[c];simp[ci];omega
 simp only[qu,zi,yj,qw,ci]at b;refine H8.push ae 0 rfl fP rfl (by decide) (fun _=>rfl) ge (b8 (m.objs.length:Nat)) rfl (by decide) (by omega) fun s9 h9 P=>?_;have P:Sp h h9 [an aD s9 1 aC (a++[b8 (m.objs.length:Nat)]),au a1 aB (aV x)]:=P;refine⟨x.2.2.2.2.2.2.2,(P.box 1 rfl).cell rfl,?_⟩;obtain⟨G,R⟩:=cm.fix d.objs;have bb:=R.2.1;refine av (fun t:Sl×Nat=>(t.1,(t.2:Int))) (fun t h'=>t.2<=m.objs.length/\Sp h h' [an aD t.1 1 aC (a++[b8 (m.objs.length:Nat)]++(m.objs.take t.2).flatMap iJ),au a1 aB (aV x)]) (fun t=>m.objs.length-t.2) (s9,0) rfl ⟨by simp,by simpa using P⟩ ?_;rintro⟨o,i⟩ b0 ⟨hi,k⟩;dsimp only at*;refine ak (fun e=>?_) (fun e=>?_)
 ·have u:i<m.objs.length:=by omega
  have V:=nE.up R k.ai;have ay:=aae z u;have q:((m.objs.take i).flatMap iJ).length<=50000:=by
   have h1:=Hj z i hi;have:=Kb z;have:i*4000<=12*4000:=zG _ (by omega);omega
  refine V.1.dD (g:=bH) i rfl (by omega) (G[i]'(by omega)) rfl ?_;refine k.alloc ae rfl fun ad a6 a4=>?_;refine a4.storeAll ae 2 rfl rfl (bH (G[i]'(by omega))) rfl rfl rfl rfl fun a3 j=>?_;have Y:=nE.up R j.ai;obtain⟨⟨w,y2,W⟩,y4⟩:=Fix.row Y u;obtain⟨E,S⟩:∃E,E=m.objs[i]:=⟨_,rfl⟩
  rw[<-S]at w y2 W y4 ay;have s:=j.box 2 rfl;refine ba ⟨E.name,by rw[<-w];exact s.cell0 rfl,E.name,by rw[<-w];exact s.cell0 rfl,?_⟩;rw[dM];refine j.rp ae aC fP rfl [b8 (E.name.size:Nat)] rfl (show 1*1<=2^20 by decide) rfl ⟨by rw[<-w];exact s.cell0 rfl,by rw[<-w];exact s.cell0 rfl,trivial⟩ ?_;have I:(a++[b8 (m.objs.length:Nat)]++(m.objs.take i).flatMap iJ).length<=160000:=by rw[qu,qu,X];simp;simp at q;omega
  obtain⟨f,M⟩:∃f,f=a++[b8 (m.objs.length:Nat)]++(m.objs.take i).flatMap iJ:=⟨_,rfl⟩
  rw[<-M]at j I;refine j.push ae 0 rfl fP rfl (by decide) (fun _=>rfl) ge (b8 (E.name.size:Nat)) rfl (by decide) (by omega) fun bd bq L=>?_;have B:=L.box 2 rfl;refine⟨⟨by rw[<-w];exact B.cell0 rfl,by rw[<-w];exact B.cell0 rfl,trivial⟩,?_⟩;refine L.Zo ae 0 rfl fP ⟨_,rfl,rfl⟩ rfl (by decide) E.name (by simp;omega) fun J am n=>?_;have y:=n.box 2 rfl;refine⟨⟨by rw[<-w];exact y.cell0 rfl,trivial⟩,?_⟩;have n:Sp h am [an aD J 1 aC (f++[b8 (E.name.size:Nat)]++iz E.name),au a1 aB (aV x),au ad aX (bH (G[i]'(by omega)))]:=n;refine ba ⟨E.object,by rw[<-y2];exact y.cell rfl,E.length,by rw[<-W];exact y.cell rfl,?_⟩;have a8:=Dn E.name;refine(sg J _ E.object 3 (by decide) (by simp;omega) n).mono ?_;rintro _ a9 ⟨H,rfl,F⟩;have a2:=F.box 2 rfl;refine⟨H,rfl,⟨by rw[<-W];exact a2.cell rfl,trivial⟩,?_⟩;refine(sg H _ E.length 2 (by decide) (by simp[ci];omega) F).mono ?_;rintro _ a7 ⟨K,rfl,N⟩;have T:=N.box 2 rfl;refine⟨K,rfl,trivial,(G[i]'(by omega)).2.2.2,T.cell rfl,?_⟩;refine LY (G[i]'(by omega)).2.2.2 E.tries K _ N (St.mk' fun h' A=>by rw[S];exact(Fix.row (nE.up R A.ai) u).2) (by simp[ci];omega) (by omega) fun a0 br D=>?_;dsimp only;have a3:=Kb z;refine⟨(a0,i+1),by dsimp only;rw[Go.Vc.wrap_small _ (by omega) (by omega)];rfl,⟨by dsimp only;omega,?_⟩,by dsimp only;omega⟩;dsimp only;rw[aH _ _ u,zb,<-qo,<-M,zr,wO,qP,<-S];have e3:f++[b8 (E.name.size:Nat)]++iz E.name++bJ E.object 3++bJ E.length 2++E.tries.map b8=f++iJ E:=by
   unfold iJ iz;simp[qo]
  rw[e3]at D;exact D.bV [0,1]
 ·rw[qi (by omega)]at k;refine⟨o,rfl,?_⟩;have e2:a++[b8 (m.objs.length:Nat)]++m.objs.flatMap iJ=ga m:=by
   rw[c];unfold ga;rw[z,if_pos rfl];simp[qo]
  rw[e2]at k;exact k.bV [0]
end Go.Proofs.YtdhamoojccmbdaaGreatDoor
namespace Go.Vc
open Go Wl
def eM{α:Type}(k:Nat)(f:α->List Value)(L:List (Sl×List α)):HP:=⟨fun h q=>∀y∈L,Seq h q y.1 k f y.2,fun a d y b=>(a y b).ai d,fun a c y b=>(a y b).mono c⟩
section
variable {α:Type} {B:aA} {h0 h:Heap} {As:List HP} {k:Nat} {f:α->List Value} {L:List (Sl×List α)} {s:Sl} {l:List α}
theorem aa.Ww(H:aa B h0 h As)(k:Nat)(f:α->List Value):aa B h0 h (eM k f []::As):=
 (H.comp (.one (A:=eM k f []) (aU.refl _ _) (fun y a=>by cases a))).bL
theorem aa.Wx(H:aa B h0 h (eM k f L::tu s k f l::As)):aa B h0 h (eM k f ((s,l)::L)::As):=by
 have g:aa B h0 h ((tu s k f l).sep (eM k f L)::As):=H.oX;refine g.gf 0 rfl fun q ⟨i,j,_,b,c,d,e⟩ y a=>?_;rcases zc.1 a with rfl|a
 ·exact d.mono b
 ·exact(e y a).mono c
end
end Go.Vc
namespace Go.Proofs.YtdhamoojccmbdaaGreatDoor
open Go Go.Vc Go.Proofs Wl
theorem afD(n:Int):bJ n 4=[b8 (qS n (2^24)),b8 (qS n (2^16)),b8 (qS n (2^8)),b8 n]:=by
 have e:qS n (2^0)=n:=by simp
 show[b8 (qS n (2^24)),b8 (qS n (2^16)),b8 (qS n (2^8)),b8 (qS n (2^0))]=_;rw[e]
theorem aah(seq a c:Int)(b:Sl)(l:List UInt8)(h:Heap)(o:Rd h b 1 aC l)(x:l.length<=2^20):ac vV UN #[vL vR seq,vL vR a,vL vR c,vM b.ptr b.len b.cap] h fun v h'=>∃r:Sl,v=vM r.ptr r.len r.cap/\Sp h h' [an aD r 1 aC (jA seq a c l)]:=by
 refine Ss seq a c b ?_;unfold Lj;refine⟨by decide,by decide,by decide,?_⟩;have i:min (24:Int).toNat (qk vR)=24:=rfl;have j:min (16:Int).toNat (qk vR)=16:=rfl;have t:min (8:Int).toNat (qk vR)=8:=rfl;rw[i,j,t,dM,dM,dM,dM,dM,dM,dM];have d:=afD seq;generalize b8 (qS seq (2^24))=c1 at d⊢;generalize b8 (qS seq (2^16))=c2 at d⊢;generalize b8 (qS seq (2^8))=c3 at d⊢;generalize b8 seq=c4 at d⊢;have e:jA seq a c l=dW 2 ([c1,c2,c3,c4]++([b8 a,b8 c,b8 (b.len:Nat)]++l)):=by unfold jA;rw[d,o.len]
 generalize b8 a=c5 at e⊢;generalize b8 c=c6 at e⊢;generalize b8 (b.len:Nat)=c7 at e⊢;refine(Sp.refl h).lit ae aC fP rfl [c1,c2,c3,c4,c5,c6,c7] rfl (show 7*1<=2^20 by decide) (by kernel_rfl) fun u w q=>?_;refine q.append ae 0 rfl fP ⟨_,_,rfl,rfl⟩ rfl (by decide) (fun _=>rfl) (Seq.up o q.ai) ge (by simp;omega) fun p m k=>?_;have n:Rd m p 1 aC ([c1,c2,c3,c4,c5,c6,c7]++l):=k.seq 0 rfl fun _=>rfl;have f:([c1,c2,c3,c4,c5,c6,c7]++l).length<=2^40:=by simp;omega
 rw[e];have g:[c1,c2,c3,c4,c5,c6,c7]++l=[c1,c2,c3,c4]++([c5,c6,c7]++l):=rfl;rw[<-g];generalize [c1,c2,c3,c4,c5,c6,c7]++l=ll at n f⊢;refine(Hi 2 p ll m n f).mono ?_;rintro _ h3 ⟨r,rfl,s⟩;exact⟨r,rfl,r,rfl,(aa.comp (Sp.zip k.ai) s)⟩
theorem mV(x:cg)(m:aG)(h:Heap)(D:eG h x m)(z:db m):ac vV PS #[ft x] h fun v h'=>∃r:Sl,v=vM r.ptr r.len r.cap/\Sp h h' [dP r (bh m)]:=by
 refine Ns x ?_;unfold Gq;refine(Sp.refl h).boxed fun B N u=>?_;refine⟨x,(u.box 0 rfl).aQ _ rfl,(aag x m N (D.up u.ai) z).mono ?_⟩;rintro _ H ⟨b,rfl,F⟩;have j:=u.comp F;have k:=Kc m z;obtain⟨l,s⟩:∃l,l=ga m:=⟨_,rfl⟩
 rw[<-s]at j k;have L:=(j.own 1 rfl).len;have n:=(j.own 1 rfl).cap;refine⟨b,rfl,by decide,?_⟩;have c:qc vR (wC (qc vR ((qc vR (((b.len:Nat):Int)+(48:Int)))-(1:Int))) (48:Int))=(gM l:Int):=by
  rw[Go.Vc.wrap_small ((b.len:Int)+48) (by omega) (by omega),Go.Vc.wrap_small ((b.len:Int)+48-1) (by omega) (by omega),Int.tdiv_eq_ediv_of_nonneg (by omega)];unfold gM;rw[Go.Vc.wrap_small (((b.len:Int)+48-1)/48) (by omega) (by omega)];omega
 have G:gM l<=3000:=by unfold gM;omega
 rw[c];obtain⟨g,d⟩:∃g:List (List UInt8),g=bh m:=⟨_,rfl⟩
 have E:g.length=gM l:=by rw[d,s];simp[bh]
 have a:Sp h H [dP ⟨none,0,0⟩ (g.take 0),au B aB (aV x),an aD b 1 aC l]:=j.FN aF aD 1 aC;refine av (fun t:Sl×Nat=>(t.1,(t.2:Int))) (fun t h'=>t.2<=gM l/\Sp h h' [dP t.1 (g.take t.2),au B aB (aV x),an aD b 1 aC l]) (fun t=>gM l-t.2) (⟨none,0,0⟩,0) rfl ⟨by simp,a⟩ ?_;rintro⟨o,i⟩ h3 ⟨Q,a⟩;dsimp only at*;refine ak (fun e=>?_) (fun e=>?_)
 ·have q:i<gM l:=by omega
  have w:48*i<l.length:=by unfold gM at q;omega
  rw[Go.Vc.wrap_small ((i:Int)*48) (by omega) (by omega),Go.Vc.wrap_small ((i:Int)+1) (by omega) (by omega),Go.Vc.wrap_small (((i:Int)+1)*48) (by omega) (by omega)];obtain⟨f,I⟩:∃f:Nat,f=min (48*i+48) l.length:=⟨_,rfl⟩
  have p:(if((i:Int)+1)*48<((b.len:Nat):Int)then((i:Int)+1)*48 else((b.len:Nat):Int))=(f:Int):=by
   split<;>omega
  rw[p];refine⟨m.seq,by rw[<-D.seq];exact(a.box 1 rfl).cell0 rfl,⟨by omega,by omega,by omega⟩,?_⟩;have O:((i:Int)*48).toNat=48*i:=by omega
  rw[O,qp];have y:=((a.seq 2 rfl fun _=>rfl).drop (48*i) n).take (f-48*i) (by rw[qY];omega);have e2:(l.drop (48*i)).take (f-48*i)=(l.drop (48*i)).take 48:=by
   by_cases T:48*i+48<=l.length
   ·rw[show f-48*i=48 by omega]
   ·rw[qi (by rw[qY];omega),qi (by rw[qY];omega)]
  rw[e2,wN]at y;refine(aah m.seq i (gM l) ⟨_,f-48*i,b.cap-48*i⟩ _ h3 (by rw[wN];exact y) (by simp;omega)).mono ?_;rintro _ R ⟨r,rfl,K⟩;have A:=(a.cY K).bo 4 [1,0,2,3];refine⟨r,rfl,trivial,?_⟩;refine A.rp ae bI fq rfl [r] rfl (show 1*1<=2^20 by decide) rfl trivial ?_;refine A.HU ae fq (by simp;omega) fun P S J=>⟨trivial,?_⟩
  refine⟨(P,i+1),rfl,⟨by dsimp only;omega,?_⟩,by dsimp only;omega⟩;dsimp only;rw[aH _ _ (show i<g.length by omega)];have M:g[i]'(by omega)=jA m.seq i (gM l) ((l.drop (48*i)).take 48):=by
   subst d;subst s;simp[bh]
  rw[M];exact J
 ·rw[qi (by omega),d]at a;exact⟨o,rfl,a.bV [0]⟩
theorem Vl(s:Sl)(a:List dV)(h:Heap)(b:Rd h s 4 bH a)(d:a.length<=2^30):ac vV mQ #[vM s.ptr s.len s.cap] h fun v h'=>∃r:Sl,v=vM r.ptr r.len r.cap/\Sp h h' [an aX r 4 bH a]:=by
 refine my s ?_;unfold iF;refine bA (fun e=>?_) (fun e=>?_)
 ·have:=b.isNil e;subst this;exact⟨⟨none,0,0⟩,rfl,(Sp.refl h).nil aX 4 bH⟩
 ·refine(Sp.refl h).lit ae bH Oe rfl ([]:List dV) rfl (by decide) rfl fun i j c=>?_;refine c.append ae 0 rfl Oe ⟨_,_,rfl,rfl⟩ rfl (by decide) (fun _=>rfl) (Seq.up b c.ai) Od (by simp;omega) fun f k g=>?_;exact⟨f,rfl,g⟩
def Il(pool:List (Sl×List Int))(p:dV×Wl.bW):Prop:=(p.1.1=p.2.name/\p.1.2.1=p.2.object/\p.1.2.2.1=p.2.length)/\(p.1.2.2.2,p.2.tries)∈pool
theorem aa.Kd{B:aA}{n h:Heap}{As:List HP}{y:cg}{m:aG}{L:List (dV×Wl.bW)}{pool:List (Sl×List Int)}(f:y.1=m.seq/\y.2.1=m.next/\(y.2.2.1,y.2.2.2.1,y.2.2.2.2.1)=m.p/\y.2.2.2.2.2.1=m.extra)(l:L.map zA=m.objs)(o:∀p∈L,Il pool p)
  (H:aa B n h (eM 1 aE pool::an aS y.2.2.2.2.2.2.1 1 aE m.drives::an aX y.2.2.2.2.2.2.2 4 bH (L.map qK)::As)):aa B n h (cO y m::As):=by
 have k:=(H.own 2 rfl)
 have i:=(H.own 1 rfl)
 have w:=((H.freeze 1 rfl fun _=>rfl).freeze 2 rfl fun _=>rfl).oX.oX;refine w.gf 0 rfl fun q ⟨F,G,_,b,c,u,t⟩=>?_;obtain⟨E,I,_,v,s,z3,z4⟩:=t;refine⟨f.1,f.2.1,f.2.2.1,f.2.2.2,z3.mono fun x g=>c x (v x g),⟨L.map qK,u.mono b,by rw[<-l];simp,fun j r e a d=>?_⟩,i.cap,k.cap⟩;rw[<-l]at d;rw[qN]at a d;cases hj:L[j]? with
 |none=>rw[hj]at a;cases a
 |some p=>
  rw[hj]at a d;have z:=zJ.inj (show some p.1=some r from a);have e2:=zJ.inj (show some p.2=some e from d);subst z;subst e2;obtain⟨D,A⟩:=o p (ya hj);exact⟨D,(z4 _ A).mono fun x g=>c x (s x g)⟩
theorem rJ(x:cg)(m:aG)(h:Heap)(w:eG h x m)(F:db m):ac vV IP #[ft x] h fun v h'=>∃(y:cg) (L:List (dV×Wl.bW)) (pool:List (Sl×List Int)),v=ft y/\(y.1=m.seq/\y.2.1=m.next/\(y.2.2.1,y.2.2.2.1,y.2.2.2.2.1)=m.p/\y.2.2.2.2.2.1=m.extra)/\L.map zA=m.objs/\(∀p∈L,Il pool p)/\
  Sp h h' [eM 1 aE pool,an aS y.2.2.2.2.2.2.1 1 aE m.drives,an aX y.2.2.2.2.2.2.2 4 bH (L.map qK)]:=by
 refine Sm x ?_;unfold Le;refine(Sp.refl h).boxed fun R k H1=>?_;refine H1.alloc ae rfl fun S s I=>?_;have E:=I.box 0 rfl;have X:∀{h':Heap} {As:List HP},Sp h h' As->eG h' x m:=fun{h' As} H'=>w.up H'.ai;obtain⟨b,P⟩:=cm.fix w.objs;have W:=P.2.1;have ab:=F.dr;have ad:=F.ob;refine ba ⟨x.2.2.2.2.2.2.1,E.cell rfl,x.2.2.2.2.2.2.2,E.cell rfl,?_⟩;refine(mU _ m.drives s (X I).drives (by omega)).mono ?_;rintro _ h3 ⟨d,rfl,V⟩;have N:=I.comp V;refine⟨d,rfl,⟨(N.box 0 rfl).cell rfl,trivial⟩,?_⟩;refine(Vl _ b h3 (nE.up P N.ai).1 (by omega)).mono ?_;rintro _ h4 ⟨o,rfl,R4⟩;have H4:=N.comp R4;refine⟨o,rfl,trivial,?_⟩;refine H4.store ae 0 rfl rfl 6 [vM d.ptr d.len d.cap] rfl rfl rfl (by simp[Value.cells]) fun h5 Y=>⟨trivial,?_⟩
 refine Y.store ae 0 rfl rfl 7 [vM o.ptr o.len o.cap] rfl rfl rfl (by simp[Value.cells]) fun h6 u=>⟨trivial,?_⟩
 obtain⟨y,n⟩:∃y:cg,y=(x.1,x.2.1,x.2.2.1,x.2.2.2.1,x.2.2.2.2.1,x.2.2.2.2.2.1,d,o):=⟨_,rfl⟩
 have u:Sp h h6 [au R aB (aV y),au S aB [vL vR 0,vL vR 0,vL vR 0,vL vR 0,vL vR 0,vL vR 0,vM none 0 0,vM none 0 0],an aS d 1 aE m.drives,an aX o 4 bH b]:=by rw[n];exact u
 have c:y.2.2.2.2.2.2.2=o:=by rw[n]
 have O:y.2.2.2.2.2.2.1=d:=by rw[n]
 refine⟨o,by rw[<-c];exact(u.box 0 rfl).cell rfl,?_⟩;have ah:=(u.own 3 rfl).len;have u:=u.Ww 1 aE;refine av (fun t:List dV×List (Sl×List Int)=>(t.1.length:Int)) (fun t h'=>t.1.length<=m.objs.length/\(∀(j:Nat) r e,t.1[j]?=some r->m.objs[j]?=some e->(r.1=e.name/\r.2.1=e.object/\r.2.2.1=e.length)/\(r.2.2.2,e.tries)∈t.2)/\Sp h h' [eM 1 aE t.2,au R aB (aV y),au S aB [vL vR 0,vL vR 0,vL vR 0,vL vR 0,vL vR 0,vL vR 0,vM none 0 0,vM none 0 0],an aS d 1 aE m.drives,an aX o 4 bH (t.1++b.drop t.1.length)]) (fun t=>m.objs.length-t.1.length) ([],[]) rfl ⟨by simp,fun j r e k=>by simp at k,u⟩ ?_;rintro⟨a,pool⟩ h7 ⟨hi,D,l⟩;dsimp only at*;refine ak (fun e=>?_) (fun e=>?_)
 ·have q:a.length<m.objs.length:=by omega
  have F7:=nE.up P l.ai;obtain⟨⟨y1,y2,T⟩,y4⟩:=Fix.row F7 q;have f:(a++b.drop a.length)[a.length]'(by simp;omega)=b[a.length]'(by omega):=by simp
  obtain⟨J,ha,zz,hc,rfl⟩:=(l.seq 4 rfl fun _=>rfl).dD (g:=bH) (i:=(a.length:Int)) a.length rfl (by simp;omega) (b[a.length]'(by omega)) (by rw[f]) (K:=fun t=>t=b[a.length]'(by omega)) rfl;refine⟨o,by rw[<-c];exact(l.box 1 rfl).cell rfl,o,by rw[<-c];exact(l.box 1 rfl).cell rfl,J,ha,_,hc.2.2.2.1,?_⟩;have am:=(F.nm _ (qg q)).2;refine(mU _ m.objs[a.length].tries h7 y4 (by omega)).mono ?_;rintro _ h8 ⟨t,rfl,U⟩;have z:=l.cY U;refine⟨t,rfl,⟨by rw[<-c];exact(z.box 2 rfl).cell rfl,by rw[<-c];exact(z.box 2 rfl).cell rfl,trivial⟩,?_⟩;refine z.abK ae 5 rfl (fun _=>rfl) rfl a.length rfl (by simp;omega) 3 [vM t.ptr t.len t.cap] (by simp) ((b[a.length]'(by omega)).1,(b[a.length]'(by omega)).2.1,(b[a.length]'(by omega)).2.2.1,t) rfl rfl rfl (by rw[f];simp[bH]) fun h9 A=>⟨trivial,?_⟩
  have A:=(A.freeze 0 rfl fun _=>rfl).bo 6 [1,0,2,3,4,5];have A:=A.Wx;refine⟨(a++[((b[a.length]'(by omega)).1,(b[a.length]'(by omega)).2.1,(b[a.length]'(by omega)).2.2.1,t)],(t,m.objs[a.length].tries)::pool),by simp only[qu,List.length_singleton];rw[Go.Vc.wrap_small _ (by omega) (by omega)];rfl,⟨by simp;omega,fun j r e k s=>?_,?_⟩,by simp;omega⟩
  ·dsimp only at k⊢;by_cases Q:j<a.length
   ·rw[qn Q]at k;obtain⟨g1,g2⟩:=D j r e k s;exact⟨g1,qU _ g2⟩
   ·have H:j=a.length:=by
     have:=(qm.1 k).1;simp at this;omega
    subst H;rw[qj (ql _),zf]at k;simp at k;rw[qd q]at s;injection s with s
    subst k;subst s;exact⟨⟨y1,y2,T⟩,q8⟩
  ·dsimp only;have e4:(a++b.drop a.length).set a.length ((b[a.length]'(by omega)).1,(b[a.length]'(by omega)).2.1,(b[a.length]'(by omega)).2.2.1,t)=a++[((b[a.length]'(by omega)).1,(b[a.length]'(by omega)).2.1,(b[a.length]'(by omega)).2.2.1,t)]++b.drop (a++[((b[a.length]'(by omega)).1,(b[a.length]'(by omega)).2.1,(b[a.length]'(by omega)).2.2.1,t)]).length:=by
    rw[za _ _ (ql _),zf,qT (show a.length<b.length by omega),zw];simp
   rw[<-e4];exact A
 ·have Z:a.length=m.objs.length:=by omega
  rw[q9 (by omega),qP]at l;refine⟨y,(l.box 1 rfl).aQ _ rfl,?_⟩;refine l.storeAll ae 2 rfl rfl (aV y) rfl rfl rfl rfl fun h8 z=>?_;have M:(a.zip m.objs).map qK=a:=List.map_fst_zip (by omega);have G:(a.zip m.objs).map zA=m.objs:=List.map_snd_zip (by omega);refine⟨y,(z.box 2 rfl).aQ _ rfl,y,a.zip m.objs,pool,rfl,⟨by rw[n];exact w.seq,by rw[n];exact w.next,by rw[n];exact w.p,by rw[n];exact w.extra⟩,G,fun p hp=>?_,?_⟩
  ·obtain⟨j,Q,rfl⟩:=qF hp;have B:j<a.length/\j<m.objs.length:=by simp at Q;omega
   have:=D j _ _ (qd B.1) (qd B.2);rw[yK];exact this
  ·rw[M,O,c];exact z.bV [0,3,4]
theorem LZ(x:cg)(m:aG)(h:Heap)(c:eG h x m)(e:db m):ac vV IP #[ft x] h fun v h'=>∃y:cg,v=ft y/\Sp h h' [cO y m]:=by
 refine(rJ x m h c e).mono ?_;rintro _ h' ⟨y,L,pool,rfl,d,a,b,H⟩;exact⟨y,rfl,aa.Kd d a b H⟩
end Go.Proofs.YtdhamoojccmbdaaGreatDoor
namespace Go.Vc
open Go Wl
abbrev bu:=Int×Int×Int×Int×Int×Int×Int×Sl
abbrev bD(x:bu):List Value:=[vL vR x.1,vL vR x.2.1,vL vR x.2.2.1,vL vR x.2.2.2.1,vL vR x.2.2.2.2.1,vL vR x.2.2.2.2.2.1,vL vT x.2.2.2.2.2.2.1,vM x.2.2.2.2.2.2.2.ptr x.2.2.2.2.2.2.2.len x.2.2.2.2.2.2.2.cap]
abbrev recv(x:bu):Value:=vQ #[vL vR x.1,vL vR x.2.1,vL vR x.2.2.1,vL vR x.2.2.2.1,vL vR x.2.2.2.2.1,vL vR x.2.2.2.2.2.1,vL vT x.2.2.2.2.2.2.1,vM x.2.2.2.2.2.2.2.ptr x.2.2.2.2.2.2.2.len x.2.2.2.2.2.2.2.cap]
theorem aez:∀x,∀c∈bD x,c.oneCell'=true:=by intro x c a;simp[bD]at a;rcases a with rfl|rfl|rfl|rfl|rfl|rfl|rfl|rfl<;>rfl
def gY(x y:Int):Int:=if x<y then-1 else if x>y then 1 else 0
def kZ(a b:bu):Int:=if gY a.1 b.1≠0 then gY a.1 b.1 else if gY a.2.1 b.2.1≠0 then gY a.2.1 b.2.1 else gY a.2.2.1 b.2.2.1
def ca(a b:bu):Bool:=decide (kZ a b<=0)
theorem iM(x y:Int):(x<y/\gY x y=-1)∨(x>y/\gY x y=1)∨(x=y/\gY x y=0):=by
 unfold gY;by_cases a:x<y
 ·exact .inl ⟨a,if_pos a⟩
 ·by_cases b:x>y
  ·exact .inr (.inl ⟨b,by rw[if_neg a,if_pos b]⟩)
  ·exact .inr (.inr ⟨by omega,by rw[if_neg a,if_neg b]⟩)
theorem CM(a b:bu):kZ a b<=0↔a.1<b.1∨(a.1=b.1/\(a.2.1<b.2.1∨(a.2.1=b.2.1/\a.2.2.1<=b.2.2.1))):=by
 unfold kZ;rcases iM a.1 b.1 with⟨h1,e1⟩|⟨h1,e1⟩|⟨h1,e1⟩
 ·rw[e1,if_pos (by decide)];omega
 ·rw[e1,if_pos (by decide)];omega
 ·rw[e1,if_neg (by decide)];rcases iM a.2.1 b.2.1 with⟨h2,e2⟩|⟨h2,e2⟩|⟨h2,e2⟩
  ·rw[e2,if_pos (by decide)];omega
  ·rw[e2,if_pos (by decide)];omega
  ·rw[e2,if_neg (by decide)];rcases iM a.2.2.1 b.2.2.1 with⟨h3,e3⟩|⟨h3,e3⟩|⟨h3,e3⟩<;>rw[e3]<;>omega
theorem rK(a b:bu):kZ a b<0↔¬ca b a=true:=by
 unfold ca;rw[decide_eq_true_eq,CM];unfold kZ;rcases iM a.1 b.1 with⟨h1,e1⟩|⟨h1,e1⟩|⟨h1,e1⟩
 ·rw[e1,if_pos (by decide)];omega
 ·rw[e1,if_pos (by decide)];omega
 ·rw[e1,if_neg (by decide)];rcases iM a.2.1 b.2.1 with⟨h2,e2⟩|⟨h2,e2⟩|⟨h2,e2⟩
  ·rw[e2,if_pos (by decide)];omega
  ·rw[e2,if_pos (by decide)];omega
  ·rw[e2,if_neg (by decide)];rcases iM a.2.2.1 b.2.2.1 with⟨h3,e3⟩|⟨h3,e3⟩|⟨h3,e3⟩<;>rw[e3]<;>omega
theorem aai(a b:bu):kZ a b=0↔(a.1=b.1/\a.2.1=b.2.1/\a.2.2.1=b.2.2.1):=by
 unfold kZ;rcases iM a.1 b.1 with⟨h1,e1⟩|⟨h1,e1⟩|⟨h1,e1⟩
 ·rw[e1,if_pos (by decide)];omega
 ·rw[e1,if_pos (by decide)];omega
 ·rw[e1,if_neg (by decide)];rcases iM a.2.1 b.2.1 with⟨h2,e2⟩|⟨h2,e2⟩|⟨h2,e2⟩
  ·rw[e2,if_pos (by decide)];omega
  ·rw[e2,if_pos (by decide)];omega
  ·rw[e2,if_neg (by decide)];rcases iM a.2.2.1 b.2.2.1 with⟨h3,e3⟩|⟨h3,e3⟩|⟨h3,e3⟩<;>rw[e3]<;>omega
theorem dw:Ord ca:=⟨fun a b c d e=>by
 unfold ca at*;rw[decide_eq_true_eq,CM]at*;omega,fun a b=>by
 unfold ca;rw[wx,decide_eq_true_eq,decide_eq_true_eq,CM,CM];omega⟩
theorem SZ{α:Type}(A B C:List α)(x y:α){i j:Nat}(b:i=A.length)(c:j=A.length+1+B.length):
  (A++x::(B++y::C))[i]?=some x/\(A++x::(B++y::C))[j]?=some y/\((A++x::(B++y::C)).set i y).set j x=A++y::(B++x::C)/\((A++x::(B++y::C)).set j x).set i y=A++y::(B++x::C):=by
 subst b;subst c;have a:A.length+1+B.length-A.length=B.length+1:=by omega
 refine⟨by rw[qj (ql _),zf];rfl,?_,?_,?_⟩
 ·rw[qj (by omega),a,qz,qj (ql _),zf];rfl
 ·rw[za _ _ (ql _),zf,zw,za _ _ (by omega),a,wv,za _ _ (ql _),zf,zw]
 ·rw[za _ _ (show A.length<=A.length+1+B.length by omega),a,wv,za _ _ (ql _),zf,zw,za _ _ (ql _),zf,zw]
end Go.Vc
namespace Go.Proofs.YtdhamoojccmbdaaGreatDoor
open Go Go.Vc Go.Proofs Wl
abbrev afE:bN C.toBR KZ aZ 8 [vL vR 0,vL vR 0,vL vR 0,vL vR 0,vL vR 0,vL vR 0,vL vT 0,vM none 0 0] 80:=⟨_,_,rfl,rfl,rfl,rfl,rfl,rfl⟩
theorem tI(x y:Int)(h:Heap):ac vV sU #[vL vR x,vL vR y] h fun v h'=>v=vL vR (gY x y)/\h'=h:=by
 refine rg x y ?_;unfold np;have a:∀z:Int,ac vV xt #[vL vR z] h fun v h'=>v=vP false/\h'=h:=fun z=>by
  refine uc z ?_;unfold pF;exact⟨by simp,rfl⟩
 refine(a x).mono ?_;rintro _ _ ⟨rfl,rfl⟩;refine⟨_,rfl,(a y).mono ?_⟩;rintro _ _ ⟨rfl,rfl⟩;refine⟨_,rfl,bA (fun e=>by cases e) fun _=>bA (fun e=>by cases e) fun _=>?_⟩;refine ak (fun e=>⟨by rw[gY,if_pos e],rfl⟩) fun e=>ak (fun e2=>⟨by rw[gY,if_neg e,if_pos e2],rfl⟩) fun e2=>⟨by rw[gY,if_neg e,if_neg e2],rfl⟩
theorem pK(a b:bu)(h:Heap):ac vV cU #[recv a,recv b] h fun v h'=>v=vL vR (kZ a b)/\Sp h h' []:=by
 refine NL a b ?_;unfold GH;refine(Sp.refl h).boxed fun q M H=>H.boxed fun t k g=>?_;have g:Sp h k [au q aZ (bD a),au t aZ (bD b)]:=g;have w:=g.box 0 rfl;have r:=g.box 1 rfl;have z:cellOf k (q.add 1)=some (vL vR a.2.1):=w.cell rfl;have B:cellOf k (t.add 1)=some (vL vR b.2.1):=r.cell rfl;have c3:cellOf k (q.add 2)=some (vL vR a.2.2.1):=w.cell rfl;have s:cellOf k (t.add 2)=some (vL vR b.2.2.1):=r.cell rfl;refine⟨a.1,w.cell0 rfl,b.1,r.cell0 rfl,a.2.1,z,b.2.1,B,a.2.2.1,c3,b.2.2.1,s,(tI _ _ k).mono ?_⟩;rintro _ _ ⟨rfl,rfl⟩;refine⟨_,rfl,⟨s,c3,B,z,trivial⟩,(tI _ _ _).mono ?_⟩;rintro _ _ ⟨rfl,rfl⟩;refine⟨_,rfl,⟨s,c3,trivial⟩,(tI _ _ _).mono ?_⟩;rintro _ K ⟨rfl,rfl⟩;refine⟨_,rfl,trivial,?_⟩;refine g.rp ae aE ⟨_,_,rfl,rfl,rfl,rfl,rfl,rfl⟩ rfl [gY a.1 b.1,gY a.2.1 b.2.1,gY a.2.2.1 b.2.2.1] rfl (show 3*1<=2^20 by decide) rfl trivial ?_;refine g.lit ae aE ⟨_,_,rfl,rfl,rfl,rfl,rfl,rfl⟩ rfl [gY a.1 b.1,gY a.2.1 b.2.1,gY a.2.2.1 b.2.2.1] rfl (show 3*1<=2^20 by decide) rfl fun c A u=>?_;refine(Cv c (R:=fun v h'=>v=vL vR (kZ a b)/\h'=A) ?_).mono ?_
 ·unfold xp;have y:=u.seq 2 rfl fun _=>rfl;have G:=(u.own 2 rfl).len;obtain⟨L,f⟩:∃L,L=[gY a.1 b.1,gY a.2.1 b.2.1,gY a.2.2.1 b.2.2.1]:=⟨_,rfl⟩
  rw[<-f]at y G;have E:L.length=3:=by rw[f];rfl
  refine av (fun i:Nat=>(i:Int)) (fun i h'=>i<=3/\(∀j,j<i->L[j]?=some 0)/\h'=A) (fun i=>3-i) 0 rfl ⟨by omega,by omega,rfl⟩ ?_;rintro i D ⟨I,n,rfl⟩;have d:0<i->gY a.1 b.1=0:=fun h0=>by have:=n 0 h0;rw[f]at this;simpa using this
  have l:1<i->gY a.2.1 b.2.1=0:=fun h0=>by have:=n 1 h0;rw[f]at this;simpa using this
  have p:2<i->gY a.2.2.1 b.2.2.1=0:=fun h0=>by have:=n 2 h0;rw[f]at this;simpa using this
  refine ak (fun e=>?_) (fun e=>?_)
  ·have m:i<L.length:=by
    have F:(i:Int)<(c.len:Int):=e;omega
   refine y.bv i rfl m L[i] rfl ?_;refine bQ (fun e2=>⟨?_,rfl⟩) (fun e2=>?_)
   ·congr 1;unfold kZ;have:i=0∨i=1∨i=2:=by omega
    subst f;rcases this with rfl|rfl|rfl
    ·exact(if_pos (show gY a.1 b.1≠0 from e2)).symm
    ·rw[if_neg (by rw[d (by omega)];simp)];exact(if_pos (show gY a.2.1 b.2.1≠0 from e2)).symm
    ·rw[if_neg (by rw[d (by omega)];simp),if_neg (by rw[l (by omega)];simp)];rfl
   ·refine⟨i+1,by rw[Go.Vc.wrap_small _ (by omega) (by omega)];rfl,⟨by omega,fun j J=>?_,rfl⟩,by omega⟩;by_cases x:j=i
    ·subst x;rw[qd m,e2]
    ·exact n j (by omega)
  ·have o:i=3:=by
    have F:¬(i:Int)<(c.len:Int):=e;omega
   subst o;refine⟨?_,rfl⟩;unfold kZ;rw[d (by omega),l (by omega),p (by omega)];rfl
 ·rintro _ D ⟨rfl,rfl⟩;exact⟨_,rfl,trivial,rfl,.zip u.ai⟩
abbrev cv(s:Sl)(d:List bu):HP:=an aZ s 8 bD d
section
variable {B:aA} {h0 h h':Heap} {As:List HP} {s:Sl} {d:List bu}
theorem rL(X U M V Y:List bu)(n:Nat)(a b:Int)(S:U.length=n)(T:V.length=n)(I:a=(X.length:Int))(L:b=(X.length+n+M.length:Nat))(A:X.length+n+M.length+n+Y.length<=2^40)(H:aa B h0 h (cv s (X++(U++(M++(V++Y))))::As)):
  ac vV ma #[vM s.ptr s.len s.cap,vL vR a,vL vR b,vL vR n,.func (.func cU) #[] #[]] h fun v h'=>v=.tuple #[]/\aa B h0 h' (cv s (X++(V++(M++(U++Y))))::As):=by
 refine lN s a b n (cU,#[],#[]) ?_;unfold io;subst I;subst L;refine av (fun k:Nat=>(k:Int)) (fun k h'=>k<=n/\aa B h0 h' (cv s (X++(V.take k++U.drop k++(M++(U.take k++V.drop k++Y))))::As)) (fun k=>n-k) 0 rfl ⟨by omega,by simpa using H⟩ ?_;rintro k R ⟨Q,f⟩;refine ak (fun e=>?_) (fun e=>?_)
 ·have N:k<n:=by omega
  have p:k<U.length:=by omega
  have q:k<V.length:=by omega
  have d:X++(V.take k++U.drop k++(M++(U.take k++V.drop k++Y)))=(X++V.take k)++U[k]::((U.drop (k+1)++(M++U.take k))++V[k]::(V.drop (k+1)++Y)):=by
   rw[qT p,qT q];simp only[qo,zu,zV]
  have c:X++(V.take (k+1)++U.drop (k+1)++(M++(U.take (k+1)++V.drop (k+1)++Y)))=(X++V.take k)++V[k]::((U.drop (k+1)++(M++U.take k))++U[k]::(V.drop (k+1)++Y)):=by
   rw[aH V k q,aH U k p];simp only[qo,zu,zV]
  rw[d]at f;obtain⟨y,z,x,O⟩:=SZ (X++V.take k) (U.drop (k+1)++(M++U.take k)) (V.drop (k+1)++Y) U[k] V[k] (i:=X.length+k) (j:=X.length+n+M.length+k) (by simp;omega) (by simp;omega);obtain⟨D,K⟩:∃D,D=(X++V.take k)++U[k]::((U.drop (k+1)++(M++U.take k))++V[k]::(V.drop (k+1)++Y)):=⟨_,rfl⟩
  rw[<-K]at f y z x O;have u:=(qm.1 y)
  have r:=(qm.1 z)
  obtain⟨m,w⟩:=u;obtain⟨o,t⟩:=r;have J:qc vR ((X.length:Int)+k)=((X.length+k:Nat):Int):=by rw[Go.Vc.wrap_small _ (by omega) (by omega)];omega
  have G:qc vR (((X.length+n+M.length:Nat):Int)+k)=((X.length+n+M.length+k:Nat):Int):=by rw[Go.Vc.wrap_small _ (by omega) (by omega)];omega
  rw[J,G];refine(f.seq 0 rfl fun _=>rfl).dD (g:=bD) _ rfl o V[k] (by rw[t]) ?_;refine(f.seq 0 rfl fun _=>rfl).dD (g:=bD) _ rfl m U[k] (by rw[w]) ?_;refine f.set ae 0 rfl (fun _=>rfl) rfl (X.length+k) rfl m V[k] rfl rfl rfl fun P F=>⟨trivial,?_⟩
  refine F.set ae 0 rfl (fun _=>rfl) rfl (X.length+n+M.length+k) rfl (by simpa using o) U[k] rfl rfl rfl fun h3 E=>⟨trivial,?_⟩
  refine⟨k+1,by rw[Go.Vc.wrap_small _ (by omega) (by omega)];rfl,⟨by omega,?_⟩,by omega⟩;rw[c,<-x];exact E
 ·have:k=n:=by omega
  subst this;rw[qi (l:=V) (by omega),q9 (l:=U) (by omega),qi (l:=U) (by omega),q9 (l:=V) (by omega)]at f;refine⟨rfl,?_⟩;simpa using f
theorem Vm(X U V Y:List bu)(a m b:Int)(K:0<U.length)(L:0<V.length)(E:a=(X.length:Int))(w:m=(X.length+U.length:Nat))(G:b=(X.length+U.length+V.length:Nat))(y:X.length+U.length+V.length+Y.length<=2^40)(H:aa B h0 h (cv s (X++(U++(V++Y)))::As)):
  ac vV nv #[vM s.ptr s.len s.cap,vL vR a,vL vR m,vL vR b,.func (.func cU) #[] #[]] h fun v h'=>v=.tuple #[]/\aa B h0 h' (cv s (X++(V++(U++Y)))::As):=by
 refine mT s a m b (cU,#[],#[]) ?_;unfold iX;subst E;subst w;subst G;have J:qc vR (((X.length+U.length:Nat):Int)-X.length)=(U.length:Int):=by rw[Go.Vc.wrap_small _ (by omega) (by omega)];omega
 have e2:qc vR (((X.length+U.length+V.length:Nat):Int)-(X.length+U.length:Nat))=(V.length:Int):=by rw[Go.Vc.wrap_small _ (by omega) (by omega)];omega
 rw[J,e2];refine av (fun t:List bu×List bu×List bu×List bu=>((t.2.1.length:Int),(t.2.2.1.length:Int))) (fun t h'=>0<t.2.1.length/\0<t.2.2.1.length/\X.length+t.1.length+t.2.1.length=X.length+U.length/\V++U=t.1++((t.2.2.1++t.2.1)++t.2.2.2)/\aa B h0 h' (cv s (X++(t.1++(t.2.1++(t.2.2.1++(t.2.2.2++Y)))))::As)) (fun t=>t.2.1.length+t.2.2.1.length) ([],U,V,[]) rfl ⟨K,L,by simp,by simp,by simpa using H⟩ ?_;rintro⟨P,A,c,Q⟩ p ⟨M,N,w,o,r⟩;dsimp only at*;have l:=congrArg vg o;simp only[qu]at l;refine bQ (fun e=>ak (fun I=>?_) (fun I=>?_)) (fun e=>?_)
 ·--the left one is longer
  have u:c.length<A.length:=by omega
  have D:A=A.take c.length++A.drop c.length:=(qD _ _).symm;have g:(A.take c.length).length=c.length:=by simp;omega
  have i:qc vR (((X.length+U.length:Nat):Int)-A.length)=((X++P).length:Int):=by rw[Go.Vc.wrap_small _ (by omega) (by omega)];simp;omega
  rw[i];have d:aa B h0 p (cv s ((X++P)++(A.take c.length++(A.drop c.length++(c++(Q++Y)))))::As):=by
   have:(X++P)++(A.take c.length++(A.drop c.length++(c++(Q++Y))))=X++(P++(A++(c++(Q++Y)))):=by
    conv=>rhs;rw[D]
    simp only[qo,zu,zV]
   rw[this];exact r
  refine(rL (X++P) (A.take c.length) (A.drop c.length) c (Q++Y) c.length _ _ g rfl rfl (by simp;omega) (by simp;omega) d).mono ?_;rintro _ x ⟨rfl,f⟩;refine⟨(),rfl,(P++c,A.drop c.length,A.take c.length,Q),?_,⟨by dsimp only;simp;omega,by dsimp only;omega,by dsimp only;simp;omega,?_,?_⟩,by dsimp only;simp;omega⟩
  ·dsimp only;rw[g,Go.Vc.wrap_small _ (by omega) (by omega)];simp;omega
  ·dsimp only;rw[o,qD];simp
  ·dsimp only;have:X++((P++c)++(A.drop c.length++(A.take c.length++(Q++Y))))=(X++P)++(c++(A.drop c.length++(A.take c.length++(Q++Y)))):=by simp
   rw[this];exact f
 ·have u:A.length<c.length:=by omega
  obtain⟨j,O⟩:∃j,j=c.length-A.length:=⟨_,rfl⟩
  have F:c=c.take j++c.drop j:=(qD _ _).symm;have n:(c.drop j).length=A.length:=by simp;omega
  have k:(c.take j).length=j:=by simp;omega
  have i:qc vR (((X.length+U.length:Nat):Int)-A.length)=((X++P).length:Int):=by rw[Go.Vc.wrap_small _ (by omega) (by omega)];simp;omega
  have z:qc vR ((qc vR (((X.length+U.length:Nat):Int)+c.length))-A.length)=(((X++P).length+A.length+(c.take j).length:Nat):Int):=by
   rw[Go.Vc.wrap_small (((X.length+U.length:Nat):Int)+c.length) (by omega) (by omega),Go.Vc.wrap_small _ (by omega) (by omega),k];simp;omega
  rw[i,z];have d:aa B h0 p (cv s ((X++P)++(A++(c.take j++(c.drop j++(Q++Y)))))::As):=by
   have:(X++P)++(A++(c.take j++(c.drop j++(Q++Y))))=X++(P++(A++(c++(Q++Y)))):=by
    conv=>rhs;rw[F]
    simp only[qo,zu,zV]
   rw[this];exact r
  refine(rL (X++P) A (c.take j) (c.drop j) (Q++Y) A.length _ _ rfl n rfl rfl (by simp;omega) d).mono ?_;rintro _ x ⟨rfl,f⟩;refine⟨(),rfl,(P,c.drop j,c.take j,A++Q),?_,⟨by dsimp only;omega,by dsimp only;omega,by dsimp only;omega,?_,?_⟩,by dsimp only;omega⟩
  ·dsimp only;rw[k,n,Go.Vc.wrap_small _ (by omega) (by omega)];congr 1;omega
  ·dsimp only;rw[o,qD];simp
  ·dsimp only;have:X++(P++(c.drop j++(c.take j++((A++Q)++Y))))=(X++P)++(c.drop j++(c.take j++(A++(Q++Y)))):=by simp
   rw[this];exact f
 ·have q:A.length=c.length:=by omega
  have i:qc vR (((X.length+U.length:Nat):Int)-A.length)=((X++P).length:Int):=by rw[Go.Vc.wrap_small _ (by omega) (by omega)];simp;omega
  rw[i];have d:aa B h0 p (cv s ((X++P)++(A++([]++(c++(Q++Y)))))::As):=by
   have:(X++P)++(A++([]++(c++(Q++Y))))=X++(P++(A++(c++(Q++Y)))):=by simp
   rw[this];exact r
  refine(rL (X++P) A [] c (Q++Y) A.length _ _ rfl q.symm rfl (by simp;omega) (by simp;omega) d).mono ?_;rintro _ x ⟨rfl,f⟩;refine⟨(),rfl,rfl,?_⟩;have:X++(V++(U++Y))=(X++P)++(c++([]++(A++(Q++Y)))):=by
   have:V++(U++Y)=(V++U)++Y:=by simp
   rw[this,o];simp
  rw[this];exact f
end
end Go.Proofs.YtdhamoojccmbdaaGreatDoor
namespace Wl
open Go
theorem XS(l:List UInt8)(x:UInt8):cT (l++[x])=cT l*256+x.toNat:=by unfold cT;rw[wE];rfl
theorem Ta:∀l:List UInt8,l.length<=4->0<=cT l/\cT l<4294967296/\(l.length<=3->cT l<16777216)
 |[],_=>by simp[cT]
 |[a],_=>by have:=a.toNat_lt;simp only[cT,zB,wI];omega
 |[a,b],_=>by have:=a.toNat_lt;have:=b.toNat_lt;simp only[cT,zB,wI];omega
 |[a,b,c],_=>by have:=a.toNat_lt;have:=b.toNat_lt;have:=c.toNat_lt;simp only[cT,zB,wI];omega
 |[a,b,c,d],_=>by have:=a.toNat_lt;have:=b.toNat_lt;have:=c.toNat_lt;have:=d.toNat_lt;simp only[cT,zB,wI,zi,yj];omega
 |_::_::_::_::_::_,h=>by simp at h
theorem afF(n x:Nat)(e:n<2^32)(f:x<256):qc vR (((qA (qk vR) (qc vR ((n:Int)*2^min (8:Int).toNat (qk vR)))|||qA (qk vR) (qc vR (x:Int))).toNat:Nat):Int)=(n:Int)*256+x:=by
 have c:min (8:Int).toNat (qk vR)=8:=rfl;rw[c];have a:qc vR ((n:Int)*2^8)=((n*256:Nat):Int):=by rw[Go.Vc.wrap_small _ (by omega) (by omega)];omega
 have e2:qc vR (x:Int)=((x:Nat):Int):=Go.Vc.wrap_small _ (by omega) (by omega);rw[a,e2];have d:(qA (qk vR) ((n*256:Nat):Int)|||qA (qk vR) ((x:Nat):Int)).toNat=n*256+x:=by
  show((qA 64 ((n*256:Nat):Int)|||qA 64 ((x:Nat):Int):BitVec 64)).toNat=n*256+x;rw[BitVec.toNat_or,wP,wP,BitVec.toNat_ofNat,BitVec.toNat_ofNat,yX (by omega),yX (by omega)];have:=Nat.shiftLeft_add_eq_or_of_lt (b:=x) (i:=8) (by omega) n;rw[Nat.shiftLeft_eq,show(2:Nat)^8=256 from rfl]at this;omega
 rw[d,Go.Vc.wrap_small _ (by omega) (by omega)];omega
end Wl
namespace Go.Vc
open Go Wl
def eI:iC bu dj:=⟨fun h q a b=>(a.1=b.object/\a.2.1=b.block/\a.2.2.1=b.id/\(a.2.2.2.1,a.2.2.2.2.1,a.2.2.2.2.2.1)=b.p/\a.2.2.2.2.2.2.1=b.seed/\0<=b.seed/\b.seed<4294967296)/\Seq h q a.2.2.2.2.2.2.2 1 aC b.data,fun a d=>⟨a.1,a.2.ai d⟩,fun a c=>⟨a.1,a.2.mono c⟩⟩
end Go.Vc
namespace Go.Proofs.YtdhamoojccmbdaaGreatDoor
open Go Go.Vc Go.Proofs Wl
theorem xy{p q:aA}(a b:Sl)(c d:List UInt8)(h:Heap)(f:Seq h p a 1 aC c)(e:Seq h q b 1 aC d):
  ac vV Nv #[vM a.ptr a.len a.cap,vM b.ptr b.len b.cap] h fun v h'=>v=vP (decide (c=d))/\h'=h:=by
 refine Ld a b ?_;unfold Ey;refine Wk ae ⟨_,rfl,rfl⟩ ⟨_,rfl,rfl⟩ ⟨_,rfl,rfl⟩ f (Wk ae ⟨_,rfl,rfl⟩ ⟨_,rfl,rfl⟩ ⟨_,rfl,rfl⟩ e ⟨?_,rfl⟩);rw[ByteArray.toList_mk,ByteArray.toList_mk];have:(c==d)=decide (c=d):=by rw[yQ];simp
 rw[this]
theorem XT(b:Sl)(c:List UInt8)(h:Heap)(i:Rd h b 1 aC c)(z:c.length<=2^30)(d:b.len<=b.cap):
  ac vV SI #[vM b.ptr b.len b.cap] h fun v h'=>(jG c=none->v=.tuple #[vL vR 0,vM none 0 0,vP false]/\Sp h h' [])/\
   ∀k x,jG c=some (k,x)->∃r:Sl,v=.tuple #[vL vR k,vM r.ptr r.len r.cap,vP true]/\Sp h h' [an aD r 1 aC x]:=by
 refine Qp b ?_;unfold IY;have A:=i.len;refine bQ (fun e=>?_) (fun e=>?_)
 ·have:jG c=none:=by unfold jG;rw[if_neg (fun a=>e (by omega))]
  rw[this];exact⟨fun _=>⟨rfl,Sp.refl h⟩,fun k x h=>(by cases h)⟩
 have l:c.length=64:=by omega
 have h3:3<c.length:=by omega
 refine i.QN 3 rfl h3 ((c.getD 3 0).toNat:Int) (by rw[getD_lt h3];rfl) fun w n=>⟨⟨by decide,by decide,by omega⟩,?_⟩
 have f:=(i.drop 4 d).take 55 (by simp;omega);have p:((c.drop 4).take 55).length=55:=by simp;omega
 refine(fH ⟨_,55,b.cap-4⟩ ((c.drop 4).take 55) h f (by omega)).mono ?_;rintro _ u ⟨r,rfl,m⟩;refine⟨r,rfl,jE m.ai ⟨n,trivial⟩,?_⟩;have y:=(c.getD 3 0).toNat_lt;rw[Go.Vc.wrap_small ((c.getD 3 0).toNat:Int) (by omega) (by omega)];refine(Hi ((c.getD 3 0).toNat:Int) r ((c.drop 4).take 55) u (m.seq 0 rfl fun _=>rfl) (by omega)).mono ?_;rintro _ s ⟨q,rfl,t⟩;have g:=m.comp t;refine⟨q,rfl,(xy b q c _ s (i.up g.ai) (g.seq 1 rfl fun _=>rfl)).mono ?_⟩;rintro _ h3 ⟨rfl,rfl⟩;refine⟨_,rfl,bg (fun e2=>?_) (fun e2=>?_)⟩
 ·have o:c≠dW ((c.getD 3 0).toNat:Int) ((c.drop 4).take 55):=of_decide_eq_false e2;have:jG c=none:=by unfold jG;rw[if_neg (fun a=>o a.2.symm)]
  rw[this];exact⟨fun _=>⟨rfl,.zip g.ai⟩,fun k x h=>(by cases h)⟩
 ·have j:c=dW ((c.getD 3 0).toNat:Int) ((c.drop 4).take 55):=of_decide_eq_true e2;have:jG c=some (((c.getD 3 0).toNat:Int),(c.drop 4).take 55):=by unfold jG;rw[if_pos ⟨l,j.symm⟩]
  rw[this];refine⟨fun h=>(by cases h),fun k x a=>?_⟩;injection a with a
  injection a with hh1 hh2
  subst hh1;subst hh2;exact⟨r,rfl,g.bV [0]⟩
theorem Pn(b:Sl)(l:List UInt8)(h:Heap)(d:Rd h b 1 aC l)(p:l.length<=4):ac vV jb #[vM b.ptr b.len b.cap] h fun v h'=>v=vL vR (cT l)/\h'=h:=by
 refine LG b ?_;unfold EQ;have g:=d.len;refine av (fun i:Nat=>(cT (l.take i),(i:Int))) (fun i h'=>i<=l.length/\h'=h) (fun i=>l.length-i) 0 rfl ⟨by omega,rfl⟩ ?_;rintro i o ⟨k,rfl⟩;dsimp only;refine ak (fun e=>?_) (fun e=>?_)
 ·have a:i<l.length:=by omega
  refine d.bv i rfl a (l[i].toNat:Int) rfl ⟨by decide,?_⟩;have c:=(Ta (l.take i) (by simp;omega))
  have f:=c.2.2 (by simp;omega);have m:=l[i].toNat_lt;obtain⟨n,j⟩:∃n:Nat,cT (l.take i)=(n:Int):=⟨(cT (l.take i)).toNat,by omega⟩
  refine⟨i+1,?_,⟨by omega,rfl⟩,by omega⟩;rw[aH _ _ a,XS,j,afF n _ (by omega) (by omega),Go.Vc.wrap_small ((i:Int)+1) (by omega) (by omega)];rfl
 ·rw[qi (by omega)];exact⟨rfl,rfl⟩
theorem Jc(x:bu)(r:dj)(h:Heap)(E:fA eI h x r):ac vV Ql #[recv x] h fun v h'=>v=vP (iK r)/\Sp h h' []:=by
 refine NN x ?_;unfold GK;obtain⟨⟨D,e2,B,o,J,_⟩,I⟩:=E;have s:x.2.2.2.1=r.p.1:=congrArg (·.1) o;have n:x.2.2.2.2.1=r.p.2.1:=congrArg (·.2.1) o;have e:x.2.2.2.2.2.1=r.p.2.2:=congrArg (·.2.2) o;have c:=Seq.len I;refine(Sp.refl h).boxed fun a f j=>?_;have j:Sp h f [au a aZ (bD x)]:=j;have l:=j.box 0 rfl;have u:cellOf f a=some (vL vR r.object):=by rw[<-D];exact l.cell0 rfl
 have t:cellOf f (a.add 1)=some (vL vR r.block):=by rw[<-e2];exact l.cell rfl
 have w:cellOf f (a.add 2)=some (vL vR r.id):=by rw[<-B];exact l.cell rfl
 have y:∀{h':Heap},Sp h h' [au a aZ (bD x)]->(iK r=true->False)->Value.bool false=vP (iK r)/\Sp h h' []:=fun{h'} H' hn=>⟨by cases hq:iK r with|false=>rfl|true=>exact absurd hq hn,.zip H'.ai⟩
 refine cl (fun b h'=>b=decide ((0<=r.object/\r.object<=16777215)/\(0<=r.block/\r.block<=7)/\(0<=r.id/\r.id<=65535))/\h'=f) ?_ ?_
 ·refine⟨_,u,ak (fun z=>⟨_,u,ak (fun i=>⟨_,t,ak (fun F=>⟨_,t,ak (fun G=>⟨_,w,ak (fun H=>⟨_,w,?_,rfl⟩) fun H=>⟨?_,rfl⟩⟩) fun G=>⟨?_,rfl⟩⟩) fun F=>⟨?_,rfl⟩⟩) fun i=>⟨?_,rfl⟩⟩) fun z=>⟨?_,rfl⟩⟩
  ·rw[decide_eq_decide];omega
  all_goals (symm;rw[decide_eq_false_iff_not];omega)
 ·rintro _ _ ⟨rfl,rfl⟩;refine ak (fun g=>?_) fun g=>y j fun q=>g (by have:=(jV r).1 q;omega);refine⟨r.p,by rw[<-s,<-n,<-e];exact l.AK 3 rfl rfl rfl,(dN r.p _).mono ?_⟩;rintro _ h3 ⟨rfl,A⟩;have m:Sp h h3 [au a aZ (bD x)]:=j.up A.ai;have d:=m.box 0 rfl;refine⟨_,rfl,bA (fun i=>?_) fun i=>y m fun q=>by have:=((jV r).1 q).2.2.2.1;rw[i]at this;cases this⟩;refine⟨x.2.2.2.2.2.2.2,d.cell rfl,r.p.2.2,by rw[<-e];exact d.xx 3 2 rfl,?_,.zip m.ai⟩;congr 1;by_cases k:(r.data.length:Int)=r.p.2.2
  ·have:iK r=true:=(jV r).2 ⟨by omega,by omega,by omega,i,k⟩;rw[this,c];simpa using k
  ·have:iK r=false:=by
    cases hq:iK r with
    |false=>rfl
    |true=>exact absurd ((jV r).1 hq).2.2.2.2 k
   rw[this,c];simpa using k
section
variable {B:aA} {h0 h h':Heap} {As:List HP}
theorem mW(s:Sl)(l:List UInt8)(n:Int)(k:Nat)(o:k<=4)(q:l.length<=2^30)(H:aa B h0 h (an aD s 1 aC l::As)):
  ac vV JO #[vM s.ptr s.len s.cap,vL vR n,vL vR k] h fun v h'=>∃r:Sl,v=vM r.ptr r.len r.cap/\aa B h0 h' (an aD r 1 aC (l++bJ n k)::As):=by
 refine Iu s n k ?_;unfold AG;rw[Go.Vc.wrap_small ((k:Int)-1) (by omega) (by omega)];refine av (fun t:Sl×Nat=>(t.1,(k:Int)-1-t.2)) (fun t h'=>t.2<=k/\aa B h0 h' (an aD t.1 1 aC (l++(bJ n k).take t.2)::As)) (fun t=>k-t.2) (s,0) (by simp) ⟨by simp,by simpa using H⟩ ?_;rintro⟨r,t⟩ p ⟨j,a⟩;dsimp only at*;refine ak (fun e=>?_) (fun e=>?_)
 ·have b:t<k:=by omega
  have i:qc vR ((8:Int)*((k:Int)-1-t))=((8*(k-1-t):Nat):Int):=by
   rw[Go.Vc.wrap_small _ (by omega) (by omega)];omega
  rw[i,qp];have e2:min (8*(k-1-t)) (qk vR)=8*(k-1-t):=by
   have:qk vR=64:=rfl;omega
  rw[e2,dM];refine⟨by omega,?_⟩;refine a.push ae 0 rfl fP rfl (by decide) (fun _=>rfl) ge (b8 (qS n (2^(8*(k-1-t))))) rfl (by decide) (by simp[ci];omega) fun c m d=>?_;refine⟨(c,t+1),?_,⟨by dsimp only;omega,?_⟩,by dsimp only;omega⟩
  ·dsimp only;have g:qc vR ((k:Int)-1-t-1)=(k:Int)-1-((t+1:Nat):Int):=by
    rw[Go.Vc.wrap_small _ (by omega) (by omega)];omega
   rw[g]
  ·dsimp only;have f:(bJ n k).take t++[b8 (qS n (2^(8*(k-1-t))))]=(bJ n k).take (t+1):=by
    rw[aH _ _ (by rw[ci];exact b)];congr 2;simp[bJ]
   rw[<-f,<-qo];exact d
 ·have:t=k:=by omega
  subst this;rw[qi (by rw[ci];omega)]at a;exact⟨r,rfl,a⟩
end
theorem BH(x:bu)(r:dj)(h:Heap)(K:fA eI h x r):ac vV Qc #[recv x] h fun v h'=>∃s:Sl,v=vM s.ptr s.len s.cap/\Sp h h' [an aD s 1 aC (dJ r)]:=by
 refine NB x ?_;unfold Gx;obtain⟨⟨V,e2,U,l,R,Z,e8⟩,W⟩:=id K;have w:x.2.2.2.1=r.p.1:=congrArg (·.1) l;have k:x.2.2.2.2.1=r.p.2.1:=congrArg (·.2.1) l;have q:x.2.2.2.2.2.1=r.p.2.2:=congrArg (·.2.2) l;refine(Sp.refl h).boxed fun e J b=>?_;have b:Sp h J [au e aZ (bD x)]:=b;refine⟨x,(b.box 0 rfl).aQ _ rfl,(Jc x r J (eI.mono (eI.loc K b.ai) fun _ S=>qV S b.ai.1)).mono ?_⟩;rintro _ P ⟨rfl,L⟩;have j:Sp h P [au e aZ (bD x)]:=b.up L.ai;refine⟨_,rfl,bg (fun g=>?_) (fun g=>?_)⟩
 ·unfold dJ;rw[g];exact⟨⟨none,0,0⟩,rfl,(j.nil aD 1 aC).bV [1]⟩
 have O:=ot g;have m:=j.box 0 rfl;refine⟨r.object,by rw[<-V];exact m.cell0 rfl,(mW ⟨none,0,0⟩ [] r.object 3 (by decide) (by simp) (j.nil aD 1 aC).bL).mono ?_⟩;rintro _ h3 ⟨B,rfl,z⟩;have o:=z.box 1 rfl;refine⟨B,rfl,r.block,by rw[<-e2];exact o.cell rfl,(mW B _ r.block 1 (by decide) (by simp[ci]) z).mono ?_⟩;rintro _ h4 ⟨G,rfl,D⟩;have n:=D.box 1 rfl;refine⟨G,rfl,r.id,by rw[<-U];exact n.cell rfl,(mW G _ r.id 2 (by decide) (by simp[ci]) D).mono ?_⟩;rintro _ h5 ⟨N,rfl,F⟩;have a:=F.box 1 rfl;refine⟨N,rfl,r.p.1,by rw[<-w];exact a.cell rfl,r.p.2.1,by rw[<-k];exact a.xx 3 1 rfl,r.p.2.2,by rw[<-q];exact a.xx 3 2 rfl,?_⟩;rw[dM,dM,dM];refine F.lit ae aC fP rfl [b8 r.p.1,b8 r.p.2.1,b8 r.p.2.2] rfl (show 3*1<=2^20 by decide) rfl fun Y h6 I=>?_;refine I.append ae 0 rfl fP ⟨_,_,rfl,rfl⟩ rfl (by decide) (fun _=>rfl) (I.seq 2 rfl fun _=>rfl) ge (by simp[ci]) fun A M d=>?_;have d:Sp h M [an aD A 1 aC ([]++bJ r.object 3++bJ r.block 1++bJ r.id 2++[b8 r.p.1,b8 r.p.2.1,b8 r.p.2.2]),au e aZ (bD x)]:=d.bV [0,1];have i:=d.box 1 rfl;refine⟨r.seed,by rw[<-R];exact i.cell rfl,?_⟩;rw[Go.Vc.wrap_small r.seed (by omega) (by omega)];refine(mW A _ r.seed 4 (by decide) (by simp[ci]) d).mono ?_;rintro _ h8 ⟨Q,rfl,y⟩;have t:=y.box 1 rfl;refine⟨Q,rfl,x.2.2.2.2.2.2.2,t.cell rfl,?_⟩;refine y.append ae 0 rfl fP ⟨_,_,rfl,rfl⟩ rfl (by decide) (fun _=>rfl) (Seq.up W y.ai) ge (by simp[ci];omega) fun E H f=>?_;have T:[]++bJ r.object 3++bJ r.block 1++bJ r.id 2++[b8 r.p.1,b8 r.p.2.1,b8 r.p.2.2]++bJ r.seed 4++r.data=it r:=by unfold it;simp[qo]
 have f:Sp h H [an aD E 1 aC (it r),au e aZ (bD x)]:=by rw[<-T];exact f
 refine(Hi 1 E (it r) H (f.seq 0 rfl fun _=>rfl) (by omega)).mono ?_;rintro _ X ⟨c,rfl,u⟩;refine⟨c,rfl,c,rfl,?_⟩;unfold dJ;rw[g,if_pos rfl];exact(f.comp u).bV [2]
theorem Tb(b:Sl)(c:List UInt8)(h:Heap)(hb:Rd h b 1 aC c)(hc:c.length<=2^30)(W:b.len<=b.cap):
  ac vV NJ #[vM b.ptr b.len b.cap] h fun v h'=>∃x:bu,v=.tuple #[recv x,vP (dL c).isSome]/\(dL c=none->Sp h h' [])/\∀r,dL c=some r->Sp h h' [EA eI x r]:=by
 refine Ls b ?_;unfold EJ;refine(Sp.refl h).alloc ae rfl fun f h1 S=>?_;have S:Sp h h1 [au f aZ (bD (0,0,0,0,0,0,0,⟨none,0,0⟩))]:=S;have w:∀{h':Heap} {Bs:List HP},Sp h h' (au f aZ (bD (0,0,0,0,0,0,0,⟨none,0,0⟩))::Bs)->dL c=none->
   ag vV (qf aZ (vN (some f)) (recv (0,0,0,0,0,0,0,⟨none,0,0⟩))) h' fun _ G=>∃U:bu,aj G f 0 (bD U)/\∃x:bu,Value.tuple #[recv U,vP false]=.tuple #[recv x,vP (dL c).isSome]/\(dL c=none->Sp h G [])/\∀r,dL c=some r->Sp h G [EA eI x r]:=fun{h' Bs} H' E=>by
  refine H'.storeAll ae 0 rfl rfl (bD (0,0,0,0,0,0,0,⟨none,0,0⟩)) rfl rfl rfl rfl fun G H4=>?_;exact⟨(0,0,0,0,0,0,0,⟨none,0,0⟩),(H4.box 0 rfl).aQ _ rfl,(0,0,0,0,0,0,0,⟨none,0,0⟩),by rw[E];rfl,fun _=>.zip H4.ai,fun r N=>by rw[E]at N;cases N⟩
 refine(XT b c h1 (hb.up S.ai) hc W).mono ?_;rintro _ h2 ⟨Q0,Q1⟩;cases htc:jG c with
 |none=>
  obtain⟨rfl,R2⟩:=Q0 htc;have E:dL c=none:=by unfold dL;rw[htc]
  exact⟨(0,⟨none,0,0⟩,false),rfl,ba (bg (fun _=>w (S.up R2.ai) E) fun e=>by cases e)⟩
 |some kx=>
  obtain⟨k,x⟩:=kx;obtain⟨r,rfl,R2⟩:=Q1 k x htc;have s:Sp h h2 [au f aZ (bD (0,0,0,0,0,0,0,⟨none,0,0⟩)),an aD r 1 aC x]:=S.comp R2;have a3:x.length=55:=by
   unfold jG at htc;split at htc
   ·rename_i m;injection htc with htc
    injection htc with _ htc
    rw[<-htc];simp;omega
   ·cases htc
  have bd:=(s.own 1 rfl).len;have P:=(s.own 1 rfl).cap;refine⟨(k,r,true),rfl,ba (bg (fun e=>by cases e) fun _=>bQ (fun e=>w s ?_) fun I=>?_)⟩
  ·unfold dL;rw[htc];exact if_neg fun m=>e m.1
  dsimp only;have I:k=1:=I;obtain⟨R,t⟩:∃R,R=ui x:=⟨_,rfl⟩
  have M:dL c=if bM R.p=true/\dJ R=c then some R else none:=by
   unfold dL;rw[htc];dsimp only;rw[<-t];by_cases m:bM R.p=true/\dJ R=c
   ·rw[if_pos m];exact if_pos ⟨I,m⟩
   ·rw[if_neg m];exact if_neg fun h=>m h.2
  have tA:∀{h':Heap},Rd h' r 1 aC x->ac vV jb #[vM r.ptr 3 r.cap] h' fun v J=>v=vL vR R.object/\J=h':=fun{h'} N=>by
   rw[t];exact Pn ⟨r.ptr,3,r.cap⟩ (x.take 3) h' (N.take 3 (by omega)) (by simp;omega)
  have O:∀{h':Heap} (j n:Nat),j+n<=55->n<=4->Rd h' r 1 aC x->ac vV jb #[.slice (if r.cap=j then r.ptr else r.ptr.map (·.add (j*1))) n (r.cap-j)] h' fun v J=>v=vL vR (cT ((x.drop j).take n))/\J=h':=fun{h'} j n hjn E N=>
   Pn ⟨if r.cap=j then r.ptr else r.ptr.map (·.add (j*1)),n,r.cap-j⟩ ((x.drop j).take n) h' ((N.drop j P).take n (by rw[qY];omega)) (by simp;omega)
  have rd:∀{h':Heap} {A:HP} {Bs:List HP},Sp h h' (A::an aD r 1 aC x::Bs)->Rd h' r 1 aC x:=fun{h' A Bs} H'=>H'.seq 1 rfl fun _=>rfl;have IH:∀{h':Heap} {A A2:HP} {Bs:List HP},Sp h h' (A::A2::an aD r 1 aC x::Bs)->Rd h' r 1 aC x:=fun{h' A A2 Bs} H'=>H'.seq 2 rfl fun _=>rfl;refine cl (fun(a:Addr) h'=>Sp h h' [au a aZ (bD (R.object,R.block,R.id,0,0,0,0,⟨none,0,0⟩)),au f aZ (bD (0,0,0,0,0,0,0,⟨none,0,0⟩)),an aD r 1 aC x]) ?_ ?_
  ·have eb:cT ((x.drop 3).take 1)=R.block:=by rw[t];rfl
   have ei:cT ((x.drop 4).take 2)=R.id:=by rw[t];rfl
   have fin:∀{h':Heap} {a:Addr},Sp h h' [au f aZ (bD (0,0,0,0,0,0,0,⟨none,0,0⟩)),an aD r 1 aC x,au a aZ (bD (0,0,0,0,0,0,0,⟨none,0,0⟩))]->
     ag vV (qf aZ (vN (some a)) (recv (R.object,R.block,R.id,0,0,0,0,⟨none,0,0⟩))) h' fun _ G=>aq.ok [] G/\Sp h G [au a aZ (bD (R.object,R.block,R.id,0,0,0,0,⟨none,0,0⟩)),au f aZ (bD (0,0,0,0,0,0,0,⟨none,0,0⟩)),an aD r 1 aC x]:=fun{h' a} H'=>
    H'.storeAll ae 2 rfl rfl (bD (R.object,R.block,R.id,0,0,0,0,⟨none,0,0⟩)) rfl rfl rfl rfl fun G H4=>⟨trivial,H4.bV [2,0,1]⟩
   have A_:∀{h':Heap} {Bs:List HP} {K:Int->Heap->Prop},Sp h h' (au f aZ (bD (0,0,0,0,0,0,0,⟨none,0,0⟩))::an aD r 1 aC x::Bs)->K R.object h'->af vV jb #[vM r.ptr 3 r.cap] (.one (.sc (.int .i64))) h' K:=fun{h' Bs K} H' hK=>by
    refine(tA (rd H')).mono ?_;rintro _ _ ⟨rfl,rfl⟩;exact⟨_,rfl,hK⟩
   have B_:∀{h':Heap} {Bs:List HP} {K:Int->Heap->Prop},Sp h h' (au f aZ (bD (0,0,0,0,0,0,0,⟨none,0,0⟩))::an aD r 1 aC x::Bs)->K R.block h'->af vV jb #[.slice (if r.cap=3 then r.ptr else r.ptr.map (·.add (3*1))) 1 (r.cap-3)] (.one (.sc (.int .i64))) h' K:=fun{h' Bs K} H' hK=>by
    refine(O 3 1 (by decide) (by decide) (rd H')).mono ?_;rintro _ _ ⟨rfl,rfl⟩;exact⟨_,rfl,by rw[eb];exact hK⟩
   have C_:∀{h':Heap} {Bs:List HP} {K:Int->Heap->Prop},Sp h h' (au f aZ (bD (0,0,0,0,0,0,0,⟨none,0,0⟩))::an aD r 1 aC x::Bs)->K R.id h'->af vV jb #[.slice (if r.cap=4 then r.ptr else r.ptr.map (·.add (4*1))) 2 (r.cap-4)] (.one (.sc (.int .i64))) h' K:=fun{h' Bs K} H' hK=>by
    refine(O 4 2 (by decide) (by decide) (rd H')).mono ?_;rintro _ _ ⟨rfl,rfl⟩;exact⟨_,rfl,by rw[ei];exact hK⟩
   refine⟨⟨by decide,by omega⟩,⟨by decide,by decide,by omega⟩,⟨by decide,by decide,by omega⟩,A_ s ⟨trivial,B_ s ⟨trivial,C_ s ⟨trivial,?_⟩,?_⟩,?_⟩,?_⟩
   ·refine s.alloc ae rfl fun a9 h9 i=>⟨trivial,?_⟩
    exact fin i
   ·refine s.alloc ae rfl fun a9 h9 i=>⟨trivial,?_⟩
    exact C_ i ⟨trivial,fin i⟩
   ·refine s.alloc ae rfl fun a9 h9 i=>⟨trivial,?_⟩
    exact B_ i ⟨trivial,C_ i ⟨trivial,fin i⟩⟩
   ·refine s.alloc ae rfl fun a9 h9 i=>⟨trivial,?_⟩
    exact A_ i ⟨trivial,B_ i ⟨trivial,C_ i ⟨trivial,fin i⟩⟩⟩
  ·rintro a9 h5 H5;have L:0<=R.seed/\R.seed<4294967296:=by
    have:=Ta ((x.drop 9).take 4) (by simp;omega);rw[t];exact⟨this.1,this.2.1⟩
   have e6:cT ((x.drop 6).take 1)=R.p.1:=by rw[t];rfl
   have e7:cT ((x.drop 7).take 1)=R.p.2.1:=by rw[t];rfl
   have e8:cT ((x.drop 8).take 1)=R.p.2.2:=by rw[t];rfl
   have e9:cT ((x.drop 9).take 4)=R.seed:=by rw[t];rfl
   refine ba ⟨⟨by decide,by decide,by omega⟩,⟨by decide,by decide,by omega⟩,⟨by decide,by decide,by omega⟩,(O 6 1 (by decide) (by decide) (IH H5)).mono ?_⟩;rintro _ _ ⟨rfl,rfl⟩;refine⟨_,rfl,trivial,(O 7 1 (by decide) (by decide) (IH H5)).mono ?_⟩;rintro _ _ ⟨rfl,rfl⟩;refine⟨_,rfl,trivial,(O 8 1 (by decide) (by decide) (IH H5)).mono ?_⟩;rintro _ a5 ⟨rfl,rfl⟩;refine⟨_,rfl,trivial,?_⟩;dsimp only;rw[e6,e7,e8];refine H5.store ae 0 rfl rfl 3 [vL vR R.p.1,vL vR R.p.2.1,vL vR R.p.2.2] rfl rfl rfl (by simp) fun am z=>⟨trivial,?_⟩
   have z:Sp h am [au a9 aZ (bD (R.object,R.block,R.id,R.p.1,R.p.2.1,R.p.2.2,0,⟨none,0,0⟩)),au f aZ (bD (0,0,0,0,0,0,0,⟨none,0,0⟩)),an aD r 1 aC x]:=z;refine⟨⟨by decide,by decide,by omega⟩,(O 9 4 (by decide) (by decide) (IH z)).mono ?_⟩;rintro _ bb ⟨rfl,rfl⟩;refine⟨_,rfl,?_⟩;dsimp only;have ew:qc vT (cT ((x.drop 9).take 4))=R.seed:=by
    rw[e9];unfold qc;simp[qk,yI];omega
   rw[ew];refine z.store ae 0 rfl rfl 6 [vL vT R.seed] rfl rfl rfl (by simp) fun ab y=>?_;have y:Sp h ab [au a9 aZ (bD (R.object,R.block,R.id,R.p.1,R.p.2.1,R.p.2.2,R.seed,⟨none,0,0⟩)),au f aZ (bD (0,0,0,0,0,0,0,⟨none,0,0⟩)),an aD r 1 aC x]:=y;refine⟨R.p,(y.box 0 rfl).AK 3 rfl rfl rfl,(dN R.p ab).mono ?_⟩;rintro _ V ⟨rfl,ay⟩;have D:Sp h V [au a9 aZ (bD (R.object,R.block,R.id,R.p.1,R.p.2.1,R.p.2.2,R.seed,⟨none,0,0⟩)),au f aZ (bD (0,0,0,0,0,0,0,⟨none,0,0⟩)),an aD r 1 aC x]:=y.up ay.ai;refine⟨_,rfl,bg (fun g=>w (D.bo 2 [1,0]) (by rw[M,if_neg (fun m=>by rw[g]at m;cases m.1)])) fun g=>?_⟩;have a6:=(bU R.p).1 g;refine⟨R.p.2.2,(D.box 0 rfl).xx 3 2 rfl,?_⟩;rw[Go.Vc.wrap_small ((13:Int)+R.p.2.2) (by omega) (by omega)];refine⟨⟨by decide,by omega,by omega⟩,?_⟩;have ao:((13:Int)+R.p.2.2).toNat-(13:Int).toNat=R.p.2.2.toNat:=by omega
   rw[ao];have H:(x.drop 13).take R.p.2.2.toNat=R.data:=by rw[t];rfl
   have F:=((IH D).drop 13 P).take R.p.2.2.toNat (by rw[qY];omega);rw[H]at F;have a8:R.data.length=R.p.2.2.toNat:=by rw[<-H];simp;omega
   refine(fH ⟨if r.cap=13 then r.ptr else r.ptr.map (·.add (13*1)),R.p.2.2.toNat,r.cap-13⟩ R.data V F (by omega)).mono ?_;rintro _ a7 ⟨u,rfl,a2⟩;have a0:=D.comp a2;refine⟨u,rfl,?_⟩;refine a0.store ae 0 rfl rfl 7 [vM u.ptr u.len u.cap] rfl rfl rfl (by simp) fun Y l=>?_;have l:Sp h Y [au a9 aZ (bD (R.object,R.block,R.id,R.p.1,R.p.2.1,R.p.2.2,R.seed,u)),au f aZ (bD (0,0,0,0,0,0,0,⟨none,0,0⟩)),an aD r 1 aC x,an aD u 1 aC R.data]:=l;obtain⟨X,hX⟩:∃X:bu,X=(R.object,R.block,R.id,R.p.1,R.p.2.1,R.p.2.2,R.seed,u):=⟨_,rfl⟩
   rw[<-hX]at l;have T:∀{h':Heap} {q:aA},Seq h' q u 1 aC R.data->eI.p h' q X R:=fun{h' q} hs=>by rw[hX];exact⟨⟨rfl,rfl,rfl,rfl,rfl,L⟩,hs⟩
   refine⟨X,(l.box 0 rfl).aQ _ rfl,(BH X R Y (T (l.seq 3 rfl fun _=>rfl))).mono ?_⟩;rintro _ ap ⟨s5,rfl,ad⟩;have o:=l.comp ad;refine⟨s5,rfl,(xy b s5 c (dJ R) ap (hb.up o.ai) (o.seq 4 rfl fun _=>rfl)).mono ?_⟩;rintro _ a4 ⟨rfl,rfl⟩;refine⟨_,rfl,bg (fun Q=>w (o.bo 2 [1,0]) (by rw[M,if_neg (fun m=>(of_decide_eq_false Q) m.2.symm)])) fun Q=>?_⟩;have Q:c=dJ R:=of_decide_eq_true Q;refine⟨X,(o.box 0 rfl).aQ _ rfl,?_⟩;refine o.storeAll ae 1 rfl rfl (bD X) rfl rfl rfl rfl fun ah Z=>?_;have d:dL c=some R:=by rw[M,if_pos ⟨g,Q.symm⟩]
   refine⟨X,(Z.box 1 rfl).aQ _ rfl,X,by rw[d];rfl,fun E=>(by rw[d]at E;cases E),fun r' B=>?_⟩;rw[d]at B;injection B with B
   subst B;have ax:Sp h ah [an aD u 1 aC R.data]:=Z.bV [3];exact ax.gf 0 rfl fun q hq=>T (hq.1.seq (fun _=>rfl) hq.2)
end Go.Proofs.YtdhamoojccmbdaaGreatDoor
namespace Go.Vc
open Go Wl Go.Proofs.YtdhamoojccmbdaaGreatDoor
section
variable {B:aA} {h0 h h':Heap} {As L:List HP} {X Y Z:HP}
theorem aa.agv(H:aa B h0 h (X::Y::(L++As))):aa B h0 h (L++(X::Y::As)):=
 H.pick (fun i=>if i<L.length then i+2 else if i=L.length then 0 else if i=L.length+1 then 1 else i) (fun a b c=>by(try dsimp only at c);split at c<;>split at c<;>(try split at c)<;>(try split at c)<;>(try split at c)<;>(try split at c)<;>omega) fun i A d=>by
  try dsimp only
  by_cases g:i<L.length
  ·rw[qn g]at d;rw[if_pos g,qz,qz,qn g];exact d
  ·rw[qj (by omega)]at d;rw[if_neg g];by_cases f:i=L.length
   ·subst f;rw[if_pos rfl];rw[zf]at d;exact d
   ·rw[if_neg f];by_cases e:i=L.length+1
    ·subst e;rw[if_pos rfl];rw[show L.length+1-L.length=1 by omega]at d;exact d
    ·rw[if_neg e];obtain⟨j,rfl⟩:∃j,i=L.length+(j+2):=⟨i-L.length-2,by omega⟩
     rw[zk,qz,qz]at d;rw[show L.length+(j+2)=(L.length+j)+1+1 by omega,qz,qz,qj (by omega),zk];exact d
theorem aa.aeA(n:Nat)(b:L[n]?=some X)(H:aa B h0 h (Y::Z::(L++As))):aa B h0 h (X::Z::Y::(L.set n emp++As)):=by
 have a:=(qm.1 b).1;have c:=H.cons (n+2) (A:=X) (by rw[qz,qz,qn a];exact b);have e:(Y::Z::(L++As)).set (n+2) emp=Y::Z::(L.set n emp++As):=by
  rw[wv,wv,List.set_append_left _ _ a]
 rw[e]at c;exact c.bo 3 [0,2,1]
theorem aa.Wy(n:Nat)(f:n<L.length)(H:aa B h0 h (X::Z::Y::(L.set n emp++As))):aa B h0 h (Y::Z::(L.set n X++As)):=
 H.pick (fun i=>if i=0 then 2 else if i=1 then 1 else if i=n+2 then 0 else i+1) (fun a b c=>by(try dsimp only at c);split at c<;>split at c<;>(try split at c)<;>(try split at c)<;>(try split at c)<;>(try split at c)<;>omega) fun i A d=>by
  try dsimp only
  match i,d with
  |0,d=>exact d
  |1,d=>exact d
  |i+2,d=>
   rw[if_neg (by omega),if_neg (by omega)];rw[qz,qz]at d;by_cases e:i=n
   ·subst e;rw[qn (by simpa using f),zy f]at d;rw[if_pos rfl];exact d
   ·rw[if_neg (by omega),qz,qz,qz];by_cases g:i<L.length
    ·rw[qn (by simpa using g),z6 (by omega)]at d;rw[qn (by simpa using g),z6 (by omega)];exact d
    ·rw[qj (by simp;omega),zE]at d;rw[qj (by simp;omega),zE];exact d
end
structure Jd where
 tS:Nat
 tP:Nat
 tD:Nat
 f:Addr->bE->Sl->Sl->List Value
def afG(k:Jd)(pw:Addr)(a:Option Addr)(d:Option bE):HP:=match a,d with
 |some a,some d=>kY k.tD (k.f pw) a d
 |_,_=>emp
abbrev dz(b:List Value)(pw:Addr)(offs:Int)(a:List (Option Addr)):List Value:=b++(vN (some pw)::vL vR offs::a.map .pointer)
structure gS (mc:List Value) (da:List (Option Addr)) (ds:bc):Prop where
 l8:mc.length=8
 la:da.length=64
 ls:ds.length=64
 same:∀i:Nat,(da.getD i none).isSome=(ds.getD i none).isSome
abbrev iN(k:Jd)(pw:Addr)(a:List (Option Addr))(ds:bc):List HP:=zj (afG k pw) a ds
def bm(k:Jd)(a pw:Addr)(c:List Value)(offs:Int)(b:List (Option Addr))(w:Pow)(ds:bc):HP:=
 (HP.all (au a k.tS (dz c pw offs b)::dU k.tP pw w::iN k pw b ds)).and (gS c b ds)
section
variable {k:Jd} {B:aA} {h0 h h':Heap} {As:List HP} {a pw:Addr} {mc:List Value} {offs:Int} {da:List (Option Addr)} {w w':Pow} {ds:bc} {d d':bE} {n:Nat}
theorem Tc(ok:gS mc da ds):(iN k pw da ds).length=64:=by simp[iN,ok.la,ok.ls]
theorem aa.xz(H:aa B h0 h (bm k a pw mc offs da w ds::As)):gS mc da ds/\aa B h0 h (au a k.tS (dz mc pw offs da)::dU k.tP pw w::(iN k pw da ds++As)):=by
 obtain⟨H,ok⟩:=H.Jr;exact⟨ok,H.BV⟩
theorem aa.AL(ok:gS mc da ds)(H:aa B h0 h (au a k.tS (dz mc pw offs da)::dU k.tP pw w::(iN k pw da ds++As))):aa B h0 h (bm k a pw mc offs da w ds::As):=
 (aa.closeAll (au a k.tS (dz mc pw offs da)::dU k.tP pw w::iN k pw da ds) H).toJr ok
theorem gS.addr(ok:gS mc da ds)(c:ds[n]?=some (some d)):∃b,da[n]?=some (some b):=by
 have e:n<64:=by have:=(qm.1 c).1;rw[ok.ls]at this;exact this
 have a:=ok.same n;rw[qe,qe,c]at a;have f:n<da.length:=by rw[ok.la];exact e
 rw[qd f]at a⊢;simp at a;obtain⟨b,g⟩:=y8.1 a;exact⟨b,by rw[g]⟩
theorem gS.aaj(ok:gS mc da ds)(b:n<64)(d:ds[n]?=some none):da[n]?=some none:=by
 have a:=ok.same n;rw[qe,qe,d]at a;have c:n<da.length:=by rw[ok.la];exact b
 rw[qd c]at a⊢;simp at a;rw[a]
theorem gS.set(ok:gS mc da ds){b:Addr}(c:da[n]?=some (some b)):gS mc da (ds.set n (some d')):=by
 refine⟨ok.l8,ok.la,by rw[zE];exact ok.ls,fun i=>?_⟩;by_cases a:n=i
 ·subst a;have d:n<ds.length:=by have:=(qm.1 c).1;rw[ok.la]at this;rw[ok.ls];exact this
  rw[qe,c,qe,zy d];rfl
 ·rw[qe (l:=ds.set n _),z6 a,<-qe];exact ok.same i
theorem acr{b:Addr}(c:da[n]?=some (some b))(d:n<ds.length):(iN k pw da ds).set n (kY k.tD (k.f pw) b d')=iN k pw da (ds.set n (some d')):=by
 apply zH;intro j;have e:n<da.length:=(qm.1 c).1;simp only[iN,qZ,wG,List.length_zipWith];by_cases a:n=j
 ·subst a;rw[if_pos rfl,if_pos (by omega),if_pos rfl,if_pos d,c];rfl
 ·simp[a]
def QQ(k:Jd)(a pw:Addr)(c:List Value)(offs:Int)(b:List (Option Addr))(ds:bc)(n:Nat):HP:=
 (HP.all (au a k.tS (dz c pw offs b)::(iN k pw b ds).set n emp)).and (gS c b ds)
theorem aa.mF(H:aa B h0 h (bm k a pw mc offs da w ds::As))(e:ds[n]?=some (some d)):∃b,da[n]?=some (some b)/\aa B h0 h (kY k.tD (k.f pw) b d::dU k.tP pw w::QQ k a pw mc offs da ds n::As):=by
 obtain⟨ok,j⟩:=H.xz;obtain⟨b,c⟩:=ok.addr e;refine⟨b,c,?_⟩;have i:(iN k pw da ds)[n]?=some (kY k.tD (k.f pw) b d):=by
  simp only[iN,wG,c,e];rfl
 have l:=j.aeA n i;have g:aa B h0 h (kY k.tD (k.f pw) b d::dU k.tP pw w::((au a k.tS (dz mc pw offs da)::(iN k pw da ds).set n emp)++As)):=l;exact(((aa.closeAll _ g.agv).toJr ok).bo 3 [1,2,0]:aa B h0 h (kY k.tD (k.f pw) b d::dU k.tP pw w::QQ k a pw mc offs da ds n::As))
theorem aa.Ke{b:Addr}(l:da[n]?=some (some b))(H:aa B h0 h (kY k.tD (k.f pw) b d'::dU k.tP pw w'::QQ k a pw mc offs da ds n::As)):aa B h0 h (bm k a pw mc offs da w' (ds.set n (some d'))::As):=by
 have m:aa B h0 h (QQ k a pw mc offs da ds n::dU k.tP pw w'::kY k.tD (k.f pw) b d'::As):=H.bo 3 [2,1,0];obtain⟨m,ok⟩:=m.Jr;have p:=m.BV;have r:n<ds.length:=by have:=(qm.1 l).1;rw[ok.la]at this;rw[ok.ls];exact this
 have t:=Tc (k:=k) (pw:=pw) ok;have g:n<(iN k pw da ds).length:=by rw[t,<-ok.ls];exact r
 obtain⟨L,o⟩:∃L,L=iN k pw da ds:=⟨_,rfl⟩
 rw[<-o]at p g;have s:aa B h0 h (kY k.tD (k.f pw) b d'::dU k.tP pw w'::au a k.tS (dz mc pw offs da)::(L.set n emp++As)):=by
  refine p.pick (fun i=>if i=0 then 1+L.length+1 else if i=1 then 1+L.length else if i=2 then 0 else if i<3+L.length then i-2 else i) (fun x y c=>by(try dsimp only at c);split at c<;>split at c<;>(try split at c)<;>(try split at c)<;>(try split at c)<;>(try split at c)<;>(try split at c)<;>(try split at c)<;>omega) fun i A e=>?_
  try dsimp only
  have d:(au a k.tS (dz mc pw offs da)::L.set n emp).length=1+L.length:=by simp;omega
  match i,e with
  |0,e=>rw[if_pos rfl,qj (by omega),d,show 1+L.length+1-(1+L.length)=1 by omega];exact e
  |1,e=>rw[if_neg (by omega),if_pos rfl,qj (by omega),d,zf];exact e
  |2,e=>rw[if_neg (by omega),if_neg (by omega),if_pos rfl];exact e
  |i+3,e=>
   rw[if_neg (by omega),if_neg (by omega),if_neg (by omega)];rw[qz,qz,qz]at e;by_cases j:i<L.length
   ·rw[if_pos (by omega),show i+3-2=i+1 by omega,qn (by rw[d];omega),qz];rw[qn (by simpa using j)]at e;exact e
   ·rw[if_neg (by omega),qj (by rw[d];omega),d,show i+3-(1+L.length)=(i-L.length)+2 by omega,qz,qz];rw[qj (by simp;omega),zE]at e;exact e
 have q:=aa.Wy n g s;rw[o,acr l r]at q;exact q.AL (ok.set l)
end
def kC:iC (Int×Sl) (Int×List UInt8):=⟨fun h q a b=>a.1=b.1/\Seq h q a.2 1 aC b.2,fun a d=>⟨a.1,a.2.ai d⟩,fun a c=>⟨a.1,a.2.mono c⟩⟩
def piv(x:Int×Sl):List Value:=[vL vR x.1,vM x.2.ptr x.2.len x.2.cap]
theorem Of:∀x,∀c∈piv x,c.oneCell'=true:=by intro x c a;simp[piv]at a;rcases a with rfl|rfl<;>rfl
def og(b:List (Option Addr))(a:Int):Option Addr:=if 0<=a/\a<64 then(b[a.toNat]?).join else none
theorem oh{i:List Value}{e:List (Option Addr)}{ds:bc}(ok:gS i e ds)(a:Int):
  (cb ds a=none/\og e a=none)∨∃(n:Nat) (d:bE) (b:Addr),a=n/\n<64/\ds[n]?=some (some d)/\cb ds a=some d/\e[n]?=some (some b)/\og e a=some b:=by
 unfold cb og;by_cases h:0<=a/\a<64
 ·rw[if_pos h,if_pos h];have f:a.toNat<ds.length:=by rw[ok.ls];omega
  cases hd:ds[a.toNat]with
  |none=>
   have c:ds[a.toNat]?=some none:=by rw[qd f,hd]
   exact .inl ⟨by rw[c];rfl,by rw[ok.aaj (by omega) c];rfl⟩
  |some d=>
   have c:ds[a.toNat]?=some (some d):=by rw[qd f,hd]
   obtain⟨b,g⟩:=ok.addr c;exact .inr ⟨a.toNat,d,b,by omega,by omega,c,by rw[c];rfl,g,by rw[g];rfl⟩
 ·rw[if_neg h,if_neg h];exact .inl ⟨rfl,rfl⟩
theorem sZ{b:List Value}{pw:Addr}{offs:Int}{a:List (Option Addr)}(h8:b.length=8)(n:Nat):(dz b pw offs a)[10+n]?=(a[n]?).map .pointer:=by
 unfold dz;rw[qj (by omega),h8,show 10+n-8=n+1+1 by omega,qz,qz,qN]
theorem acs{a:List Value}{pw:Addr}{offs:Int}{b:List (Option Addr)}(h8:a.length=8):(dz a pw offs b)[8]?=some (vN (some pw)):=by
 unfold dz;rw[qj (by omega),h8];rfl
theorem XU{a:List Value}{pw:Addr}{offs:Int}{b:List (Option Addr)}(h8:a.length=8):(dz a pw offs b)[9]?=some (vL vR offs):=by
 unfold dz;rw[qj (by omega),h8];rfl
end Go.Vc
namespace Go.Proofs.YtdhamoojccmbdaaGreatDoor
open Go Go.Vc Go.Proofs Wl
abbrev bz:Go.Vc.Jd:=⟨fK,bG,cC,fun pw=>gJ pw⟩
theorem Td{e:TypeId}(s:Sl)(l:List Int)(h:Heap)(c:Own h e s 1 aE l)(a:l.length<2^40):ac vV ut #[vM s.ptr s.len s.cap] h fun v h'=>v=vM s.ptr (Lib.compact l).length s.cap/\Own h' e ⟨s.ptr,(Lib.compact l).length,s.cap⟩ 1 aE (Lib.compact l)/\aU (fun b=>¬s.on b) h h':=
 KM Tryz.slices_Compact_int Tryz.slices_Compact_int_empty c a
section
variable {B:aA} {h0 h h':Heap} {As:List HP} {a pw:Addr} {mc:List Value} {offs:Int} {da:List (Option Addr)} {w:Pow} {ds:bc}
theorem sh(b:Int)(ok:gS mc da ds)(f:cw h a fK (dz mc pw offs da)):ac vV cZ #[vN (some a),vL vR b] h fun v h'=>v=.pointer (og da b)/\h'=h:=by
 refine Cc (some a) b ?_;unfold pY;have d:¬(0<=b/\b<64)->Value.pointer none=.pointer (og da b)/\h=h:=fun e=>by unfold og;rw[if_neg e];exact⟨rfl,rfl⟩
 refine ba (bA (fun e=>by cases e) fun _=>ak (fun e=>d (by omega)) fun g=>ak (fun e=>d (by omega)) fun e2=>?_);have c:b.toNat<da.length:=by rw[ok.la];omega
 refine⟨a,rfl,⟨by omega,by omega⟩,da[b.toNat],?_,?_,rfl⟩
 ·rw[wN];refine f.xx 10 b.toNat ?_;rw[sZ ok.l8,qd c];rfl
 ·unfold og;rw[if_pos (by omega),qd c];rfl
theorem aa.cJ(H:aa B h0 h (bm bz a pw mc offs da w ds::As)):gS mc da ds/\cw h a fK (dz mc pw offs da):=by
 obtain⟨ok,b⟩:=Go.Vc.aa.xz H;exact⟨ok,b.box 0 rfl⟩
theorem Ma(s:Sl)(l:List Int)(u:Rd h s 1 aE l)(M:l.length<=2^30)(H:aa B h0 h (bm bz a pw mc offs da w ds::As)):
  ac vV UM #[.func (.func cZ) #[vN (some a)] #[],vM s.ptr s.len s.cap] h fun v h'=>∃r:Sl,v=vM r.ptr r.len r.cap/\Sp h h' [an aS r 1 aE (bi ds l)]:=by
 refine So (cZ,#[vN (some a)],#[]) s ?_;unfold Lg;have F:=u.len;obtain⟨ok,x⟩:=aa.cJ H;refine av (fun t:Sl×Nat=>(t.1,(t.2:Int))) (fun t h'=>t.2<=l.length/\Sp h h' [an aS t.1 1 aE (bi ds (l.take t.2))]) (fun t=>l.length-t.2) (⟨none,0,0⟩,0) rfl ⟨by simp,by simpa[bi]using(Sp.refl h).nil aS 1 aE⟩ ?_;rintro⟨o,i⟩ L ⟨G,j⟩;dsimp only at*;refine ak (fun e=>?_) (fun e=>?_)
 ·have p:i<l.length:=by omega
  have c:bi ds (l.take (i+1))=bi ds (l.take i)++(if isLive ds l[i]then[l[i]]else[]):=by
   unfold bi;rw[aH _ _ p,zh,zm,yO]
  have D:(bi ds (l.take i)).length<=l.length:=by
   have:=q7 (isLive ds) (l.take i);unfold bi;simp at this⊢;omega
  have next:∀{h':Heap} {k:Sl},Sp h h' [an aS k 1 aE (bi ds (l.take (i+1)))]->∃m:Sl×Nat,((⟨k.ptr,k.len,k.cap⟩:Sl),qc vR ((i:Int)+1))=(m.1,(m.2:Int))/\(m.2<=l.length/\Sp h h' [an aS m.1 1 aE (bi ds (l.take m.2))])/\l.length-m.2<l.length-i:=fun{h' k} H'=>
   ⟨(k,i+1),by dsimp only;rw[Go.Vc.wrap_small _ (by omega) (by omega)];rfl,⟨by dsimp only;omega,H'⟩,by dsimp only;omega⟩
  refine(Seq.up u j.ai).bv i rfl p l[i] rfl (eU (by rfl) ?_);refine(sh l[i] ok (x.ai j.ai x.lt)).mono ?_;rintro _ I ⟨rfl,rfl⟩;refine⟨_,rfl,?_⟩;rcases oh ok l[i]with⟨c1,c2⟩|⟨n,d,b,c0,c1,c2,c3,c4,c5⟩
  ·rw[c2];have g:isLive ds l[i]=false:=by unfold isLive;rw[c1]
   rw[g]at c;refine bg (fun e=>by cases e) fun _=>next (by rw[c];simpa using j)
  ·rw[c5];have g:isLive ds l[i]=!d.lost:=by unfold isLive;rw[c3]
   refine bg (fun _=>?_) fun e=>by cases e
   obtain⟨K,f,z⟩:=Go.Vc.aa.mF (aa.up H j.ai) c2;rw[c4]at f;injection f with f
   injection f with f
   subst f;obtain⟨E,y,q,_,_⟩:=mE.box z;refine(Hg E y q).mono ?_;rintro _ h3 ⟨rfl,rfl⟩;refine⟨_,rfl,bg (fun e=>?_) (fun e=>?_)⟩
   ·rw[g,e]at c;refine j.push ae 0 rfl nw rfl (by decide) (fun _=>rfl) ja l[i] rfl (by decide) (by omega) fun k J A=>next ?_
    rw[c];exact A
   ·rw[g,e]at c;exact next (by rw[c];simpa using j)
 ·rw[qi (by omega)]at j;exact⟨o,rfl,j⟩
theorem XV(s:Sl)(l:List Int)(N:St B h0 As fun h=>Rd h s 1 aE l)(hl:l.length<=2^30)(z:∀x∈l,0<=x/\x<64)(H:aa B h0 h (bm bz a pw mc offs da w ds::As)):
  ac vV UO #[.func (.func cZ) #[vN (some a)] #[],vM s.ptr s.len s.cap] h fun v h'=>v=vL vR (kh (fE l) w ds).1/\aa B h0 h' (bm bz a pw mc offs da (kh (fE l) w ds).2.1 (kh (fE l) w ds).2.2::As):=by
 refine Su (cZ,#[vN (some a)],#[]) s ?_;unfold Lk;refine(mU s l h (N.at [_] H) (by omega)).mono ?_;rintro _ X ⟨r,rfl,R⟩;have M:=H.cY R;refine⟨r,rfl,(Ph r l X (M.own 0 rfl) (by omega)).mono ?_⟩;rintro _ P ⟨rfl,K,U⟩;have O:=M.oq 0 rfl U K;refine⟨(),rfl,(Td r (mL l) P K (by rw[OG];omega)).mono ?_⟩;rintro _ h3 ⟨rfl,Q,J⟩;have o:=O.step (D:=an aS ⟨r.ptr,(Lib.compact (mL l)).length,r.cap⟩ 1 aE (Lib.compact (mL l))) 0 rfl fun q F G=>⟨J.mono fun b _ m E=>m (F.2 b E),Q,fun b m=>⟨qV (G b (F.2 b m)) J.1,.inl (F.2 b m)⟩⟩
 rw[Xn l z]at o⊢;obtain⟨u,L⟩:∃u,u=fE l:=⟨_,rfl⟩
 rw[<-L]at o⊢;have o:aa B h0 h3 (an aS ⟨r.ptr,u.length,r.cap⟩ 1 aE u::bm bz a pw mc offs da w ds::As):=o;have Y:u.length<=64:=by
  have:=q7 (fun i=>decide (i∈l)) ((qC 64).map fun i:Nat=>(i:Int));rw[L];unfold fE;simpa using this
 refine⟨⟨r.ptr,u.length,r.cap⟩,rfl,?_⟩;refine av (fun t:Nat×Pow×bc=>(t.1:Int)) (fun t h'=>t.1<=u.length/\kh u w ds=kh (u.drop t.1) t.2.1 t.2.2/\aa B h0 h' (an aS ⟨r.ptr,u.length,r.cap⟩ 1 aE u::bm bz a pw mc offs da t.2.1 t.2.2::As)) (fun t=>u.length-t.1) (0,w,ds) rfl ⟨by simp,rfl,o⟩ ?_;rintro⟨i,j,f⟩ h4 ⟨Z,c,p⟩;dsimp only at*;refine ak (fun e=>?_) (fun e=>?_)
 ·have y:i<u.length:=by omega
  obtain⟨ok,m⟩:=aa.cJ p.rest;rw[qT y,Dl]at c;refine(p.seq 0 rfl fun _=>rfl).bv i rfl y u[i] rfl (eU (by rfl) ?_);refine(sh u[i] ok m).mono ?_;rintro _ V ⟨rfl,rfl⟩;refine⟨_,rfl,?_⟩;rcases oh ok u[i]with⟨c1,c2⟩|⟨n,d,b,c0,c1,c2,c3,c4,c5⟩
  ·rw[c2];refine(SX V).mono ?_;rintro _ T ⟨rfl,rfl⟩;have A:gP j f u[i]=(5,j,f):=by unfold gP;rw[c1]
   rw[A]at c;refine⟨5,rfl,bQ (fun _=>?_) fun e=>absurd e (by decide)⟩;have:kh u w ds=(5,j,f):=c;rw[this];exact⟨rfl,p.rest⟩
  ·rw[c5];obtain⟨b',g,S⟩:=Go.Vc.aa.mF (p.bo 2 [1,0]) c2;rw[c4]at g;injection g with g
   injection g with g
   subst g;refine(aab S).mono ?_;rintro _ T ⟨rfl,W⟩;have I:=Go.Vc.aa.Ke (k:=bz) (n:=n) c4 W;have A:gP j f u[i]=((d.sync j).1,(d.sync j).2.1,f.set n (some (d.sync j).2.2)):=by
    unfold gP;rw[c3];simp only[kO,c0,qp]
   rw[A]at c;refine⟨_,rfl,bQ (fun e2=>?_) fun e2=>?_⟩
   ·have:kh u w ds=((d.sync j).1,(d.sync j).2.1,f.set n (some (d.sync j).2.2)):=by rw[c];exact if_neg e2
    rw[this];exact⟨rfl,I.HS⟩
   ·refine⟨(i+1,(d.sync j).2.1,f.set n (some (d.sync j).2.2)),by dsimp only;rw[Go.Vc.wrap_small _ (by omega) (by omega)];rfl,⟨by dsimp only;omega,?_,I.bo 2 [1,0]⟩,by dsimp only;omega⟩;rw[c];exact if_pos e2
 ·rw[q9 (by omega)]at c;rw[c];exact⟨rfl,p.rest⟩
end
end Go.Proofs.YtdhamoojccmbdaaGreatDoor
namespace Go.Vc
open Go Wl
theorem HP.CN{h:Heap}:∀{L:List HP} {q:aA} {i:Nat} {A:HP},(HP.all L).p h q->L[i]?=some A->A.p h q
 |A::L,q,0,A',⟨q1,q2,_,b,_,d,_⟩,hi=>by simp at hi;subst hi;exact A.mono d b
 |A::L,q,i+1,A',⟨q1,q2,_,_,c,_,e⟩,hi=>A'.mono (HP.CN e (by simpa using hi)) c
 |[],_,i,_,_,hi=>by simp at hi
section
variable {α β:Type} {B:aA} {h0 h:Heap} {As:List HP} {e e2 k:Nat} {s:Sl} {f:α->List Value} {ll:List (List α)}
theorem aa.act(H:aa B h0 h (lP e s e2 k f ll::As))(n:∀x,(f x).length=k):∃rs,aa B h0 h (cH (gh k f) 1 bI s rs ll::As):=by
 obtain⟨rs,H⟩:=H.HT;obtain⟨H,g⟩:=H.Jr;refine⟨rs,H.gf 0 rfl fun q c=>⟨?_,g,fun i r l d a=>?_⟩⟩
 ·have:=HP.CN (i:=0) c rfl;exact this.1.seq (fun _=>rfl) this.2
 ·have b:i<ll.length:=(qm.1 a).1;have j:=jU (e:=e2) (k:=k) (f:=f) g i b;have:=HP.CN (i:=i+1) c (by simpa using j);have m:rs[i]'(by omega)=r:=by rw[qd (by omega)]at d;simpa using d
  have e2:ll[i]=l:=by rw[qd b]at a;simpa using a
  rw[m,e2]at this;exact this.1.seq n this.2
end
end Go.Vc
namespace Wl
def bx(m:aG)(a:List Int):List (Int×List UInt8):=a.flatMap fun n=>(bh m).map fun c=>(n,c)
theorem ka{m:aG}{a:List Int}{x:Int×List UInt8}(h:x∈bx m a):x.1∈a/\x.2.length=64:=by
 unfold bx at h;obtain⟨n,d,b⟩:=zO.1 h;obtain⟨c,e,rfl⟩:=qx.1 b;exact⟨d,Do e⟩
end Wl
namespace Go.Proofs.YtdhamoojccmbdaaGreatDoor
open Go Go.Vc Go.Proofs Wl
theorem jM(m:aG)(a:db m):(bh m).length<=3000:=by
 have:=Kc m a;unfold bh gM;simp;omega
abbrev Te:bN C.toBR fo dF 2 [vL vR 0,vM none 0 0] 32:=⟨_,_,rfl,rfl,rfl,rfl,rfl,rfl⟩
section
variable {B:aA} {h0 h h':Heap} {As:List HP} {a pw:Addr} {mc:List Value} {offs:Int} {da:List (Option Addr)} {w:Pow} {ds:bc}
theorem Hk(s:Sl)(q:List (Int×Sl))(P:List (Int×List UInt8))(G:St B h0 As fun h=>nE kC 2 piv h s q P)(hl:P.length<=2^30)(z:∀x∈P,(0<=x.1/\x.1<64)/\x.2.length<=2^20)(H:aa B h0 h (bm bz a pw mc offs da w ds::As)):
  ac vV XH #[.func (.func cZ) #[vN (some a)] #[],vM s.ptr s.len s.cap] h fun v h'=>v=vL vR (layAll P w ds).1/\aa B h0 h' (bm bz a pw mc offs da (layAll P w ds).2.1 (layAll P w ds).2.2::As):=by
 refine UK (cZ,#[vN (some a)],#[]) s ?_;unfold OX;have W:=(G.at [_] H).1.len;have T:=(G.at [_] H).2.1;have R:=(H.nil aS 1 aE).bL;refine av (fun t:Sl×Nat×Pow×bc=>(t.1,(t.2.1:Int))) (fun t h'=>t.2.1<=P.length/\kq P w ds=kq (P.drop t.2.1) t.2.2.1 t.2.2.2/\aa B h0 h' (an aS t.1 1 aE ((P.take t.2.1).map qK)::bm bz a pw mc offs da t.2.2.1 t.2.2.2::As)) (fun t=>P.length-t.2.1) (⟨none,0,0⟩,0,w,ds) rfl ⟨by simp,rfl,by simpa using R⟩ ?_;rintro⟨o,i,u,p⟩ h1 ⟨hi,f,I⟩;dsimp only at*;refine ak (fun e=>?_) (fun e=>?_)
 ·have r:i<P.length:=by omega
  rw[qT r,uX]at f;have Q:=G.at [_,_] I;have J:=z _ (qg r);refine Q.1.dD (g:=piv) i rfl (by omega) (q[i]'(by omega)) rfl ?_;refine I.alloc ae rfl fun a4 U A=>?_;have A:=A.bL;refine A.storeAll ae 0 rfl rfl (piv (q[i]'(by omega))) rfl rfl rfl rfl fun h3 j=>?_;obtain⟨O,N⟩:=Fix.row (G.at [_,_,_] j) r;have j:aa B h0 h3 (au a4 dF (piv (q[i]'(by omega)))::an aS o 1 aE ((P.take i).map qK)::bm bz a pw mc offs da u p::As):=j;have j:=j.bo 3 [2,0,1];obtain⟨ok,X⟩:=aa.cJ j;obtain⟨c,m⟩:∃c,c=fe u p P[i].1 P[i].2:=⟨_,rfl⟩
  rw[<-m]at f;refine cl (fun _ h'=>c.1=0/\aa B h0 h' (bm bz a pw mc offs da c.2.1 c.2.2::au a4 dF (piv (q[i]'(by omega)))::an aS o 1 aE ((P.take i).map qK)::As)) ?_ ?_
  ·refine cl (fun e h'=>e=c.1/\aa B h0 h' (bm bz a pw mc offs da c.2.1 c.2.2::au a4 dF (piv (q[i]'(by omega)))::an aS o 1 aE ((P.take i).map qK)::As)) ?_ ?_
   ·refine⟨P[i].1,by rw[<-O];exact(j.box 1 rfl).cell0 rfl,(q[i]'(by omega)).2,(j.box 1 rfl).cell rfl,eU (by rfl) ?_⟩;refine(sh P[i].1 ok X).mono ?_;rintro _ L ⟨rfl,rfl⟩;refine⟨_,rfl,⟨(j.box 1 rfl).cell rfl,trivial⟩,?_⟩;rcases oh ok P[i].1 with⟨c1,c2⟩|⟨n,d,b,c0,c1,c2,c3,c4,c5⟩
    ·rw[c2];refine(Oc (q[i]'(by omega)).2 P[i].2 L N).mono ?_;rintro _ Y ⟨rfl,rfl⟩;have D:c=(if P[i].2.length≠64 then 1 else 5,u,p):=by rw[m];unfold fe;rw[c1]
     refine⟨_,rfl,trivial,by rw[D],?_⟩;rw[D];exact j
    ·rw[c5];obtain⟨b',l,K⟩:=Go.Vc.aa.mF j c2;rw[c4]at l;injection l with l
     injection l with l
     subst l;refine(Vi (q[i]'(by omega)).2 P[i].2 K N J.2).mono ?_;rintro _ h6 ⟨rfl,Z⟩;have V:=Go.Vc.aa.Ke (k:=bz) (n:=n) c4 Z;have D:c=((d.append u P[i].2).1,(d.append u P[i].2).2.1,p.set n (some (d.append u P[i].2).2.2)):=by
      rw[m];unfold fe;rw[c3];simp only[kO,c0,qp]
     refine⟨_,rfl,trivial,by rw[D],?_⟩;rw[D];exact V
   ·rintro e4 L ⟨rfl,E⟩;refine bQ (fun e2=>?_) fun e2=>⟨e2,E⟩
    rw[if_neg e2]at f;have:layAll P w ds=c:=by unfold layAll;rw[f];exact if_neg e2
    rw[this];exact⟨rfl,E.HS.HS⟩
  ·rintro _ L ⟨e2,E⟩;rw[if_pos e2]at f;refine⟨P[i].1,by rw[<-O];exact(E.box 1 rfl).cell0 rfl,?_⟩;refine E.push ae 2 rfl nw rfl (by decide) (fun _=>rfl) ja P[i].1 rfl (by decide) (by simp;omega) fun o' Y K=>?_;refine⟨(o',i+1,c.2.1,c.2.2),by dsimp only;rw[Go.Vc.wrap_small _ (by omega) (by omega)];rfl,⟨by dsimp only;omega,f,?_⟩,by dsimp only;omega⟩;dsimp only;rw[aH _ _ r,qQ];exact K.bo 3 [2,0]
 ·have M:i=P.length:=by omega
  subst M;rw[List.drop_length]at f;rw[qR]at I;have A:=(I.freeze 0 rfl fun _=>rfl).bo 2 [1,0];have F:layAll P w ds=kh (fE (P.map qK)) u p:=by unfold layAll;rw[f];rfl
  refine(XV o (P.map qK) (St.gK 0 rfl fun h' hh=>hh) (by simp;omega) (fun x hx=>?_) A).mono ?_
  ·obtain⟨y,S,rfl⟩:=qx.1 hx;exact(z y S).1
  ·rintro _ U ⟨rfl,j⟩;refine⟨_,rfl,by rw[F],?_⟩;rw[F];exact j.HS
theorem Je(x:cg)(m:aG)(s:Sl)(a:List Int)(h:Heap)(Z:eG h x m)(G:db m)(U:Rd h s 1 aE a)(ad:a.length<=2^10):
  ac vV Sj #[ft x,vM s.ptr s.len s.cap] h fun v h'=>∃(r:Sl) (ys:List (Int×Sl)),v=vM r.ptr r.len r.cap/\Sp h h' [cH kC 2 piv r ys (bx m a)]:=by
 refine PT x s ?_;unfold IM;refine(Sp.refl h).boxed fun a1 X N=>?_;refine⟨x,(N.box 0 rfl).aQ _ rfl,(mV x m X (Z.up N.ai) G).mono ?_⟩;rintro _ W ⟨r,rfl,R2⟩;have y:=N.cY R2;refine⟨r,rfl,?_⟩;obtain⟨rs,y⟩:=y.act fun _=>rfl;have Q:=jM m G;obtain⟨d,F⟩:∃d,d=bh m:=⟨_,rfl⟩
 rw[<-F]at y Q;have S:=y.eJ 0 rfl;have am:=S.1.len;have ab:=S.2.1;have ah:=U.len;obtain⟨T,I⟩:∃T:Int->List ((Int×Sl)×(Int×List UInt8)),T=fun n=>(rs.zip d).map fun z=>((n,z.1),(n,z.2)):=⟨_,rfl⟩
 have f:∀n,(T n).length=d.length:=fun n=>by rw[I];simp;omega
 have O:∀n,(T n).map zA=d.map fun c=>(n,c):=fun n=>by
  have G:=List.map_snd_zip (l₁:=rs) (l₂:=d) (by omega)
  conv=>rhs;rw[<-G]
  rw[I];simp[wK,Function.comp_def]
 have L:∀n j (P:j<d.length),(T n)[j]'(by rw[f];exact P)=((n,rs[j]'(by omega)),(n,d[j])):=fun n j P=>by subst I;simp
 have p:Sp h W [an dF ⟨none,0,0⟩ 2 piv (((a.take 0).flatMap T).map qK),cH (gh 1 aC) 1 bI r rs d]:=(y.nil dF 2 piv).bV [2,0];have A:∀i,i<=a.length->((a.take i).flatMap T).length<=i*3000:=fun i=>by
  induction i with
  |zero=>simp
  |succ i ih=>
   intro V;rw[aH _ _ (show i<a.length by omega),zb,qu];have X:=ih (by omega);have W:([a[i]].flatMap T).length=d.length:=by rw[zr,wO,qP,f]
   omega
 refine av (fun t:Sl×Nat=>(t.1,(t.2:Int))) (fun t h'=>t.2<=a.length/\Sp h h' [an dF t.1 2 piv (((a.take t.2).flatMap T).map qK),cH (gh 1 aC) 1 bI r rs d]) (fun t=>a.length-t.2) (⟨none,0,0⟩,0) rfl ⟨by simp,p⟩ ?_;rintro⟨o,i⟩ h3 ⟨V,p⟩;dsimp only at*;refine ak (fun e=>?_) (fun e=>?_)
 ·have E:i<a.length:=by omega
  have ht:=A i V;have hb:i*3000<=2^10*3000:=zG _ (by omega);refine(Seq.up U p.ai).bv i rfl E a[i] rfl ?_;refine av (fun t:Sl×Nat=>(t.1,(t.2:Int))) (fun t h'=>t.2<=d.length/\Sp h h' [an dF t.1 2 piv (((a.take i).flatMap T).map qK++((T a[i]).take t.2).map qK),cH (gh 1 aC) 1 bI r rs d]) (fun t=>d.length-t.2) (o,0) rfl ⟨by simp,by simpa using p⟩ ?_;rintro⟨u,j⟩ h4 ⟨P,w⟩;dsimp only at*;refine ak (fun e2=>?_) (fun e2=>?_)
  ·have D:j<d.length:=by omega
   refine(w.eJ 1 rfl).1.nX j rfl (by omega) ?_;refine w.push ae 0 rfl Te rfl (by decide) (fun _=>rfl) Of (a[i],rs[j]'(by omega)) rfl (by decide) (by simp only[qu,qw,qX,f];omega) fun u' h5 H5=>?_;refine⟨(u',j+1),by dsimp only;rw[Go.Vc.wrap_small _ (by omega) (by omega)];rfl,⟨by dsimp only;omega,?_⟩,by dsimp only;omega⟩;dsimp only;rw[aH (T a[i]) j (by rw[f];exact D),qQ,L _ _ D,<-qo];exact H5
  ·have K:j=d.length:=by omega
   subst K;rw[qi (l:=T a[i]) (by rw[f];exact ql _)]at w;refine⟨(u,i+1),by dsimp only;rw[Go.Vc.wrap_small _ (by omega) (by omega)];rfl,⟨by dsimp only;omega,?_⟩,by dsimp only;omega⟩;dsimp only;rw[aH _ _ E,zb,qQ,zr,wO,qP];exact w
 ·have M:i=a.length:=by omega
  subst M;rw[qR]at p;refine⟨o,(a.flatMap T).map qK,rfl,?_⟩;have w:=(p.freeze 0 rfl fun _=>rfl).oX;refine w.gf 0 rfl fun q ⟨q1,q2,_,b,c,Y,z2⟩=>?_;have B:(a.flatMap T).map zA=bx m a:=by
   unfold bx;rw[List.map_flatMap,<-F];congr 1;funext n;exact O n
  rw[<-B];refine⟨z2.mono c,by simp,fun j r' l' g H=>?_⟩;rw[qN]at g H;cases g3:(a.flatMap T)[j]? with
  |none=>rw[g3]at g;cases g
  |some t=>
   rw[g3]at g H;simp at g H;subst g;subst H;obtain⟨n,_,R⟩:=zO.1 (ya g3);rw[I]at R;obtain⟨z,J,rfl⟩:=qx.1 R;obtain⟨k,hk,rfl⟩:=List.mem_iff_getElem.1 J;rw[yK];exact⟨rfl,(Y.2.2 k _ _ (qd _) (qd _)).mono b⟩
end
section
variable {B:aA} {h0 h h':Heap} {As:List HP} {s:Sl} {d:List bu}
theorem XW{c d:List bu}{y:bu}(b:Sd ca (c++d))(f:∀z∈c,ca z y=true)(g:∀z∈d,¬ca z y=true):Sd ca (c++y::d):=
 Sd.app dw b.left (zL.2 ⟨fun z a=>dw.FT (g z a),b.right⟩) fun x e z a=>by
  rcases zc.1 a with rfl|a
  ·exact f x e
  ·exact b.HZ x e z a
theorem CO(X M Y:List bu)(a b:Int)(ha:a=(X.length:Int))(hb:b=(X.length+M.length:Nat))(ad:X.length+M.length+Y.length<=2^40)(H:aa B h0 h (cv s (X++(M++Y))::As)):
  ac vV kH #[vM s.ptr s.len s.cap,vL vR a,vL vR b,.func (.func cU) #[] #[]] h fun v h'=>v=.tuple #[]/\∃V,Sd ca V/\cj ca M V/\aa B h0 h' (cv s (X++(V++Y))::As):=by
 refine kz s a b (cU,#[],#[]) ?_;unfold gy;subst ha;subst hb;rw[Go.Vc.wrap_small ((X.length:Int)+1) (by omega) (by omega)];refine av (fun t:Nat×List bu=>((X.length+1+t.1:Nat):Int)) (fun t h'=>(t.1+1<=M.length∨t.1=0)/\Sd ca t.2/\cj ca (M.take (t.1+1)) t.2/\t.2.length=(M.take (t.1+1)).length/\aa B h0 h' (cv s (X++(t.2++(M.drop (t.1+1)++Y)))::As)) (fun t=>M.length-t.1) (0,M.take 1) rfl ?_ ?_
 ·refine⟨.inr rfl,?_,cj.refl _,rfl,?_⟩
  ·cases M with
   |nil=>exact List.Pairwise.nil
   |cons x M=>exact zL.2 ⟨fun _ h=>by simp at h,by simp⟩
  ·rw[<-qo (M.take (0+1)),qD];exact H
 rintro⟨t,P⟩ h1 ⟨ht,r,A,U,R⟩;dsimp only at*;refine ak (fun e=>?_) (fun e=>?_)
 ·have G:t+1<M.length:=by omega
  obtain⟨y,hy⟩:∃y,y=M[t+1]:=⟨_,rfl⟩
  have J:P.length=t+1:=by rw[U];simp;omega
  have eD:M.drop (t+1)=y::M.drop (t+1+1):=by rw[qT G,hy]
  rw[eD]at R;refine av (fun u:List bu×List bu=>((X.length+u.1.length:Nat):Int)) (fun u h'=>u.1++u.2=P/\(∀z∈u.2,¬ca z y=true)/\aa B h0 h' (cv s (X++(u.1++(y::(u.2++(M.drop (t+1+1)++Y)))))::As)) (fun u=>u.1.length) (P,[]) (by dsimp only;rw[J];congr 1;omega) ⟨by simp,by simp,by simpa using R⟩ ?_;rintro⟨c,d⟩ Z ⟨I,f,K⟩;dsimp only at*;have ah:c.length+d.length=t+1:=by rw[<-J,<-I,qu]
  have k:∀{h':Heap},(∀z∈c,ca z y=true)->aa B h0 h' (cv s (X++(c++(y::(d++(M.drop (t+1+1)++Y)))))::As)->
    ∃l:Nat×List bu,qc vR (((X.length+1+t:Nat):Int)+1)=((X.length+1+l.1:Nat):Int)/\((l.1+1<=M.length∨l.1=0)/\Sd ca l.2/\cj ca (M.take (l.1+1)) l.2/\l.2.length=(M.take (l.1+1)).length/\aa B h0 h' (cv s (X++(l.2++(M.drop (l.1+1)++Y)))::As))/\M.length-l.1<M.length-t:=fun{h'} hle H'=>by
   refine⟨(t+1,c++y::d),by dsimp only;rw[Go.Vc.wrap_small _ (by omega) (by omega)];omega,⟨.inl (by dsimp only;omega),?_,?_,?_,?_⟩,by dsimp only;omega⟩
   ·exact XW (by rw[I];exact r) hle f
   ·dsimp only;rw[aH M (t+1) G,<-hy];have h1:cj ca (M.take (t+1)++[y]) (P++[y]):=A.app (cj.refl _);refine h1.trans ?_;rw[<-I,qo];have Z:cj ca (d++[y]) ([y]++d):=cj.Zs dw fun x hx z N=>by rw[qG.1 N];exact f x hx
    exact(cj.refl _).app Z
   ·dsimp only;simp;omega
   ·dsimp only;have:X++((c++y::d)++(M.drop (t+1+1)++Y))=X++(c++(y::(d++(M.drop (t+1+1)++Y)))):=by simp
    rw[this];exact H'
  obtain⟨D,T⟩:∃D,D=X++(c++(y::(d++(M.drop (t+1+1)++Y)))):=⟨_,rfl⟩
  refine cl (fun _ h'=>∃(Q:List bu) (z:bu),c=Q++[z]/\¬ca z y=true/\aa B h0 h' (cv s D::As)) ?_ ?_
  ·rw[<-T]at K k;refine ak (fun e2=>?_) (fun e2=>⟨trivial,k (fun z N=>?_) K⟩)
   ·have L:c≠[]:=fun h=>by rw[h]at e2;simp at e2
    obtain⟨Q,z,n⟩:∃(Q:List bu) (z:bu),c=Q++[z]:=⟨c.dropLast,c.getLast L,(List.dropLast_concat_getLast L).symm⟩
    have ab:c.length=Q.length+1:=by rw[n];simp
    have g1:D[X.length+c.length]?=some y:=by
     rw[T,qj (by omega),show X.length+c.length-X.length=c.length by omega,qj (by omega),zf];rfl
    have g2:D[X.length+c.length-1]?=some z:=by
     rw[T,qj (by omega),show X.length+c.length-1-X.length=Q.length by omega,n,qo,qj (ql _),zf];rfl
    obtain⟨O,q⟩:=qm.1 g1;obtain⟨S,p⟩:=qm.1 g2;refine(K.seq 0 rfl fun _=>rfl).dD (g:=bD) _ rfl O y (by rw[q]) ?_;have W:qc vR (((X.length+c.length:Nat):Int)-1)=((X.length+c.length-1:Nat):Int):=by rw[Go.Vc.wrap_small _ (by omega) (by omega)];omega
    rw[W];refine(K.seq 0 rfl fun _=>rfl).dD (g:=bD) _ rfl S z (by rw[p]) (eU (by rfl) ?_);refine(pK y z Z).mono ?_;rintro _ h3 ⟨rfl,R3⟩;have F:=K.up R3.ai;refine⟨_,rfl,trivial,ak (fun e3=>⟨Q,z,n,(rK y z).1 e3,F⟩) fun e3=>k (fun w m=>?_) F⟩;have o:ca z y=true:=by
     by_cases hc:ca z y=true
     ·exact hc
     ·exact absurd ((rK y z).2 hc) e3
    rw[n]at m;rcases qE.1 m with m|m
    ·refine dw.trans _ _ _ ?_ o;have:Sd ca (Q++[z]):=by rw[<-n];exact Sd.left (v:=d) (by rw[I];exact r)
     exact this.HZ w m z (by simp)
    ·rw[qG.1 m];exact o
   ·have:c=[]:=by
     cases c with
     |nil=>rfl
     |cons x P=>exfalso;simp only[zi]at e2;omega
    rw[this]at N;cases N
  ·rintro _ h3 ⟨Q,z,n,o,F⟩;have ab:c.length=Q.length+1:=by rw[n];simp
   have E:D=(X++Q)++z::([]++y::(d++(M.drop (t+1+1)++Y))):=by rw[T,n];simp
   obtain⟨q1,q2,q3,q4⟩:=SZ (X++Q) [] (d++(M.drop (t+1+1)++Y)) z y (i:=X.length+c.length-1) (j:=X.length+c.length) (by simp;omega) (by simp;omega);rw[<-E]at q1 q2 q3 q4;obtain⟨S,p⟩:=qm.1 q1;obtain⟨O,q⟩:=qm.1 q2;have W:qc vR (((X.length+c.length:Nat):Int)-1)=((X.length+c.length-1:Nat):Int):=by rw[Go.Vc.wrap_small _ (by omega) (by omega)];omega
   rw[W];refine(F.seq 0 rfl fun _=>rfl).dD (g:=bD) _ rfl S z (by rw[p]) ?_;refine(F.seq 0 rfl fun _=>rfl).dD (g:=bD) _ rfl O y (by rw[q]) ?_;refine F.set ae 0 rfl (fun _=>rfl) rfl (X.length+c.length) rfl O z rfl rfl rfl fun h4 H4=>⟨trivial,?_⟩
   refine H4.set ae 0 rfl (fun _=>rfl) rfl (X.length+c.length-1) rfl (by simpa using S) y rfl rfl rfl fun h5 H5=>⟨trivial,?_⟩
   refine⟨(Q,z::d),by dsimp only;congr 1;omega,⟨by dsimp only;rw[<-I,n];simp,?_,?_⟩,by dsimp only;omega⟩
   ·dsimp only;intro w m;rcases zc.1 m with rfl|m
    ·exact o
    ·exact f w m
   ·dsimp only;have:X++(Q++(y::(z::d++(M.drop (t+1+1)++Y))))=(X++Q)++y::([]++z::(d++(M.drop (t+1+1)++Y))):=by simp
    rw[this,<-q4];exact H5
 ·refine⟨rfl,P,r,?_,?_⟩
  ·rw[qi (by omega)]at A;exact A
  ·rw[q9 (by omega)]at R;simpa using R
end
theorem Im(x y:Nat)(h:x+y<=2^62):qc vR (qS (qc vU (qc vR ((x:Int)+(y:Int)))) (2^min (1:Int).toNat (qk vU)))=(((x+y)/2:Nat):Int):=by
 rw[Go.Vc.wrap_small ((x:Int)+y) (by omega) (by omega)];have e:qc vU ((x:Int)+(y:Int))=(x:Int)+y:=by
  unfold qc;simp[qk,yI];omega
 rw[e,show min (1:Int).toNat (qk vU)=1 from rfl,yV _ (by decide),Go.Vc.wrap_small _ (by omega) (by omega)];omega
section
variable {B:aA} {h0 h h':Heap} {As:List HP} {s:Sl} {d:List bu}
theorem BI{x y:bu}(h:¬kZ x y<0):ca y x=true:=by
 by_cases a:ca y x=true
 ·exact a
 ·exact absurd ((rK x y).2 a) h
theorem jB{K:bu->Prop}(H:aa B h0 h (cv s d::As)){i:Int}(n:Nat)(f:i=n){x:bu}(b:d[n]?=some x)(j:K x):
  ∃a:Addr,(s.ptr=some a/\0<=i/\i<((s.len:Nat):Int))/\∃x:bu,aj h (a.add (i.toNat*8)) 0 (bD x)/\K x:=by
 obtain⟨c,e⟩:=qm.1 b;exact(H.seq 0 rfl fun _=>rfl).dD (g:=bD) n f c x (by rw[e]) j
theorem Og(x:bu)(X R Y:List bu)(ab:X.length+1+R.length+Y.length<=2^40)(J:Sd ca R)(H:aa B h0 h (cv s (X++(x::(R++Y)))::As)){K:Value->Heap->Prop}
  (d:∀h',(∃M,Sd ca M/\cj ca (x::R) M/\aa B h0 h' (cv s (X++(M++Y))::As))->K (.tuple #[]) h') (a m b:Int) (ha:a=(X.length:Int)) (hm:m=(X.length+1:Nat)) (hb:b=(X.length+1+R.length:Nat)):
  aL (σ:=Int×Int) (fun c K1 g=>
   Br (decide (c.1<c.2))
   ((0<=(1:Int))/\
   ∃a2:Addr,(s.ptr=some a2/\0<=(qc vR (qS (qc vU (qc vR (c.1+c.2))) (2^min (1:Int).toNat (qk vU))))/\(qc vR (qS (qc vU (qc vR (c.1+c.2))) (2^min (1:Int).toNat (qk vU))))<((s.len:Nat):Int))/\
   ∃x3:bu,aj g (a2.add ((qc vR (qS (qc vU (qc vR (c.1+c.2))) (2^min (1:Int).toNat (qk vU)))).toNat*8)) 0 (bD x3)/\
   ∃a4:Addr,(s.ptr=some a4/\0<=a/\a<((s.len:Nat):Int))/\
   ∃x5:bu,aj g (a4.add (a.toNat*8)) 0 (bD x5)/\
   ig C cU ((#[]:Array Value).toList++[recv x3,recv x5]++(#[]:Array Value).toList) (.one (.sc (.int .i64))) g fun r6 n=>
   (aq.ok [] n)/\
   Br (decide (r6<(0:Int)))
   (K1 (qc vR ((qc vR (qS (qc vU (qc vR (c.1+c.2))) (2^min (1:Int).toNat (qk vU))))+(1:Int)),c.2) n)
   (K1 (c.1,qc vR (qS (qc vU (qc vR (c.1+c.2))) (2^min (1:Int).toNat (qk vU)))) n))
   (aL (σ:=Int) (fun f K2 h3=>
   Br (decide (f<(qc vR (c.1-(1:Int)))))
   (∃a8:Addr,(s.ptr=some a8/\0<=(qc vR (f+(1:Int)))/\(qc vR (f+(1:Int)))<((s.len:Nat):Int))/\
   ∃x9:bu,aj h3 (a8.add ((qc vR (f+(1:Int))).toNat*8)) 0 (bD x9)/\
   ∃I:Addr,(s.ptr=some I/\0<=f/\f<((s.len:Nat):Int))/\
   ∃F:bu,aj h3 (I.add (f.toNat*8)) 0 (bD F)/\
   ∃D:Addr,(s.ptr=some D/\0<=f/\f<((s.len:Nat):Int))/\
   ag vV (qf aZ (vN (some (D.add (f.toNat*8)))) (recv x9)) h3 fun _ W=>
   (aq.ok [] W)/\
   ∃y:Addr,(s.ptr=some y/\0<=(qc vR (f+(1:Int)))/\(qc vR (f+(1:Int)))<((s.len:Nat):Int))/\
   ag vV (qf aZ (vN (some (y.add ((qc vR (f+(1:Int))).toNat*8)))) (recv F)) W fun _ T=>
   (aq.ok [] T)/\
   K2 (qc vR (f+(1:Int))) T)
   (K (.tuple #[]) h3)) a g)) (m,b) h:=by
 subst ha;subst hm;subst hb;refine av (fun t:Nat×Nat=>(((X.length+1+t.1:Nat):Int),((X.length+1+t.2:Nat):Int))) (fun t h'=>t.1<=t.2/\t.2<=R.length/\(∀k (d:k<R.length),k<t.1->¬ca x R[k]=true)/\(∀k (d:k<R.length),t.2<=k->ca x R[k]=true)/\aa B h0 h' (cv s (X++(x::(R++Y)))::As)) (fun t=>t.2-t.1) (0,R.length) rfl ⟨by simp,by simp,fun _ _ h=>by simp at h,fun _ g n=>absurd g (by simpa using n),H⟩ ?_;rintro⟨i,j⟩ g ⟨ad,hj,p,A,N⟩;dsimp only at*;refine ak (fun e=>?_) (fun e=>?_)
 ·have o:i<j:=by omega
  rw[Im _ _ (by omega)];have eh:((X.length+1+i)+(X.length+1+j))/2=X.length+1+(i+j)/2:=by omega
  rw[eh];have d:(i+j)/2<R.length:=by omega
  refine⟨by decide,jB N _ rfl (x:=R[(i+j)/2]) ?_ (jB N X.length rfl (x:=x) ?_ (eU (by rfl) ?_))⟩
  ·rw[qj (by omega),show X.length+1+(i+j)/2-X.length=(i+j)/2+1 by omega,qz,qn d,qd d]
  ·rw[qj (ql _),zf];rfl
  refine(pK R[(i+j)/2] x g).mono ?_;rintro _ n ⟨rfl,R2⟩;have H2:=N.up R2.ai;refine⟨_,rfl,trivial,ak (fun e2=>?_) (fun e2=>?_)⟩
  ·have P:=(rK _ _).1 e2;refine⟨((i+j)/2+1,j),by dsimp only;rw[Go.Vc.wrap_small _ (by omega) (by omega)];rfl,⟨by dsimp only;omega,hj,fun k E U=>?_,A,H2⟩,by dsimp only;omega⟩;intro hc;exact P (dw.trans _ _ _ hc (J.at_ dw (i:=k) (j:=(i+j)/2) (by dsimp only at U;omega) d))
  ·refine⟨(i,(i+j)/2),rfl,⟨by dsimp only;omega,by dsimp only;omega,p,fun k E V=>?_,H2⟩,by dsimp only;omega⟩;exact dw.trans _ _ _ (BI e2) (J.at_ dw (by dsimp only at V;omega) E)
 ·have o:i=j:=by omega
  subst o;have hM:Sd ca (R.take i++x::R.drop i):=by
   refine Sd.app dw (Sd.left (v:=R.drop i) (by rw[qD];exact J)) (zL.2 ⟨fun z r=>?_,Sd.right (u:=R.take i) (by rw[qD];exact J)⟩) fun z r w G=>?_
   ·obtain⟨k,d,rfl⟩:=qF r;rw[zR];exact A _ _ (by omega)
   ·obtain⟨k,d,rfl⟩:=qF r;rw[wX];have S:k<i:=by simp at d;omega
    have g:=dw.FT (p k (by simp at d;omega) S);rcases zc.1 G with rfl|G
    ·exact g
    ·obtain⟨l,hl,rfl⟩:=qF G;rw[zR];exact J.at_ dw (by omega) (by simp at hl;omega)
  have hE:cj ca (x::R) (R.take i++x::R.drop i):=by
   have g:cj ca ([x]++R.take i) (R.take i++[x]):=cj.Zs dw fun z r w G=>by
    rw[qG.1 r];obtain⟨k,d,rfl⟩:=qF G;rw[wX];exact p k (by simp at d;omega) (by simp at d;omega)
   have n:=g.app (cj.refl (le:=ca) (R.drop i));have e1:([x]++R.take i)++R.drop i=x::R:=by rw[qo,qD];rfl
   have e2:(R.take i++[x])++R.drop i=R.take i++x::R.drop i:=by simp
   rw[e1,e2]at n;exact n
  have el:qc vR (((X.length+1+i:Nat):Int)-1)=((X.length+i:Nat):Int):=by rw[Go.Vc.wrap_small _ (by omega) (by omega)];omega
  rw[el];refine av (fun t:Nat=>((X.length+t:Nat):Int)) (fun t h'=>t<=i/\aa B h0 h' (cv s (X++(R.take t++(x::(R.drop t++Y))))::As)) (fun t=>i-t) 0 rfl ⟨by omega,by simpa using N⟩ ?_;rintro t h3 ⟨ht,O⟩;refine ak (fun e2=>?_) (fun e2=>?_)
  ·have ah:t<i:=by omega
   have L:t<R.length:=by omega
   have q:X++(R.take t++(x::(R.drop t++Y)))=(X++R.take t)++x::([]++R[t]::(R.drop (t+1)++Y)):=by rw[qT L];simp only[qo,zu,zV]
   obtain⟨Q,Z,q3,q4⟩:=SZ (X++R.take t) [] (R.drop (t+1)++Y) x R[t] (i:=X.length+t) (j:=X.length+t+1) (by simp;omega) (by simp;omega);rw[<-q]at Q Z q3 q4;have ek:qc vR (((X.length+t:Nat):Int)+1)=((X.length+t+1:Nat):Int):=by rw[Go.Vc.wrap_small _ (by omega) (by omega)];omega
   rw[ek];refine jB O _ rfl Z (jB O _ rfl Q ?_);refine O.set ae 0 rfl (fun _=>rfl) rfl (X.length+t) rfl (qm.1 Q).1 R[t] rfl rfl rfl fun W H4=>⟨trivial,?_⟩
   refine H4.set ae 0 rfl (fun _=>rfl) rfl (X.length+t+1) rfl (by rw[zE];exact(qm.1 Z).1) x rfl rfl rfl fun T H5=>⟨trivial,?_⟩
   refine⟨t+1,rfl,⟨by omega,?_⟩,by omega⟩;have e3:X++(R.take (t+1)++(x::(R.drop (t+1)++Y)))=(X++R.take t)++R[t]::([]++x::(R.drop (t+1)++Y)):=by rw[aH R t L];simp only[qo,zu,zV]
   rw[e3,<-q3];exact H5
  ·have:t=i:=by omega
   subst this;refine d h3 ⟨R.take t++x::R.drop t,hM,hE,?_⟩;have:X++((R.take t++x::R.drop t)++Y)=X++(R.take t++(x::(R.drop t++Y))):=by simp
   rw[this];exact O
end
section
variable {B:aA} {h0 h h':Heap} {As:List HP} {s:Sl} {d:List bu}
theorem Mb(y:bu)(X L Y:List bu)(ap:X.length+L.length+1+Y.length<=2^40)(A:Sd ca L)(H:aa B h0 h (cv s (X++(L++(y::Y)))::As)){K:Value->Heap->Prop}
  (d:∀h',(∃M,Sd ca M/\cj ca (L++[y]) M/\aa B h0 h' (cv s (X++(M++Y))::As))->K (.tuple #[]) h') (a m:Int) (ha:a=(X.length:Int)) (hm:m=(X.length+L.length:Nat)):
  aL (σ:=Int×Int) (fun b K3 V=>
   Br (decide (b.1<b.2))
   ((0<=(1:Int))/\
   ∃I:Addr,(s.ptr=some I/\0<=m/\m<((s.len:Nat):Int))/\
   ∃D:bu,aj V (I.add (m.toNat*8)) 0 (bD D)/\
   ∃N:Addr,(s.ptr=some N/\0<=(qc vR (qS (qc vU (qc vR (b.1+b.2))) (2^min (1:Int).toNat (qk vU))))/\(qc vR (qS (qc vU (qc vR (b.1+b.2))) (2^min (1:Int).toNat (qk vU))))<((s.len:Nat):Int))/\
   ∃E:bu,aj V (N.add ((qc vR (qS (qc vU (qc vR (b.1+b.2))) (2^min (1:Int).toNat (qk vU)))).toNat*8)) 0 (bD E)/\
   ig C cU ((#[]:Array Value).toList++[recv D,recv E]++(#[]:Array Value).toList) (.one (.sc (.int .i64))) V fun ad h7=>
   (aq.ok [] h7)/\
   Br (!(decide (ad<(0:Int))))
   (K3 (qc vR ((qc vR (qS (qc vU (qc vR (b.1+b.2))) (2^min (1:Int).toNat (qk vU))))+(1:Int)),b.2) h7)
   (K3 (b.1,qc vR (qS (qc vU (qc vR (b.1+b.2))) (2^min (1:Int).toNat (qk vU)))) h7))
   (aL (σ:=Int) (fun c K4 h8=>
   Br (decide (c>b.1))
   (∃F:Addr,(s.ptr=some F/\0<=(qc vR (c-(1:Int)))/\(qc vR (c-(1:Int)))<((s.len:Nat):Int))/\
   ∃T:bu,aj h8 (F.add ((qc vR (c-(1:Int))).toNat*8)) 0 (bD T)/\
   ∃J:Addr,(s.ptr=some J/\0<=c/\c<((s.len:Nat):Int))/\
   ∃r:bu,aj h8 (J.add (c.toNat*8)) 0 (bD r)/\
   ∃a25:Addr,(s.ptr=some a25/\0<=c/\c<((s.len:Nat):Int))/\
   ag vV (qf aZ (vN (some (a25.add (c.toNat*8)))) (recv T)) h8 fun _ h9=>
   (aq.ok [] h9)/\
   ∃q:Addr,(s.ptr=some q/\0<=(qc vR (c-(1:Int)))/\(qc vR (c-(1:Int)))<((s.len:Nat):Int))/\
   ag vV (qf aZ (vN (some (q.add ((qc vR (c-(1:Int))).toNat*8)))) (recv r)) h9 fun _ U=>
   (aq.ok [] U)/\
   K4 (qc vR (c-(1:Int))) U)
   (K (.tuple #[]) h8)) m V)) (a,m) h:=by
 subst ha;subst hm;refine av (fun t:Nat×Nat=>(((X.length+t.1:Nat):Int),((X.length+t.2:Nat):Int))) (fun t h'=>t.1<=t.2/\t.2<=L.length/\(∀k (d:k<L.length),k<t.1->ca L[k] y=true)/\(∀k (d:k<L.length),t.2<=k->¬ca L[k] y=true)/\aa B h0 h' (cv s (X++(L++(y::Y)))::As)) (fun t=>t.2-t.1) (0,L.length) rfl ⟨by simp,by simp,fun _ _ h=>by simp at h,fun _ o R=>absurd o (by simpa using R),H⟩ ?_;rintro⟨i,j⟩ o ⟨ay,hj,Q,g,W⟩;dsimp only at*;refine ak (fun e=>?_) (fun e=>?_)
 ·have f:i<j:=by omega
  rw[Im _ _ (by omega)];have eh:((X.length+i)+(X.length+j))/2=X.length+(i+j)/2:=by omega
  rw[eh];have d:(i+j)/2<L.length:=by omega
  refine⟨by decide,jB W (X.length+L.length) rfl (x:=y) ?_ (jB W _ rfl (x:=L[(i+j)/2]) ?_ (eU (by rfl) ?_))⟩
  ·rw[qj (by omega),show X.length+L.length-X.length=L.length by omega,qj (ql _),zf];rfl
  ·rw[qj (by omega),show X.length+(i+j)/2-X.length=(i+j)/2 by omega,qn d,qd d]
  refine(pK y L[(i+j)/2] o).mono ?_;rintro _ R ⟨rfl,R2⟩;have H2:=W.up R2.ai;refine⟨_,rfl,trivial,?_⟩;by_cases e2:kZ y L[(i+j)/2]<0
  ·have ab:=(rK _ _).1 e2;refine bg (fun S=>absurd S (by simpa using e2)) fun _=>?_;refine⟨(i,(i+j)/2),rfl,⟨by dsimp only;omega,by dsimp only;omega,Q,fun k G ao=>?_,H2⟩,by dsimp only;omega⟩;intro hc;exact ab (dw.trans _ _ _ (A.at_ dw (i:=(i+j)/2) (j:=k) (by dsimp only at ao;omega) G) hc)
  ·refine bg (fun _=>?_) fun S=>absurd S (by simpa using e2);refine⟨((i+j)/2+1,j),by dsimp only;rw[Go.Vc.wrap_small _ (by omega) (by omega)];rfl,⟨by dsimp only;omega,hj,fun k G am=>?_,g,H2⟩,by dsimp only;omega⟩;exact dw.trans _ _ _ (A.at_ dw (by dsimp only at am;omega) d) (BI e2)
 ·have f:i=j:=by omega
  subst f;have hM:Sd ca (L.take i++y::L.drop i):=by
   refine Sd.app dw (Sd.left (v:=L.drop i) (by rw[qD];exact A)) (zL.2 ⟨fun z p=>?_,Sd.right (u:=L.take i) (by rw[qD];exact A)⟩) fun z p w P=>?_
   ·obtain⟨k,d,rfl⟩:=qF p;rw[zR];exact dw.FT (g _ (by simp at d;omega) (by omega))
   ·obtain⟨k,d,rfl⟩:=qF p;rw[wX];have ah:k<i:=by simp at d;omega
    have o:=Q k (by simp at d;omega) ah;rcases zc.1 P with rfl|P
    ·exact o
    ·obtain⟨l,hl,rfl⟩:=qF P;rw[zR];exact A.at_ dw (by omega) (by simp at hl;omega)
  have hE:cj ca (L++[y]) (L.take i++y::L.drop i):=by
   have o:cj ca (L.drop i++[y]) ([y]++L.drop i):=cj.Zs dw fun z p w P=>by
    rw[qG.1 P];obtain⟨k,d,rfl⟩:=qF p;rw[zR];exact g _ (by simp at d;omega) (by omega)
   have R:=(cj.refl (le:=ca) (L.take i)).app o;have e1:L.take i++(L.drop i++[y])=L++[y]:=by rw[<-qo,qD]
   rw[e1]at R;exact R
  refine av (fun t:Nat=>((X.length+t:Nat):Int)) (fun t h'=>i<=t/\t<=L.length/\aa B h0 h' (cv s (X++(L.take t++(y::(L.drop t++Y))))::As)) (fun t=>t-i) L.length rfl ⟨by omega,by omega,by simpa using W⟩ ?_;rintro t h3 ⟨ht,ax,Z⟩;refine ak (fun e2=>?_) (fun e2=>?_)
  ·obtain⟨u,rfl⟩:∃u,t=u+1:=⟨t-1,by omega⟩
   have O:u<L.length:=by omega
   have n:X++(L.take (u+1)++(y::(L.drop (u+1)++Y)))=(X++L.take u)++L[u]::([]++y::(L.drop (u+1)++Y)):=by rw[aH L u O];simp only[qo,zu,zV]
   obtain⟨q1,q2,q3,q4⟩:=SZ (X++L.take u) [] (L.drop (u+1)++Y) L[u] y (i:=X.length+u) (j:=X.length+(u+1)) (by simp;omega) (by simp;omega);rw[<-n]at q1 q2 q3 q4;have ek:qc vR (((X.length+(u+1):Nat):Int)-1)=((X.length+u:Nat):Int):=by rw[Go.Vc.wrap_small _ (by omega) (by omega)];omega
   rw[ek];refine jB Z _ rfl q1 (jB Z _ rfl q2 ?_);refine Z.set ae 0 rfl (fun _=>rfl) rfl (X.length+(u+1)) rfl (qm.1 q2).1 L[u] rfl rfl rfl fun h4 H4=>⟨trivial,?_⟩
   refine H4.set ae 0 rfl (fun _=>rfl) rfl (X.length+u) rfl (by rw[zE];exact(qm.1 q1).1) y rfl rfl rfl fun h5 H5=>⟨trivial,?_⟩
   refine⟨u,rfl,⟨by omega,by omega,?_⟩,by omega⟩;have S:X++(L.take u++(y::(L.drop u++Y)))=(X++L.take u)++y::([]++L[u]::(L.drop (u+1)++Y)):=by rw[qT O];simp only[qo,zu,zV]
   rw[S,<-q4];exact H5
  ·have:t=i:=by omega
   subst this;refine d h3 ⟨L.take t++y::L.drop t,hM,hE,?_⟩;have:X++((L.take t++y::L.drop t)++Y)=X++(L.take t++(y::(L.drop t++Y))):=by simp
   rw[this];exact Z
end
end Go.Proofs.YtdhamoojccmbdaaGreatDoor
namespace Wl
open Go Go.Vc
theorem aak{L R:List bu}(h:Sd ca L)(k:Sd ca R)(p q:Nat)(s:p<=L.length)(r:q<=R.length)
  (m:∀i j (a:i<L.length) (c:j<R.length),i+1=p->j=q->ca L[i] R[j]=true)
  (o:∀i j (a:i<L.length) (c:j<R.length),i=p->j+1=q->¬ca L[i] R[j]=true):
  (∀x∈L.take p,∀y∈R.drop q,ca x y=true)/\(∀x∈L.drop p,∀y∈R.take q,¬ca x y=true):=by
 constructor
 ·intro x f y e;obtain⟨i,a,rfl⟩:=qF f;obtain⟨j,c,rfl⟩:=qF e;rw[wX,zR];have d:i<p:=by simp at a;omega
  have b:q+j<R.length:=by simp at c;omega
  have g:=h.at_ dw (i:=i) (j:=p-1) (by omega) (by omega);have n:=m (p-1) q (by omega) (by omega) (by omega) rfl;have h3:=k.at_ dw (i:=q) (j:=q+j) (by omega) b;exact dw.trans _ _ _ g (dw.trans _ _ _ n h3)
 ·intro x f y e l;obtain⟨i,a,rfl⟩:=qF f;obtain⟨j,c,rfl⟩:=qF e;rw[wX,zR]at l;have b:j<q:=by simp at c;omega
  have d:p+i<L.length:=by simp at a;omega
  have g:=h.at_ dw (i:=p) (j:=p+i) (by omega) d;have h3:=k.at_ dw (i:=j) (j:=q-1) (by omega) (by omega);exact o p (q-1) (by omega) (by omega) rfl (by omega) (dw.trans _ _ _ g (dw.trans _ _ _ l h3))
end Wl
namespace Go.Proofs.YtdhamoojccmbdaaGreatDoor
open Go Go.Vc Go.Proofs Wl
theorem EV:∀(N:Nat) {B:aA} {h0 h:Heap} {As:List HP} {s:Sl} (X L R Y:List bu) (a m b:Int),0<L.length->0<R.length->L.length+R.length<=N->a=(X.length:Int)->m=(X.length+L.length:Nat)->b=(X.length+L.length+R.length:Nat)->X.length+L.length+R.length+Y.length<=2^40->Sd ca L->Sd ca R->
  aa B h0 h (cv s (X++(L++(R++Y)))::As)->
  ac vV mC #[vM s.ptr s.len s.cap,vL vR a,vL vR m,vL vR b,.func (.func cU) #[] #[]] h fun v h'=>v=.tuple #[]/\∃M,Sd ca M/\cj ca (L++R) M/\aa B h0 h' (cv s (X++(M++Y))::As):=by
 intro N
 induction N with
 |zero=>intro B h0 h As s X L R Y a m b hL hR hN;omega
 |succ N ih=>
  intro B h0 h As s X L R Y a m b hL hR hN ha hm hb Q sL Z H;refine lY s a m b (cU,#[],#[]) ?_;unfold iw;have e1:qc vR (m-a)=(L.length:Int):=by rw[Go.Vc.wrap_small _ (by omega) (by omega)];omega
  have e2:qc vR (b-m)=(R.length:Int):=by rw[Go.Vc.wrap_small _ (by omega) (by omega)];omega
  rw[e1,e2];refine cx (fun c=>?_) fun c=>cx (fun c2=>?_) fun c2=>?_
  ·obtain⟨x,hx⟩:∃x,L=[x]:=by
    match L,hL,c with
    |[x],_,_=>exact⟨x,rfl⟩
    |x::y::L,_,c=>simp at c;omega
   subst hx;exact Og (K:=fun v h'=>v=.tuple #[]/\∃M,Sd ca M/\cj ca ([x]++R) M/\aa B h0 h' (cv s (X++(M++Y))::As)) x X R Y (by simp at Q⊢;omega) Z H (fun h' ⟨M,T,P,q3⟩=>⟨rfl,M,T,P,q3⟩) a m b ha (by rw[hm];simp) (by rw[hb];simp)
  ·obtain⟨y,hy⟩:∃y,R=[y]:=by
    match R,hR,c2 with
    |[x],_,_=>exact⟨x,rfl⟩
    |x::y::L,_,c=>simp at c;omega
   subst hy;exact Mb (K:=fun v h'=>v=.tuple #[]/\∃M,Sd ca M/\cj ca (L++[y]) M/\aa B h0 h' (cv s (X++(M++Y))::As)) y X L Y (by simp at Q⊢;omega) sL H (fun h' ⟨M,T,P,q3⟩=>⟨rfl,M,T,P,q3⟩) a m ha hm
  ·refine⟨by decide,?_⟩;subst ha;subst hm;subst hb;have c':L.length≠1:=fun A=>c (by omega);have bk:R.length≠1:=fun A=>c2 (by omega);rw[Im X.length (X.length+L.length+R.length) (by omega)];obtain⟨En,ad⟩:∃En,En=(X.length+(X.length+L.length+R.length))/2:=⟨_,rfl⟩
   rw[<-ad];have en:qc vR ((En:Int)+((X.length+L.length:Nat):Int))=((En+(X.length+L.length):Nat):Int):=by rw[Go.Vc.wrap_small _ (by omega) (by omega)];omega
   rw[en];obtain⟨n,hn⟩:∃n,n=En+(X.length+L.length):=⟨_,rfl⟩
   rw[<-hn];have ep:qc vR ((n:Int)-1)=((n-1:Nat):Int):=by rw[Go.Vc.wrap_small _ (by omega) (by omega)];omega
   rw[ep];obtain⟨D,hD⟩:∃D,D=X++(L++(R++Y)):=⟨_,rfl⟩
   have gL:∀i (f:i<L.length),D[X.length+i]?=some L[i]:=fun i f=>by
    rw[hD,qj (by omega),zk,qn f,qd f]
   have gR:∀i (f:i<R.length),D[X.length+L.length+i]?=some R[i]:=fun i f=>by
    rw[hD,qj (by omega),show X.length+L.length+i-X.length=L.length+i by omega,qj (by omega),zk,qn f,qd f]
   rw[<-hD]at H;refine cl (fun(k:Int×Int) h'=>h'=h/\∃o f:Nat,k=((o:Int),(f:Int))/\o<=f/\X.length<=o/\f<=X.length+L.length/\f<=En/\n<=o+(X.length+L.length+R.length)/\(o=X.length∨n=o+(X.length+L.length+R.length))/\(f=X.length+L.length∨f=En)) ?_ ?_
   ·refine ak (fun e=>⟨rfl,n-(X.length+L.length+R.length),En,?_,by omega,by omega,by omega,by omega,by omega,by omega,by omega⟩) fun e=>⟨rfl,X.length,X.length+L.length,rfl,by omega,by omega,by omega,by omega,by omega,by omega,by omega⟩
    have:qc vR ((n:Int)-((X.length+L.length+R.length:Nat):Int))=((n-(X.length+L.length+R.length):Nat):Int):=by rw[Go.Vc.wrap_small _ (by omega) (by omega)];omega
    rw[this]
   ·rintro⟨bl,bq⟩ _ ⟨rfl,o,f,bb,b1,b2,b3,b4,b5,b6,b7⟩;injection bb with est1 est2
    subst est1;subst est2;dsimp only;refine av (fun t:Nat×Nat=>((t.1:Int),(t.2:Int))) (fun t h'=>o<=t.1/\t.1<=t.2/\t.2<=f/\
     (∀i j (l:i<L.length) (hj:j<R.length),X.length+i+1=t.1->X.length+i+(X.length+L.length+j)=n-1->o<t.1->ca L[i] R[j]=true)/\
     (∀i j (l:i<L.length) (hj:j<R.length),X.length+i=t.2->X.length+i+(X.length+L.length+j)=n-1->t.2<f->¬ca L[i] R[j]=true)/\
     aa B h0 h' (cv s D::As)) (fun t=>t.2-t.1) (o,f) rfl ⟨by simp,by simpa using b1,by simp,fun _ _ _ _ _ _ F=>absurd F (by simp),fun _ _ _ _ _ _ F=>absurd F (by simp),H⟩ ?_
    rintro⟨k,r⟩ h1 ⟨t1,t2,t3,F1,F2,H1⟩;dsimp only at*;refine ak (fun e=>?_) (fun e=>?_)
    ·have F:k<r:=by omega
     rw[Im _ _ (by omega)];obtain⟨G,a4⟩:∃G,G=(k+r)/2:=⟨_,rfl⟩
     rw[<-a4];have bd:qc vR (((n-1:Nat):Int)-(G:Int))=((n-1-G:Nat):Int):=by rw[Go.Vc.wrap_small _ (by omega) (by omega)];omega
     rw[bd];obtain⟨i,l⟩:∃i,G=X.length+i:=⟨G-X.length,by omega⟩
     obtain⟨j,a1⟩:∃j,n-1-G=X.length+L.length+j:=⟨n-1-G-(X.length+L.length),by omega⟩
     have ao:i<L.length:=by omega
     have a8:j<R.length:=by omega
     rw[a1,l];refine⟨by decide,jB H1 _ rfl (gR j a8) (jB H1 _ rfl (gL i ao) (eU (by rfl) ?_))⟩;refine(pK R[j] L[i] h1).mono ?_;rintro _ h2 ⟨rfl,R2⟩;have I:=H1.up R2.ai;refine⟨_,rfl,trivial,?_⟩;by_cases e2:kZ R[j] L[i]<0
     ·have ah:=(rK _ _).1 e2;refine bg (fun e3=>absurd e3 (by simpa using e2)) fun _=>?_;refine⟨(k,X.length+i),rfl,⟨t1,by dsimp only;omega,by dsimp only;omega,F1,fun i2 j2 a9 ap z E _=>?_,I⟩,by dsimp only;omega⟩;dsimp only at z;have:i2=i:=by omega
      subst this;have:j2=j:=by omega
      subst this;exact ah
     ·refine bg (fun _=>?_) fun e3=>absurd e3 (by simpa using e2);refine⟨(X.length+i+1,r),by dsimp only;rw[Go.Vc.wrap_small _ (by omega) (by omega)];rfl,⟨by dsimp only;omega,by dsimp only;omega,t3,fun i2 j2 a9 ap z E _=>?_,F2,I⟩,by dsimp only;omega⟩;dsimp only at z;have:i2=i:=by omega
      subst this;have:j2=j:=by omega
      subst this;exact BI e2
    ·have a0:k=r:=by omega
     subst a0;have ay:qc vR ((n:Int)-(k:Int))=((n-k:Nat):Int):=by rw[Go.Vc.wrap_small _ (by omega) (by omega)];omega
     rw[ay];obtain⟨p,hp⟩:∃p,k=X.length+p:=⟨k-X.length,by omega⟩
     obtain⟨q,hq⟩:∃q,n-k=X.length+L.length+q:=⟨n-k-(X.length+L.length),by omega⟩
     have ax:p<=L.length:=by omega
     have a7:q<=R.length:=by omega
     obtain⟨a5,a2⟩:=aak sL Z p q ax a7 (fun i j l hj z E=>F1 i j l hj (by omega) (by omega) (by
      by_cases a6:o<k
      ·exact a6
      ·exfalso;have:k=o:=by omega
       omega)) (fun i j l hj z E=>F2 i j l hj (by omega) (by omega) (by
      by_cases am:k<f
      ·exact am
      ·exfalso;have:k=f:=by omega
       omega))
     have eL:L.take p++L.drop p=L:=qD _ _;have S:R.take q++R.drop q=R:=qD _ _;have l1:(L.take p).length=p:=by simp;omega
     have l2:(L.drop p).length=L.length-p:=by simp
     have r1:(R.take q).length=q:=by simp;omega
     have r2:(R.drop q).length=R.length-q:=by simp
     have W:Sd ca (L.take p):=Sd.left (v:=L.drop p) (by rw[eL];exact sL);have U:Sd ca (L.drop p):=Sd.right (u:=L.take p) (by rw[eL];exact sL);have ab:Sd ca (R.take q):=Sd.left (v:=R.drop q) (by rw[S];exact Z);have V:Sd ca (R.drop q):=Sd.right (u:=R.take q) (by rw[S];exact Z);rw[hq,hp];refine cl (fun _ h'=>aa B h0 h' (cv s (X++(L.take p++(R.take q++(L.drop p++(R.drop q++Y)))))::As)) ?_ ?_
     ·have w:aa B h0 h1 (cv s ((X++L.take p)++(L.drop p++(R.take q++(R.drop q++Y))))::As):=by
       have:(X++L.take p)++(L.drop p++(R.take q++(R.drop q++Y)))=D:=by
        rw[hD]
        conv=>rhs;rw[<-eL,<-S]
        simp only[qo,zu,zV]
       rw[this];exact H1
      refine ak (fun z=>ak (fun E=>?_) fun E=>?_) fun z=>?_
      ·refine(Vm (X++L.take p) (L.drop p) (R.take q) (R.drop q++Y) _ _ _ (by omega) (by omega) (by simp;omega) (by simp;omega) (by simp;omega) (by simp;omega) w).mono ?_;rintro _ h2 ⟨rfl,I⟩;refine⟨(),rfl,?_⟩;rw[qo]at I;exact I
      ·have:R.take q=[]:=qW (by omega);rw[this]at w⊢;simpa using w
      ·have:L.drop p=[]:=qW (by omega);rw[this]at w⊢;simpa using w
     ·rintro _ h2 I;refine cl (fun _ h'=>∃g,Sd ca g/\cj ca (L.take p++R.take q) g/\g.length=p+q/\aa B h0 h' (cv s (X++(g++(L.drop p++(R.drop q++Y))))::As)) ?_ ?_
      ·have d:(L.take p=[]∨R.take q=[])->∃g,Sd ca g/\cj ca (L.take p++R.take q) g/\g.length=p+q/\aa B h0 h2 (cv s (X++(g++(L.drop p++(R.drop q++Y))))::As):=fun J=>by
        refine⟨L.take p++R.take q,?_,cj.refl _,by simp;omega,by rw[qo];exact I⟩;rcases J with A|A
        ·rw[A];exact ab
        ·rw[A,qP];exact W
       refine ak (fun z=>ak (fun E=>?_) fun E=>d (.inr (qW (by omega)))) fun z=>d (.inl (qW (by omega)));refine(ih X (L.take p) (R.take q) (L.drop p++(R.drop q++Y)) _ _ _ (by omega) (by omega) (by omega) rfl (by rw[l1]) (by rw[l1,r1];omega) (by simp;omega) W ab I).mono ?_;rintro _ h3 ⟨rfl,g,T,P,q3⟩;refine⟨(),rfl,g,T,P,?_,q3⟩;have O:=uJ dw P;rw[<-O];simp;omega
      ·rintro _ h3 ⟨g,m1,m2,m3,H3⟩;have fin:∀{h':Heap} {M2:List bu},Sd ca M2->cj ca (L.drop p++R.drop q) M2->aa B h0 h' (cv s (X++(g++(M2++Y)))::As)->(Value.tuple #[]=.tuple #[]/\∃M,Sd ca M/\cj ca (L++R) M/\aa B h0 h' (cv s (X++(M++Y))::As)):=fun{h' M2} k1 k2 k3=>by
        obtain⟨f1,f2⟩:=Zt dw (by rw[eL];exact sL) (by rw[S];exact Z) a5 a2 m2 m1 k2 k1;rw[eL,S]at f2;exact⟨rfl,g++M2,f1,f2,by rw[qo];exact k3⟩
       have d:(L.drop p=[]∨R.drop q=[])->(Value.tuple #[]=.tuple #[]/\∃M,Sd ca M/\cj ca (L++R) M/\aa B h0 h3 (cv s (X++(M++Y))::As)):=fun J=>by
        refine fin (M2:=L.drop p++R.drop q) ?_ (cj.refl _) (by rw[qo];exact H3);rcases J with A|A
        ·rw[A];exact V
        ·rw[A,qP];exact U
       refine ak (fun z=>ak (fun E=>?_) fun E=>d (.inr (qW (by omega)))) fun z=>d (.inl (qW (by omega)));have a3:aa B h0 h3 (cv s ((X++g)++(L.drop p++(R.drop q++Y)))::As):=by rw[qo];exact H3
       refine(ih (X++g) (L.drop p) (R.drop q) Y _ _ _ (by omega) (by omega) (by omega) (by simp;omega) (by simp;omega) (by simp;omega) (by simp;omega) U V a3).mono ?_;rintro _ h4 ⟨rfl,M2,k1,k2,k3⟩;refine⟨(),rfl,fin k1 k2 (by rw[qo]at k3;exact k3)⟩
end Go.Proofs.YtdhamoojccmbdaaGreatDoor
namespace Wl
open Go Go.Vc
def Bs(k:Nat)(l:List bu):Prop:=∀q,Sd ca ((l.drop (q*k)).take k)
theorem Bs.nil(k:Nat):Bs k []:=fun q=>by simp[Sd]
theorem Bs.first{k:Nat}{l:List bu}(h:Bs k l):Sd ca (l.take k):=by have:=h 0;simpa using this
theorem Bs.rest{k:Nat}{l:List bu}(h:Bs k l):Bs k (l.drop k):=fun q=>by
 have:=h (q+1);rw[zx,show k+q*k=(q+1)*k by rw[zI,Nat.add_comm]];exact this
theorem Bs.snoc{k t:Nat}{l M:List bu}(h:Bs k l)(c:l.length=t*k)(b:Sd ca M)(d:M.length<=k):Bs k (l++M):=fun q=>by
 rcases yd q t with hq|hq|hq
 ·have a:(q+1)*k<=t*k:=zG _ hq;rw[zI]at a;rw[List.drop_append_of_le_length (by omega),w9 (by rw[qY];omega)];exact h q
 ·subst hq;rw[<-c,List.drop_left,qi d];exact b
 ·have a:(t+1)*k<=q*k:=zG _ hq;rw[zI]at a;rw[q9 (by rw[qu];omega)];simp[Sd]
theorem Bs.whole{k:Nat}{l:List bu}(h:Bs k l)(a:l.length<=k):Sd ca l:=by
 have:=h.first;rw[qi a]at this;exact this
end Wl
namespace Go.Proofs.YtdhamoojccmbdaaGreatDoor
open Go Go.Vc Go.Proofs Wl
section
variable {B:aA} {h0 h h':Heap} {As:List HP} {s:Sl} {d:List bu}
theorem Vn(d:List bu)(n:Int)(Z:n=d.length)(hd:d.length<=2^30)(H:aa B h0 h (cv s d::As)):
  ac vV nu #[vM s.ptr s.len s.cap,vL vR n,.func (.func cU) #[] #[]] h fun v h'=>v=.tuple #[]/\aa B h0 h' (cv s (d.mergeSort ca)::As):=by
 subst Z;refine mS s d.length (cU,#[],#[]) ?_;unfold iW;refine av (fun P:List bu=>((P.length:Int),((P.length+20:Nat):Int))) (fun P h'=>P.length<=d.length/\(∃t,P.length=t*20)/\Bs 20 P/\cj ca (d.take P.length) P/\aa B h0 h' (cv s (P++d.drop P.length)::As)) (fun P=>d.length-P.length) [] rfl ⟨by simp,⟨0,by simp⟩,Bs.nil _,by simpa using cj.refl _,by simpa using H⟩ ?_;rintro P h1 ⟨hP,⟨t,N⟩,U,S,J⟩;dsimp only;refine ak (fun e=>?_) (fun e=>?_)
 ·have ao:P.length+20<=d.length:=by omega
  have eY:(d.drop P.length).take 20++d.drop (P.length+20)=d.drop P.length:=by
   rw[<-zx];exact qD _ _
  have T:((d.drop P.length).take 20).length=20:=by simp;omega
  rw[<-eY]at J;refine(CO P ((d.drop P.length).take 20) (d.drop (P.length+20)) _ _ rfl (by rw[T]) (by simp;omega) J).mono ?_;rintro _ h2 ⟨rfl,i,j,b,H2⟩;have w:i.length=20:=by rw[<-uJ dw b,T]
  have f:(P++i).length=P.length+20:=by rw[qu,w]
  refine⟨(),rfl,P++i,?_,⟨by omega,⟨t+1,by rw[f,N,zI]⟩,U.snoc N j (by omega),?_,?_⟩,by omega⟩
  ·rw[f,Go.Vc.wrap_small _ (by omega) (by omega)];congr 1
  ·rw[f];have:d.take (P.length+20)=d.take P.length++(d.drop P.length).take 20:=by rw[List.take_add]
   rw[this];exact S.app b
  ·rw[f,qo];exact H2
 ·have G:aa B h0 h1 (cv s (P++(d.drop P.length++[]))::As):=by rw[qP];exact J
  refine(CO P (d.drop P.length) [] _ _ rfl (by rw[qY];omega) (by simp;omega) G).mono ?_;rintro _ h3 ⟨rfl,i,j,b,W⟩;have w:i.length=d.length-P.length:=by rw[<-uJ dw b,qY]
  have E:Bs 20 (P++i):=U.snoc N j (by omega);have c:cj ca d (P++i):=by
   have:=S.app b;rw[qD]at this;exact this
  refine⟨(),rfl,?_⟩;refine av (fun t:Nat×List bu=>(t.1:Int)) (fun t h'=>0<t.1/\t.1<=2^32/\t.2.length=d.length/\Bs t.1 t.2/\cj ca d t.2/\aa B h0 h' (cv s t.2::As)) (fun t=>2^32-t.1) (20,P++i) rfl ⟨by dsimp only;omega,by dsimp only;omega,by dsimp only;rw[qu];omega,E,c,by rw[qP]at W;exact W⟩ ?_;rintro⟨k,l⟩ h4 ⟨ah,hk,hl,X,z,K⟩;dsimp only at*;refine ak (fun e2=>?_) (fun e2=>?_)
  ·have ab:k<d.length:=by omega
   have O:qc vR ((2:Int)*k)=((2*k:Nat):Int):=by rw[Go.Vc.wrap_small _ (by omega) (by omega)];omega
   have F:qc vR ((k:Int)*2)=((2*k:Nat):Int):=by rw[Go.Vc.wrap_small _ (by omega) (by omega)];omega
   rw[O];have next:∀{h':Heap} (q:List bu),q.length=d.length->Bs (2*k) q->cj ca l q->aa B h0 h' (cv s q::As)->∃g:Nat×List bu,qc vR ((k:Int)*2)=(g.1:Int)/\(0<g.1/\g.1<=2^32/\g.2.length=d.length/\Bs g.1 g.2/\cj ca d g.2/\aa B h0 h' (cv s g.2::As))/\2^32-g.1<2^32-k:=fun{h'} q q1 q2 q3 q4=>
    ⟨(2*k,q),F,⟨by dsimp only;omega,by dsimp only;omega,q1,q2,z.trans q3,q4⟩,by dsimp only;omega⟩
   refine av (fun t:List bu×List bu=>((t.1.length:Int),((t.1.length+2*k:Nat):Int))) (fun t h'=>(∃u,t.1.length=u*(2*k))/\t.1.length+t.2.length=d.length/\Bs (2*k) t.1/\Bs k t.2/\cj ca l (t.1++t.2)/\aa B h0 h' (cv s (t.1++t.2)::As)) (fun t=>t.2.length) ([],l) (by dsimp only;rw[yj,wk];rfl) ⟨⟨0,by simp⟩,by simpa using hl,Bs.nil _,X,by simpa using cj.refl _,by simpa using K⟩ ?_;rintro⟨P,Q⟩ V ⟨⟨u,D⟩,Y,m,a,c,I⟩;dsimp only at*;have L:qc vR ((P.length:Int)+k)=((P.length+k:Nat):Int):=by rw[Go.Vc.wrap_small _ (by omega) (by omega)];omega
   rw[L];have eQ:Q.take k++Q.drop k=Q:=qD _ _;refine ak (fun e3=>?_) (fun e3=>ak (fun e4=>?_) fun e4=>?_)
   ·have am:2*k<=Q.length:=by omega
    have y:Q.take k++((Q.drop k).take k++Q.drop (2*k))=Q:=by
     have:Q.drop (2*k)=(Q.drop k).drop k:=by rw[zx];congr 1;omega
     rw[this,qD,eQ]
    have l1:(Q.take k).length=k:=by simp;omega
    have l2:((Q.drop k).take k).length=k:=by simp;omega
    have p:aa B h0 V (cv s (P++(Q.take k++((Q.drop k).take k++Q.drop (2*k))))::As):=by rw[y];exact I
    refine(EV _ P (Q.take k) ((Q.drop k).take k) (Q.drop (2*k)) _ _ _ (by omega) (by omega) (ql _) rfl (by rw[l1]) (by rw[l1,l2];omega) (by simp;omega) a.first a.rest.first p).mono ?_;rintro _ h6 ⟨rfl,M,j,b,A⟩;have r:M.length=2*k:=by rw[<-uJ dw b,qu,l1,l2];omega
    have o:(P++M).length=P.length+2*k:=by rw[qu,r]
    refine⟨(),rfl,(P++M,Q.drop (2*k)),?_,⟨⟨u+1,by dsimp only;rw[o,D];exact(zI u (2*k)).symm⟩,by dsimp only;rw[o,qY];omega,m.snoc D j (by omega),?_,?_,?_⟩,by dsimp only;rw[qY];omega⟩
    ·dsimp only;rw[o,Go.Vc.wrap_small _ (by omega) (by omega)];congr 1
    ·dsimp only;have:Q.drop (2*k)=(Q.drop k).drop k:=by rw[zx];congr 1;omega
     rw[this];exact a.rest.rest
    ·dsimp only;refine c.trans ?_
     conv=>arg 2;rw[<-y]
     rw[qo];have:=(cj.refl (le:=ca) P).app (b.app (cj.refl (le:=ca) (Q.drop (2*k))));rw[qo]at this;exact this
    ·dsimp only;rw[qo];exact A
   ·have x:k<Q.length:=by omega
    have ad:Q.length<2*k:=by omega
    have l1:(Q.take k).length=k:=by simp;omega
    have l2:(Q.drop k).length=Q.length-k:=by simp
    have R:Sd ca (Q.drop k):=by
     have:=a.rest.first;rw[qi (by omega)]at this;exact this
    have p:aa B h0 V (cv s (P++(Q.take k++(Q.drop k++[])))::As):=by rw[qP,eQ];exact I
    refine(EV _ P (Q.take k) (Q.drop k) [] _ _ _ (by omega) (by omega) (ql _) rfl (by rw[l1]) (by rw[l1,l2];omega) (by simp;omega) a.first R p).mono ?_;rintro _ h6 ⟨rfl,M,j,b,A⟩;have r:M.length=Q.length:=by rw[<-uJ dw b,eQ]
    rw[eQ]at b;rw[qP]at A;exact⟨(),rfl,next (P++M) (by rw[qu];omega) (m.snoc D j (by omega)) (c.trans ((cj.refl _).app b)) A⟩
   ·have x:Q.length<=k:=by omega
    exact next (P++Q) (by rw[qu];omega) (m.snoc D (a.whole x) (by omega)) c I
  ·have hs:Sd ca l:=X.whole (by omega);rw[adD dw hs z]at K;exact⟨rfl,K⟩
theorem Mc(d:List bu)(a:d.length<=2^30)(H:aa B h0 h (cv s d::As)):
  ac vV jy #[vM s.ptr s.len s.cap,.func (.func cU) #[] #[]] h fun v h'=>v=.tuple #[]/\aa B h0 h' (cv s (d.mergeSort ca)::As):=by
 refine jt s (cU,#[],#[]) ?_;unfold fC;refine(Vn d _ (by rw[(H.own 0 rfl).len]) a H).mono ?_;rintro _ c ⟨rfl,b⟩;exact⟨(),rfl,rfl,b⟩
def jr:bu:=(0,0,0,0,0,0,0,⟨none,0,0⟩)
end
end Go.Proofs.YtdhamoojccmbdaaGreatDoor
namespace Wl
open Go Go.Vc Go.Proofs.YtdhamoojccmbdaaGreatDoor
def jN(l:List bu)(k:Nat):Bool:=decide (k=0)||decide (kZ (l.getD k jr) (l.getD (k-1) jr)≠0)
def jO(l:List bu)(k:Nat):List bu:=((qC k).filter (jN l)).map fun i=>l.getD i jr
def cpt(l:List bu):List bu:=jO l l.length
theorem mX(l:List bu)(k:Nat):jO l (k+1)=jO l k++if jN l k then[l.getD k jr]else[]:=by
 unfold jO;rw[zF,zh,qQ,zm,yO];split<;>rfl
end Wl
namespace Go.Proofs.YtdhamoojccmbdaaGreatDoor
open Go Go.Vc Go.Proofs Wl
section
variable {B:aA} {h0 h h':Heap} {As:List HP} {s:Sl} {d:List bu}
theorem Md(a b:bu)(h:Heap):ac vV nl #[recv a,recv b] h fun v h'=>v=vP (decide (kZ a b=0))/\Sp h h' []:=by
 refine GI a b ?_;unfold xo;refine(Sp.refl h).boxed fun f j g=>g.boxed fun i d c=>?_;have c:Sp h d [au f aZ (bD a),au i aZ (bD b)]:=c;refine⟨a,(c.box 0 rfl).aQ _ rfl,b,(c.box 1 rfl).aQ _ rfl,(pK a b d).mono ?_⟩;rintro _ h3 ⟨rfl,e⟩;refine⟨_,rfl,?_,.zip (aa.up c e.ai).ai⟩;congr 1
theorem Kf(l:List bu)(hd:l.length<=2^30)(H:aa B h0 h (cv s l::As)):
  ac vV kg #[vM s.ptr s.len s.cap,.func (.func nl) #[] #[]] h fun v h'=>∃r:Sl,v=vM r.ptr r.len r.cap/\aa B h0 h' (cv r (cpt l)::As):=by
 refine jZ s (nl,#[],#[]) ?_;unfold fX;have am:=(H.own 0 rfl).len;have E:=(H.own 0 rfl).cap;have m:(∀j,j<l.length->jN l j=true)->cpt l=l:=fun y=>by
  have:∀k,k<=l.length->jO l k=l.take k:=fun k=>by
   induction k with
   |zero=>simp[jO]
   |succ k ih=>
    intro R;rw[mX,ih (by omega),if_pos (y k (by omega)),aH l k (by omega),getD_lt (show k<l.length by omega)]
  unfold cpt;rw[this _ (ql _),qR]
 refine ak (fun e=>⟨s,rfl,?_⟩) (fun e=>?_)
 ·rw[m fun j n=>by unfold jN;rw[decide_eq_true (show j=0 by omega)];rfl];exact H
 refine av (fun i:Nat=>(i:Int)) (fun i h'=>1<=i/\i<=l.length/\(∀j,j<i->jN l j=true)/\aa B h0 h' (cv s l::As)) (fun i=>l.length-i) 1 rfl ⟨by omega,by omega,fun j n=>by unfold jN;rw[decide_eq_true (show j=0 by omega)];rfl,H⟩ ?_;rintro i h1 ⟨ah,hi,y,I⟩;refine ak (fun Q=>?_) (fun Q=>?_)
 ·have F:i<l.length:=by
   have e':(i:Int)<(s.len:Int):=Q;omega
  have ei:qc vR ((i:Int)-1)=((i-1:Nat):Int):=by rw[Go.Vc.wrap_small _ (by omega) (by omega)];omega
  rw[ei];refine jB I i rfl (x:=l.getD i jr) (by rw[getD_lt F,qd F]) (jB I (i-1) rfl (x:=l.getD (i-1) jr) (by rw[getD_lt (show i-1<l.length by omega),qd]) (eU (by rfl) ?_));refine(Md _ _ h1).mono ?_;rintro _ h2 ⟨rfl,R2⟩;have V:=I.up R2.ai;refine⟨_,rfl,trivial,bA (fun e2=>?_) (fun e2=>?_)⟩
  ·have o:jN l i=false:=by
    unfold jN;rw[decide_eq_false (show¬i=0 by omega)];simpa using e2
   have q:jO l i=l.take i:=by
    have:∀k,k<=i->jO l k=l.take k:=fun k=>by
     induction k with
     |zero=>simp[jO]
     |succ k ih=>
      intro R;rw[mX,ih (by omega),if_pos (y k (by omega)),aH l k (by omega),getD_lt (show k<l.length by omega)]
    exact this i (ql _)
   refine⟨⟨by omega,by omega⟩,?_⟩;rw[qp];refine av (fun t:Nat×List bu=>(((jO l (i+t.1)).length:Int),(t.1:Int))) (fun t h'=>1<=t.1/\i+t.1<=l.length/\t.2.length=l.length/\(jO l (i+t.1)).length+1<=i+t.1/\t.2.take (jO l (i+t.1)).length=jO l (i+t.1)/\(∀j,i+t.1-1<=j->t.2[j]?=l[j]?)/\aa B h0 h' (cv s t.2::As)) (fun t=>l.length-t.1) (1,l) ?_ ⟨by simp,by dsimp only;omega,rfl,?_,?_,fun _ _=>rfl,V⟩ ?_
   ·dsimp only;rw[mX,o,q];simp;omega
   ·dsimp only;rw[mX,o,q];simp;omega
   ·dsimp only;rw[mX,o,q];simp
   rintro⟨k,D⟩ h3 ⟨ab,ad,w,N,d,p,J⟩;dsimp only at*;obtain⟨c,T⟩:∃c,c=(jO l (i+k)).length:=⟨_,rfl⟩
   rw[<-T]at N d⊢;have ao:=(J.own 0 rfl).len;have z:=(J.seq 0 rfl fun _=>rfl).drop i E;refine ak (fun e3=>?_) (fun e3=>?_)
   ·have M:i+k<l.length:=by omega
    have ek:qc vR ((k:Int)-1)=((k-1:Nat):Int):=by rw[Go.Vc.wrap_small _ (by omega) (by omega)];omega
    rw[ek];have X:∀j,k-1<=j->(n:i+j<l.length)->(D.drop i)[j]?=some (l.getD (i+j) jr):=fun j n A=>by
     rw[wq,p _ (by omega),getD_lt A,qd A]
    have gk:=X k (by omega) M;have S:=X (k-1) (by omega) (by omega);obtain⟨W,Y⟩:=qm.1 gk;obtain⟨q1,q2⟩:=qm.1 S;refine Seq.dD (f:=bD) (g:=bD) z k rfl W (l.getD (i+k) jr) (by rw[Y]) ?_;refine Seq.dD (f:=bD) (g:=bD) z (k-1) rfl q1 (l.getD (i+(k-1)) jr) (by rw[q2]) (eU (by rfl) ?_);refine(Md _ _ h3).mono ?_;rintro _ h4 ⟨rfl,R4⟩;have P:=J.up R4.ai;have u:jN l (i+k)=!decide (kZ (l.getD (i+k) jr) (l.getD (i+(k-1)) jr)=0):=by
     unfold jN;rw[decide_eq_false (show¬i+k=0 by omega),show i+k-1=i+(k-1)by omega];simp
    have b:=mX l (i+k);rw[u]at b;refine⟨_,rfl,trivial,bg (fun O=>?_) (fun O=>?_)⟩
    ·rw[O]at b;have a:(jO l (i+(k+1))).length=c+1:=by rw[<-yn,b];simp[T]
     have G:=(P.seq 0 rfl fun _=>rfl).drop i E;refine Seq.dD (f:=bD) (g:=bD) G k rfl W (l.getD (i+k) jr) (by rw[Y]) ?_;refine P.set ae 0 rfl (fun _=>rfl) rfl c rfl (by omega) (l.getD (i+k) jr) rfl rfl rfl fun h5 H5=>?_;refine⟨(k+1,D.set c (l.getD (i+k) jr)),?_,⟨by dsimp only;omega,by dsimp only;omega,by dsimp only;rw[zE];exact w,by dsimp only;rw[a];omega,?_,fun j n=>?_,H5⟩,by dsimp only;omega⟩
     ·dsimp only;rw[a,Go.Vc.wrap_small _ (by omega) (by omega),Go.Vc.wrap_small _ (by omega) (by omega)];rfl
     ·dsimp only;rw[a,aH _ c (by rw[zE];omega),vp,List.take_set_of_le (ql _),d,<-yn,b];simp
     ·dsimp only at n⊢;rw[z6 (by omega)];exact p j (by omega)
    ·rw[O]at b;have a:(jO l (i+(k+1))).length=c:=by rw[<-yn,b];simp[T]
     refine⟨(k+1,D),?_,⟨by dsimp only;omega,by dsimp only;omega,w,by dsimp only;rw[a];omega,?_,fun j n=>p j (by dsimp only at n;omega),P⟩,by dsimp only;omega⟩
     ·dsimp only;rw[a,Go.Vc.wrap_small _ (by omega) (by omega)];rfl
     ·dsimp only;rw[a,d,<-yn,b];simp
   ·have K:i+k=l.length:=by omega
    refine⟨⟨by omega,by omega⟩,?_⟩;rw[qp];refine J.ou ae 0 rfl afE (fun _=>rfl) rfl (by decide) c (by omega) fun h6 Z=>⟨⟨by omega,by omega⟩,⟨s.ptr,c,s.cap⟩,rfl,?_⟩
    rw[d,K]at Z;exact Z
  ·refine⟨i+1,by rw[Go.Vc.wrap_small _ (by omega) (by omega)];rfl,⟨by omega,by omega,fun j n=>?_,V⟩,by omega⟩;by_cases U:j=i
   ·subst U;unfold jN;rw[decide_eq_true (show kZ (l.getD j jr) (l.getD (j-1) jr)≠0 by simpa using e2)];simp
   ·exact y j (by omega)
 ·have L:i=l.length:=by
   have e':¬(i:Int)<(s.len:Int):=Q;omega
  subst L;rw[m y];exact⟨s,rfl,I⟩
end
def fieldsOf(d:Option TypeDesc):List (Bool×TypeId×Nat):=match d with|some (.struct fs)=>fs.toList.map (fun f=>(f.name== "_",f.type,f.offset))|_=>[]
theorem aam:fieldsOf (Tryz.prog.underlying aT)=[(false,3,0),(false,3,1),(false,3,2)]:=by kernel_rfl
theorem acu:Tryz.prog.stoodInHeld aT=false:=by kernel_rfl
theorem acv:Tryz.prog.eqGuardType Tryz.prog.depth aT=false:=by kernel_rfl
theorem Tf{P:Program}{t:TypeId}{a b c:TypeId×Nat}(h:fieldsOf (P.underlying t)=[(false,a.1,a.2),(false,b.1,b.2),(false,c.1,c.2)]):
  ∃f g e:Field,P.underlying t=some (.struct #[f,g,e])/\(f.name≠ "_" /\f.type=a.1/\f.offset=a.2)/\(g.name≠ "_" /\g.type=b.1/\g.offset=b.2)/\(e.name≠ "_" /\e.type=c.1/\e.offset=c.2):=by
 cases hu:P.underlying t with
 |none=>rw[hu]at h;cases h
 |some d=>
  rw[hu]at h;cases d with
  |struct fs=>
   simp only[fieldsOf]at h;obtain⟨l⟩:=fs;have i:l.length=3:=by simpa using congrArg vg h
   obtain⟨f,r,rfl⟩:=yf i;obtain⟨g,k,rfl⟩:=yf (by simpa using i:r.length=1+1);obtain⟨e,j,rfl⟩:=yf (by simpa using i:k.length=0+1);obtain rfl:j=[]:=by simpa using i
   simp at h;exact⟨f,g,e,rfl,⟨h.1.1,h.1.2.1,h.1.2.2⟩,⟨h.2.1.1,h.2.1.2.1,h.2.1.2.2⟩,⟨h.2.2.1,h.2.2.2.1,h.2.2.2.2⟩⟩
  |_=>cases h
theorem iO{P:Program}{d:Nat}{t:TypeId}{k:IntKind}(h:∃c,P.underlying t=some (.int c))(a b:Int):aI P (Op.equalIn (d+1) t (.int k a) (.int k b)) (a==b):=by
 obtain⟨c,h⟩:=h;unfold Op.equalIn;refine(aN h).bind ?_;simp only[if_true];exact .pure
theorem lH{P:Program}{t:TypeId}{k:IntKind}(h:P.underlying t=some (.int k)){a:Array Value}{i:Nat}{v:Value}(b:a[i]?=some v):aI P (part t a i) v:=by
 unfold part isAgg;refine aI.bind (v:=false) ((aN h).bind .pure) ?_;simp only[zd,if_false,b];exact .pure
theorem agw(p q:Pm):aI vV (Op.equal aT (vQ #[vL vR p.1,vL vR p.2.1,vL vR p.2.2]) (vQ #[vL vR q.1,vL vR q.2.1,vL vR q.2.2])) (decide (p=q)):=by
 obtain⟨f,g,u,B,⟨H,E,D⟩,⟨I,G,F⟩,⟨z,y,u3⟩⟩:=Tf (a:=(3,0)) (b:=(3,1)) (c:=(3,2)) aam;have A:∃k,Tryz.prog.underlying 3=some (.int k):=⟨.i64,by kernel_rfl⟩
 obtain⟨k,d⟩:=A;unfold Op.equal;rw[show Op.maxDepth=9998+1+1 from rfl,Op.equalIn];refine(aN B).bind ?_;refine aI.bind (v:=vV) (fun w=>rfl) ?_;simp only[acu,zd,if_false,List.forIn_toArray,List.forIn_cons,List.forIn_nil,ne_eq,H,I,z,not_false_eq_true,if_true,E,D,G,F,y,u3];obtain⟨a,b,c⟩:=p;obtain⟨h,i,j⟩:=q;dsimp only;have n:aI vV (part 3 #[Value.int vR a,Value.int vR b,Value.int vR c] 0) _:=lH d rfl;have o:aI vV (part 3 #[Value.int vR h,Value.int vR i,Value.int vR j] 0) _:=lH d rfl;have r:aI vV (part 3 #[Value.int vR a,Value.int vR b,Value.int vR c] 1) _:=lH d rfl;have s:aI vV (part 3 #[Value.int vR h,Value.int vR i,Value.int vR j] 1) _:=lH d rfl;have t:aI vV (part 3 #[Value.int vR a,Value.int vR b,Value.int vR c] 2) _:=lH d rfl;have x:aI vV (part 3 #[Value.int vR h,Value.int vR i,Value.int vR j] 2) _:=lH d rfl;by_cases l:a=h
 ·by_cases m:b=i
  ·by_cases h3:c=j
   ·have e:decide ((a,b,c)=(h,i,j))=true:=by simp[l,m,h3]
    rw[e];refine aI.bind (v:=(none,())) (aI.bind (v:=ForInStep.yield (none,())) (n.bind (o.bind ((iO ⟨k,d⟩ a h).bind ?_))) (aI.bind (v:=ForInStep.yield (none,())) (r.bind (s.bind ((iO ⟨k,d⟩ b i).bind ?_))) (aI.bind (v:=ForInStep.yield (none,())) (t.bind (x.bind ((iO ⟨k,d⟩ c j).bind ?_))) .pure))) .pure
    ·simp only[l,beq_self_eq_true,wS,zd,if_false];exact .pure
    ·simp only[m,beq_self_eq_true,wS,zd,if_false];exact .pure
    ·simp only[h3,beq_self_eq_true,wS,zd,if_false];exact .pure
   ·have e:decide ((a,b,c)=(h,i,j))=false:=by simp[h3]
    rw[e];refine aI.bind (v:=(some false,())) (aI.bind (v:=ForInStep.yield (none,())) (n.bind (o.bind ((iO ⟨k,d⟩ a h).bind ?_))) (aI.bind (v:=ForInStep.yield (none,())) (r.bind (s.bind ((iO ⟨k,d⟩ b i).bind ?_))) (aI.bind (v:=ForInStep.done (some false,())) (t.bind (x.bind ((iO ⟨k,d⟩ c j).bind ?_))) .pure))) .pure
    ·simp only[l,beq_self_eq_true,wS,zd,if_false];exact .pure
    ·simp only[m,beq_self_eq_true,wS,zd,if_false];exact .pure
    ·rw[show(c==j)=false by simpa using h3];simp only[wU,if_true];exact .pure
  ·have e:decide ((a,b,c)=(h,i,j))=false:=by simp[m]
   rw[e];refine aI.bind (v:=(some false,())) (aI.bind (v:=ForInStep.yield (none,())) (n.bind (o.bind ((iO ⟨k,d⟩ a h).bind ?_))) (aI.bind (v:=ForInStep.done (some false,())) (r.bind (s.bind ((iO ⟨k,d⟩ b i).bind ?_))) .pure)) .pure
   ·simp only[l,beq_self_eq_true,wS,zd,if_false];exact .pure
   ·rw[show(b==i)=false by simpa using m];simp only[wU,if_true];exact .pure
 ·have e:decide ((a,b,c)=(h,i,j))=false:=by simp[l]
  rw[e];refine aI.bind (v:=(some false,())) (aI.bind (v:=ForInStep.done (some false,())) (n.bind (o.bind ((iO ⟨k,d⟩ a h).bind ?_))) .pure) .pure;rw[show(a==h)=false by simpa using l];simp only[wU,if_true];exact .pure
theorem aan(x y:Operand)(p q:Pm):jC vV .neq aT x y (vQ #[vL vR p.1,vL vR p.2.1,vL vR p.2.2]) (vQ #[vL vR q.1,vL vR q.2.1,vL vR q.2.2]) (vP (!decide (p=q))):=by
 unfold jC eqGuard;refine aI.bind (v:=()) ?_ ?_
 ·simp only[wS,zd,if_false];refine aI.bind (v:=vV) (fun w=>rfl) ?_;refine aI.bind (v:=vV) (fun w=>rfl) ?_;simp only[acv,wU,if_true];exact .pure
 ·exact(agw p q).bind .pure
end Go.Proofs.YtdhamoojccmbdaaGreatDoor
namespace Wl
def XX(P:bW->Bool)(l:List bW)(i:Int):Prop:=(i=-1/\l.any P=false)∨∃n:Nat,∃h:n<l.length,i=n/\P l[n]=true/\(l.take n).any P=false
theorem Tg{P:bW->Bool}{l:List bW}{i:Int}(h:XX P l i):decide (i>=0)=l.any P:=by
 rcases h with⟨rfl,h⟩|⟨n,hn,rfl,h,_⟩
 ·rw[h];rfl
 ·rw[wR.2 ⟨_,qg hn,h⟩];exact decide_eq_true (by omega)
end Wl
namespace Go.Proofs.YtdhamoojccmbdaaGreatDoor
open Go Go.Vc Go.Proofs Wl
theorem Jf(f:FuncId)(pre post:Array Value)(P:Wl.bW->Bool)(l:Sl)(a:List Wl.bW)(h:Heap)(r:C.fns[f]?=some true)(o:fA uP h l a)(A:a.length<=2^30)
  (z:∀(u:dV) (E:Wl.bW) (h':Heap),Sp h h' []->fA nQ h' u E->E∈a->ac vV f (pre.toList++[Value.agg #[vO u.1,vL vR u.2.1,vL vR u.2.2.1,vM u.2.2.2.ptr u.2.2.2.len u.2.2.2.cap]]++post.toList).toArray h' fun v j=>v=vP (P E)/\Sp h' j []):
  ac vV lu #[vM l.ptr l.len l.cap,.func (.func f) pre post] h fun v h'=>(∃i:Int,v=vL vR i/\XX P a i)/\Sp h h' []:=by
 refine gw l (f,pre,post) ?_;unfold eT;obtain⟨e,x,F,w⟩:=cm.oW o;have s:=cm.len o;refine av (fun i:Nat=>(i:Int)) (fun i h'=>i<=a.length/\(a.take i).any P=false/\Sp h h' []) (fun i=>a.length-i) 0 rfl ⟨by omega,by simp,Sp.refl h⟩ ?_;rintro i n ⟨B,b,d⟩;refine ak (fun k=>?_) (fun k=>?_)
 ·have c:i<a.length:=by
   have y:(i:Int)<(l.len:Int):=k;omega
  have q:fA nQ n (e[i]'(by omega)) a[i]:=nQ.mono (nQ.loc (w i (by omega) c) d.ai) fun _ t=>qV t d.ai.1;refine(Seq.up x d.ai).dD (g:=bH) i rfl (by omega) (e[i]'(by omega)) rfl (eU r ?_);refine(z (e[i]'(by omega)) a[i] n d q (qg c)).mono ?_;rintro _ D ⟨rfl,p⟩;have m:=d.up p.ai;refine⟨_,rfl,bA (fun e2=>⟨⟨i,rfl,.inr ⟨i,c,rfl,e2,b⟩⟩,m⟩) (fun e2=>?_)⟩;refine⟨i+1,by rw[Go.Vc.wrap_small _ (by omega) (by omega)];rfl,⟨by omega,?_,m⟩,by omega⟩;rw[aH _ _ c,yP,b,List.any_cons,List.any_nil,e2];rfl
 ·have y:¬(i:Int)<(l.len:Int):=k;rw[qi (by omega)]at b;exact⟨⟨-1,rfl,.inl ⟨rfl,b⟩⟩,d⟩
theorem Oh(f:FuncId)(pre post:Array Value)(P:Wl.bW->Bool)(l:Sl)(a:List Wl.bW)(h:Heap)(e:C.fns[f]?=some true)(k:fA uP h l a)(c:a.length<=2^30)
  (j:∀(u:dV) (E:Wl.bW) (h':Heap),Sp h h' []->fA nQ h' u E->E∈a->ac vV f (pre.toList++[Value.agg #[vO u.1,vL vR u.2.1,vL vR u.2.2.1,vM u.2.2.2.ptr u.2.2.2.len u.2.2.2.cap]]++post.toList).toArray h' fun v b=>v=vP (P E)/\Sp h' b []):
  ac vV fW #[vM l.ptr l.len l.cap,.func (.func f) pre post] h fun v h'=>v=vP (a.any P)/\Sp h h' []:=by
 refine fN l (f,pre,post) ?_;unfold dT;refine(Jf f pre post P l a h e k c j).mono ?_;rintro _ m ⟨⟨i,rfl,d⟩,g⟩;exact⟨i,rfl,by rw[Tg d],g⟩
theorem uA(o b t:Int)(h:Heap):ac vV Sq #[vL vR o,vL vR b,vL vR t] h fun v h'=>v=vL vT (cK o b t)/\h'=h:=by
 refine PW o b t ?_;unfold IQ;refine⟨?_,rfl⟩;have:qc vT ((qc vT ((qc vT ((128:Int)*(qc vT o)))+(qc vT ((16:Int)*(qc vT b)))))+(qc vT t))=cK o b t:=by
  unfold cK qc;simp[qk,yI];omega
 rw[this]
theorem Vo(x:cg)(m:aG)(y:bu)(r:dj)(h:Heap)(q:eG h x m)(W:db m)(L:fA eI h y r):
  ac vV NK #[ft x,recv y] h fun v h'=>v=vP (dH m r)/\Sp h h' []:=by
 refine Lt x y ?_;unfold EK;refine(Sp.refl h).boxed fun N h1 H1=>H1.boxed fun d M i=>?_;have i:Sp h M [au N aB (aV x),au d aZ (bD y)]:=i;obtain⟨⟨e1,e2,e3,t,e5,e7,e8⟩,e6⟩:=id L;have H:x.2.2.1=m.p.1:=congrArg (·.1) q.p;have s:x.2.2.2.1=m.p.2.1:=congrArg (·.2.1) q.p;have z:x.2.2.2.2.1=m.p.2.2:=congrArg (·.2.2) q.p;have A:y.2.2.2.1=r.p.1:=congrArg (·.1) t;have I:y.2.2.2.2.1=r.p.2.1:=congrArg (·.2.1) t;have D:y.2.2.2.2.2.1=r.p.2.2:=congrArg (·.2.2) t;have ab:=W.ob;refine ba ⟨y,(i.box 1 rfl).aQ _ rfl,(Jc y r M (eI.mono (eI.loc L i.ai) fun _ hb=>qV hb i.ai.1)).mono ?_⟩;rintro _ h3 ⟨rfl,R3⟩;have e:Sp h h3 [au N aB (aV x),au d aZ (bD y)]:=i.up R3.ai;have T:=e.box 0 rfl;have w:=e.box 1 rfl;refine⟨_,rfl,bg (fun g=>⟨by unfold dH;rw[g];rfl,.zip e.ai⟩) fun g=>?_⟩;obtain⟨_,g2,_⟩:=(jV r).1 g;refine⟨r.p,by rw[<-A,<-I,<-D];exact w.AK 3 rfl rfl rfl,m.p,by rw[<-H,<-s,<-z];exact T.AK 2 rfl rfl rfl,_,aan _ _ r.p m.p,bg (fun G=>⟨?_,.zip e.ai⟩) fun G=>?_⟩
 ·unfold dH;rw[g,G];rfl
 obtain⟨P,R⟩:∃P:Wl.bW->Bool,P=fun x=>decide (x.object=r.object)&&(decide (r.block<(x.tries.length:Int))&&decide (r.seed=cK r.object r.block (x.tries.getD r.block.toNat 0))):=⟨_,rfl⟩
 have F:dH m r=m.objs.any P:=by unfold dH;rw[g,G,R];rfl
 refine⟨x.2.2.2.2.2.2.2,T.cell rfl,?_⟩;refine(Oh JS #[] #[vN (some d)] P x.2.2.2.2.2.2.2 m.objs h3 (by rfl) (q.up e.ai).objs (by omega) fun u E O Y X _=>?_).mono ?_
 ·obtain⟨⟨y1,Z,y3⟩,K⟩:=X;have V:=Seq.len K;have k:=w.ai Y.ai w.lt;refine Ix u d ?_;unfold AI;refine(Sp.refl O).boxed fun a5 b a=>?_;have a:Sp O b [au a5 aX (bH u)]:=a;have J:=a.box 0 rfl;have c:=k.ai a.ai k.lt;have o:cellOf b (a5.add 1)=some (vL vR E.object):=by rw[<-Z];exact J.cell rfl
  have n:cellOf b (a5.add 3)=some (vM u.2.2.2.ptr u.2.2.2.len u.2.2.2.cap):=J.cell rfl;have l:cellOf b d=some (vL vR r.object):=by rw[<-e1];exact c.cell0 rfl
  have j:cellOf b (d.add 1)=some (vL vR r.block):=by rw[<-e2];exact c.cell rfl
  have Q:cellOf b (d.add 6)=some (vL vT r.seed):=by rw[<-e5];exact c.cell rfl
  rw[R];refine⟨E.object,o,r.object,l,cx (fun B=>?_) fun B=>⟨⟨l,o,trivial⟩,?_,.zip a.ai⟩⟩
  ·refine⟨u.2.2.2,n,r.block,j,ak (fun q2=>?_) fun q2=>⟨⟨j,n,l,o,trivial⟩,?_,.zip a.ai⟩⟩
   ·have S:r.block.toNat<E.tries.length:=by omega
    refine⟨r.seed,Q,r.object,l,r.block,j,u.2.2.2,n,r.block,j,?_⟩;refine Seq.bv (f:=aE) (Seq.up K a.ai) r.block.toNat (by omega) S (E.tries.getD r.block.toNat 0) (by rw[getD_lt S];rfl) ?_;refine(uA _ _ _ b).mono ?_;rintro _ _ ⟨rfl,rfl⟩;refine⟨_,rfl,⟨j,n,Q,j,n,l,o,trivial⟩,?_,.zip a.ai⟩;dsimp only;rw[decide_eq_true B,decide_eq_true (show r.block<(E.tries.length:Int)by omega),zS,zS];congr 1
   ·dsimp only;rw[decide_eq_false (show¬r.block<(E.tries.length:Int)by omega)];simp
  ·dsimp only;rw[decide_eq_false B];rfl
 ·rintro _ b ⟨rfl,U⟩;exact⟨_,rfl,by rw[F],.zip (aa.up e U.ai).ai⟩
section
variable {α:Type}
def nT(k:Nat)(f:α->List Value):iC Sl (List α):=⟨fun h q s l=>Seq h q s k f l/\s.len<=s.cap,fun a c=>⟨a.1.ai c,a.2⟩,fun a b=>⟨a.1.mono b,a.2⟩⟩
theorem aa.adL{B:aA}{d h:Heap}{As:List HP}{e a k:Nat}{s:Sl}{f:α->List Value}{b:List (List α)}(H:aa B d h (lP e s a k f b::As))(t:∀x,(f x).length=k):∃rs,aa B d h (cH (nT k f) 1 bI s rs b::As):=by
 obtain⟨rs,H⟩:=H.HT;obtain⟨H,n⟩:=H.Jr;refine⟨rs,H.gf 0 rfl fun q j=>⟨?_,n,fun i r l m c=>?_⟩⟩
 ·have:=HP.CN (i:=0) j rfl;exact this.1.seq (fun _=>rfl) this.2
 ·have g:i<b.length:=(qm.1 c).1;have o:=jU (e:=a) (k:=k) (f:=f) n i g;have:=HP.CN (i:=i+1) j (by simpa using o);have p:rs[i]'(by omega)=r:=by rw[qd (by omega)]at m;simpa using m
  have a:b[i]=l:=by rw[qd g]at c;simpa using c
  rw[p,a]at this;exact⟨this.1.seq t this.2,this.1.cap⟩
end
def si(T:List (bu×dj)):HP:=⟨fun h q=>∀t∈T,eI.p h q t.1 t.2,fun a d t b=>eI.loc (a t b) d,fun a c t b=>eI.mono (a t b) c⟩
end Go.Proofs.YtdhamoojccmbdaaGreatDoor
namespace Wl
open Go Go.Vc Go.Proofs.YtdhamoojccmbdaaGreatDoor
def Keyed(T:List (bu×dj)):Prop:=∀t∈T,t.1.1=t.2.object/\t.1.2.1=t.2.block/\t.1.2.2.1=t.2.id
def Po(a b:bu×dj):Bool:=Zu a.2 b.2
theorem acw{T:List (bu×dj)}(k:Keyed T):∀a∈T,∀b∈T,Po a b=ca a.1 b.1:=fun a g b e=>by
 obtain⟨f,c,a3⟩:=k a g;obtain⟨d,h,i⟩:=k b e;unfold Po Zu ca;rw[decide_eq_decide,CM,f,c,a3,d,h,i]
theorem XY{T:List (bu×dj)}(k:Keyed T):(T.mergeSort Po).map qK=(T.map qK).mergeSort ca/\(T.mergeSort Po).map zA=(T.map zA).mergeSort Zu/\Keyed (T.mergeSort Po):=
 ⟨vf (acw k),vf fun a _ b _=>rfl,fun t c=>k t (yt.1 c)⟩
def Me:bu×dj:=(jr,KN)
def DW(T:List (bu×dj)):List (bu×dj):=((qC T.length).filter (uj (T.map zA))).map fun i=>T.getD i Me
theorem getD_map{α β:Type}(f:α->β)(l:List α)(i:Nat)(d:α):(l.map f).getD i (f d)=f (l.getD i d):=by
 rw[qe,qe,qN];cases l[i]?<;>rfl
theorem aao{T:List (bu×dj)}(k:Keyed T):(DW T).map qK=cpt (T.map qK)/\(DW T).map zA=vZ (T.map zA)/\∀t∈DW T,t∈T:=by
 have n:∀i,i<T.length->jN (T.map qK) i=uj (T.map zA) i:=fun i a=>by
  unfold jN uj;have g:∀j,j<T.length->(T.map qK).getD j jr=(T[j]?.getD Me).1/\(T.map zA).getD j KN=(T[j]?.getD Me).2:=fun j o=>by
   rw[qe,qe,qN,qN,qd o];exact⟨rfl,rfl⟩
  by_cases h0:i=0
  ·rw[decide_eq_true h0];rfl
  ·rw[decide_eq_false h0,vx,vx,(g i a).1,(g i a).2,(g (i-1) (by omega)).1,(g (i-1) (by omega)).2];rw[qd a,qd (show i-1<T.length by omega)];obtain⟨l,p,a3⟩:=k _ (qg a);obtain⟨q,m,e⟩:=k _ (qg (show i-1<T.length by omega));unfold Dq;simp only[Option.getD_some];have c:=aai T[i].1 (T[i-1]'(by omega)).1;rw[l,p,a3,q,m,e]at c;by_cases b:kZ T[i].1 (T[i-1]'(by omega)).1=0
   ·rw[decide_eq_false (fun h=>h b),decide_eq_true (c.1 b)];rfl
   ·rw[decide_eq_true b,decide_eq_false (fun r=>b (c.2 r))];rfl
 have f:(qC T.length).filter (jN (T.map qK))=(qC T.length).filter (uj (T.map zA)):=List.filter_congr fun i a=>n i (qH.1 a);refine⟨?_,?_,fun t d=>?_⟩
 ·unfold DW cpt jO;rw[qw,f,wK];congr 1;funext i;exact(getD_map qK T i Me).symm
 ·unfold DW vZ;rw[qw,wK];congr 1;funext i;exact(getD_map zA T i Me).symm
 ·unfold DW at d;obtain⟨i,a,rfl⟩:=qx.1 d;have:=qH.1 (qI.1 a).1;rw[getD_lt this];exact qg this
end Wl
namespace Go.Proofs.YtdhamoojccmbdaaGreatDoor
open Go Go.Vc Go.Proofs Wl
theorem Qz(a pw:Addr)(d:bE)(s b:Sl)(x:cg)(m:aG)(h:Heap)(H:cw h a cC (gJ pw d s b))(hl:gg h s 1 aC d.l)(ok:gc d)(hx:eG h x m)(hz:db m):
  ac vV AD #[vN (some a),ft x] h fun v h'=>∃(r:Sl) (T:List (bu×dj)),v=vM r.ptr r.len r.cap/\T.map zA=kR m d.l/\Keyed T/\Sp h h' [cv r (T.map qK),si T]:=by
 refine JI (some a) x ?_;unfold Cl;have ab:=ok.len;have W:=ok.room;refine(Sp.refl h).boxed fun p h1 J=>?_;have J:Sp h h1 [au p aB (aV x)]:=J;refine(SY s b (H.ai J.ai H.lt) (hl.up J.ai) ok).mono ?_;rintro _ h2 ⟨B,rfl,R2⟩;have M:=J.cY R2;obtain⟨rs,M⟩:=aa.adL M fun _=>rfl;refine⟨B,rfl,?_⟩;have F2:=M.eJ 0 rfl;have ao:=F2.1.len;have am:=F2.2.1;have E:Sp h h2 [cv ⟨none,0,0⟩ [],si [],cH (nT 1 aC) 1 bI B rs d.l,au p aB (aV x)]:=
  ((M.comp (.one (A:=si []) (aU.refl _ _) (fun t f=>(by cases f)))).nil aZ 8 bD).bV [3,2,0,1]
 refine av (fun t:Sl×Nat×List (bu×dj)=>(t.1,(t.2.1:Int)-1)) (fun t h'=>t.2.1<=d.l.length/\t.2.2.length<=t.2.1/\Keyed t.2.2/\t.2.2.map zA=(d.l.take t.2.1).filterMap (jp m)/\Sp h h' [cv t.1 (t.2.2.map qK),si t.2.2,cH (nT 1 aC) 1 bI B rs d.l,au p aB (aV x)]) (fun t=>d.l.length-t.2.1) (⟨none,0,0⟩,0,[]) rfl ⟨by simp,by simp,(fun t f=>(by cases f)),by simp,E⟩ ?_;rintro⟨o,i,T⟩ h3 ⟨hi,ah,L,k,E⟩;dsimp only at*;have ei:qc vR ((i:Int)-1+1)=(i:Int):=by rw[Go.Vc.wrap_small _ (by omega) (by omega)];omega
 rw[ei];refine ak (fun e=>?_) (fun e=>?_)
 ·have U:i=d.l.length:=by omega
  subst U;rw[qR]at k;refine(Mc (T.map qK) (by rw[qw];omega) E).mono ?_;rintro _ h4 ⟨rfl,H4⟩;obtain⟨s1,s2,s3⟩:=XY L;rw[<-s1]at H4;refine⟨(),rfl,(Kf _ (by rw[qw,wj];omega) H4).mono ?_⟩;rintro _ h5 ⟨r5,rfl,H5⟩;obtain⟨c1,c2,c3⟩:=aao s3;rw[<-c1]at H5;refine⟨r5,rfl,r5,DW (T.mergeSort Po),rfl,?_,fun t f=>s3 t (c3 t f),?_⟩
  ·have hr:kR m d.l=(DW (T.mergeSort Po)).map zA:=by unfold kR;rw[<-k,c2,s2]
   exact hr.symm
  ·exact(H5.gf 1 rfl (D:=si (DW (T.mergeSort Po))) fun q z t f=>z t (yt.1 (c3 t f))).bV [0,1]
 ·have F:i<d.l.length:=by omega
  have g:=Xo m d.l i F;have next:∀{h':Heap} {G:Sl} {T':List (bu×dj)},T'.length<=i+1->Keyed T'->T'.map zA=(d.l.take (i+1)).filterMap (jp m)->Sp h h' [cv G (T'.map qK),si T',cH (nT 1 aC) 1 bI B rs d.l,au p aB (aV x)]->
    ∃j:Sl×Nat×List (bu×dj),((⟨G.ptr,G.len,G.cap⟩:Sl),(i:Int))=(j.1,(j.2.1:Int)-1)/\(j.2.1<=d.l.length/\j.2.2.length<=j.2.1/\Keyed j.2.2/\j.2.2.map zA=(d.l.take j.2.1).filterMap (jp m)/\Sp h h' [cv j.1 (j.2.2.map qK),si j.2.2,cH (nT 1 aC) 1 bI B rs d.l,au p aB (aV x)])/\d.l.length-j.2.1<d.l.length-i:=fun{h' G T'} Z q2 q3 q4=>
   ⟨(G,i+1,T'),by dsimp only;congr 1;omega,⟨by dsimp only;omega,Z,q2,q3,q4⟩,by dsimp only;omega⟩
  refine ba ?_;refine(E.eJ 2 rfl).1.nX i rfl (by omega) ?_;obtain⟨u,Q⟩:=Fix.row (E.eJ 2 rfl) F;obtain⟨c,hc⟩:∃c,c=d.l[i]:=⟨_,rfl⟩
  rw[<-hc]at u g;have ap:c.length=64:=by rw[hc];exact ok.cell _ (qg F)
  refine(Tb (rs[i]'(by omega)) c h3 u (by omega) Q).mono ?_;rintro _ h6 ⟨y,rfl,Q0,Q1⟩;refine⟨(y,(dL c).isSome),rfl,?_⟩;dsimp only;cases htr:dL c with
  |none=>
   have I:jp m c=none:=by unfold jp;rw[htr]
   rw[I,Option.toList_none,qP]at g;have X:=E.up (Q0 htr).ai;refine X.alloc ae rfl fun a9 h7 R=>?_;refine R.storeAll ae 4 rfl rfl (bD y) rfl rfl rfl rfl fun h8 n=>bA (fun e=>by cases e) fun _=>?_;exact next (by omega) L (by rw[k,g]) (n.bV [0,1,2,3])
  |some r=>
   have X:=E.cY (Q1 r htr);refine X.alloc ae rfl fun a9 h7 R=>?_;refine R.storeAll ae 5 rfl rfl (bD y) rfl rfl rfl rfl fun h8 n=>bA (fun _=>?_) fun e=>by cases e
   have n:Sp h h8 [EA eI y r,cv o (T.map qK),si T,cH (nT 1 aC) 1 bI B rs d.l,au p aB (aV x),au a9 aZ (bD y)]:=n;have V:=n.eAt 0 rfl;have S:aj h8 p 0 (aV x):=(n.box 4 rfl).aQ _ rfl;have O:aj h8 a9 0 (bD y):=(n.box 5 rfl).aQ _ rfl;have Y:=Vo x m y r h8 (hx.up n.ai) hz V;refine⟨x,S,y,O,Y.mono ?_⟩;rintro _ h9 ⟨rfl,R9⟩;have P:Sp h h9 [EA eI y r,cv o (T.map qK),si T,cH (nT 1 aC) 1 bI B rs d.l,au p aB (aV x),au a9 aZ (bD y)]:=n.up R9.ai;refine⟨_,rfl,bA (fun e2=>?_) (fun e2=>?_)⟩
   ·have I:jp m c=some r:=by unfold jp;rw[htr];exact if_pos e2
    rw[I,Option.toList_some]at g;refine⟨y,(P.box 5 rfl).aQ _ rfl,?_⟩;refine P.push ae 1 rfl afE rfl (by decide) (fun _=>rfl) aez y (by kernel_rfl) (by decide) (by rw[qw];omega) fun G ad K=>?_;have w:=(K.eAt 0 rfl).1;have N:=K.merge 2 0 (by decide) rfl rfl (D:=si (T++[(y,r)])) (fun Z q2 _ p1 p2 t f=>by
     rcases qE.1 f with f|f
     ·exact eI.mono (p1 t f) fun _ H=>.inl H
     ·rw[qG.1 f];exact eI.mono p2 fun _ H=>.inr H)
    refine next (T':=T++[(y,r)]) (by simp;omega) (fun t f=>?_) (by rw[qQ,k,g];rfl) ?_
    ·rcases qE.1 f with f|f
     ·exact L t f
     ·rw[qG.1 f];exact⟨w.1,w.2.1,w.2.2.1⟩
    ·rw[qQ];exact N.bV [1,2,3,4]
   ·have I:jp m c=none:=by unfold jp;rw[htr];exact if_neg (by rw[e2];simp)
    rw[I,Option.toList_none,qP]at g;exact next (by omega) L (by rw[k,g]) (P.bV [1,2,3,4])
theorem Hl(a pw:Addr)(d:bE)(s b:Sl)(x:cg)(m:aG)(h:Heap)(u:cw h a cC (gJ pw d s b))(z:gg h s 1 aC d.l)(ok:gc d)(y:eG h x m)(g:db m):
  ac vV AD #[vN (some a),ft x] h fun v h'=>∃(r:Sl) (k:List bu),v=vM r.ptr r.len r.cap/\Sp h h' [cH eI 8 bD r k (kR m d.l)]:=by
 refine(Qz a pw d s b x m h u z ok y g).mono ?_;rintro _ h' ⟨r,T,rfl,p,_,H⟩;refine⟨r,T.map qK,rfl,?_⟩;have w:=(H.freeze 0 rfl fun _=>rfl).oX;have n:aa _ _ _ (cH eI 8 bD r (T.map qK) (kR m d.l)::_):=w.gf 0 rfl fun q ⟨D,E,_,b,c,o,i⟩=>by
  rw[<-p];refine⟨Seq.mono i c,by simp,fun j B A e f=>?_⟩;rw[qN]at e f;cases g3:T[j]? with
  |none=>rw[g3]at e;cases e
  |some t=>
   rw[g3]at e f;simp at e f;subst e;subst f;exact eI.mono (o t (ya g3)) b
 exact n.bV [0]
end Go.Proofs.YtdhamoojccmbdaaGreatDoor
namespace Go.Vc
open Go Wl
def bj(l:List Int)(k:Nat):List Int:=((qC k).map fun i:Nat=>(i:Int)).filter fun i=>decide (0<l.getD i.toNat 0)
def eO(l:List Int):List Int×Bool:=
 if l.all (eS · 0 512)then(bj l l.length,decide (l.length<=64)&&decide (0<(bj l l.length).length))else([],false)
theorem EW(l:List Int)(k:Nat)(a:k<l.length):bj l (k+1)=bj l k++if 0<l[k]then[(k:Int)]else[]:=by
 unfold bj;rw[zF,qQ,zh];congr 1;simp only[w4,vn,zm,yO,qp,qe,qd a,Option.getD_some];by_cases h:0<l[k]<;>simp[h]
theorem pL(l:List Int)(k:Nat):(bj l k).length<=k:=by
 unfold bj;exact zl (q7 _ _) (by simp)
end Go.Vc
namespace Go.Proofs.YtdhamoojccmbdaaGreatDoor
open Go Go.Vc Go.Proofs Wl
section
theorem nB(s:Sl)(l:List Int)(h:Heap)(m:Rd h s 1 aE l)(F:l.length<=2^20):
  ac vV Lb #[vM s.ptr s.len s.cap] h fun v h'=>∃r:Sl,v=.tuple #[vM r.ptr r.len r.cap,vP (eO l).2]/\Sp h h' [an aS r 1 aE (eO l).1]:=by
 refine JE s ?_;unfold Ce;have w:=m.len;have n:Sp h h [an aS ⟨none,0,0⟩ 1 aE (bj l 0)]:=(Sp.refl h).nil aS 1 aE;refine av (fun t:Sl×Nat=>(t.1,(t.2:Int))) (fun t h'=>t.2<=l.length/\(l.take t.2).all (eS · 0 512)=true/\Sp h h' [an aS t.1 1 aE (bj l t.2)]) (fun t=>l.length-t.2) (⟨none,0,0⟩,0) rfl ⟨by simp,by simp,n⟩ ?_;rintro⟨o,i⟩ E ⟨B,c,f⟩;dsimp only at*;have d:∀(a:i<l.length),eS l[i] 0 512=false->eO l=([],false):=fun a g=>by
  unfold eO;rw[if_neg];intro z;have:=qM.1 z _ (qg a);rw[g]at this;cases this
 refine ak (fun e=>?_) (fun e=>?_)
 ·have a:i<l.length:=by omega
  have p:=pL l i;refine(Seq.up m f.ai).bv i rfl a l[i] rfl ?_;refine ba (ak (fun k=>?_) (fun k=>ak (fun e2=>?_) (fun e2=>?_)))
  ·have g:=d a (by unfold eS;simp;omega);rw[g];exact⟨⟨none,0,0⟩,rfl,(f.bV []).nil aS 1 aE⟩
  ·have g:=d a (by unfold eS;simp;omega);rw[g];exact⟨⟨none,0,0⟩,rfl,(f.bV []).nil aS 1 aE⟩
  ·have b:(l.take (i+1)).all (eS · 0 512)=true:=by
    rw[aH l i a,yz,c,zS,vI,List.all_nil,Bool.and_true];unfold eS;simp;omega
   refine ak (fun y=>?_) (fun y=>?_)
   ·refine f.push ae 0 rfl nw rfl (by decide) (fun _=>rfl) ja (i:Int) rfl (by decide) (by omega) fun A D q=>?_;refine⟨(A,i+1),by dsimp only;rw[Go.Vc.wrap_small _ (by omega) (by omega)];rfl,⟨by dsimp only;omega,b,?_⟩,by dsimp only;omega⟩;dsimp only;rw[EW l i a,if_pos (by omega)];exact q
   ·refine⟨(o,i+1),by dsimp only;rw[Go.Vc.wrap_small _ (by omega) (by omega)];rfl,⟨by dsimp only;omega,b,?_⟩,by dsimp only;omega⟩;dsimp only;rw[EW l i a,if_neg (by omega),qP];exact f
 ·have j:i=l.length:=by omega
  subst j;rw[qR]at c;have u:=(f.own 0 rfl).len;have x:eO l=(bj l l.length,decide (l.length<=64)&&decide (0<(bj l l.length).length)):=by unfold eO;rw[if_pos c]
  rw[x];refine ak (fun k=>⟨o,?_,f⟩) (fun k=>⟨o,?_,f⟩)
  ·dsimp only;rw[decide_eq_true (show l.length<=64 by omega),zS];congr 4;refine congrArg Value.bool ?_;rw[decide_eq_decide];omega
  ·dsimp only;rw[decide_eq_false (show¬l.length<=64 by omega),Bool.false_and]
end
section
variable {B:aA} {h0 h:Heap} {As:List HP} {a pw:Addr} {offs:Int} {da:List (Option Addr)} {w:Pow} {ds:bc}
theorem fY(x:cg)(m:aG)(b:eG h x m)(g:db m)(H:aa B h0 h (bm bz a pw (aV x) offs da w ds::As)):
  ac vV Fc #[vN (some a)] h fun v h'=>∃r:Sl,v=vM r.ptr r.len r.cap/\Sp h h' [an aS r 1 aE (bi ds m.drives)]:=by
 refine DF (some a) ?_;unfold sF;obtain⟨ok,d⟩:=aa.cJ H;have c:=g.dr;refine bA (fun e=>by cases e) (fun _=>⟨a,rfl,x.2.2.2.2.2.2.1,d.cell rfl,(Ma _ m.drives b.drives (by omega) H).mono ?_⟩);rintro _ i ⟨r,rfl,f⟩;exact⟨r,rfl,r,rfl,f⟩
theorem Oi(x:cg)(m:aG)(k:eG h x m)(i:db m)(H:aa B h0 h (bm bz a pw (aV x) offs da w ds::As)):
  ac vV nf #[vN (some a)] h fun v h'=>∃y:cg,v=ft y/\Sp h h' [cO y m]:=by
 refine xf (some a) ?_;unfold nH;obtain⟨ok,f⟩:=aa.cJ H;refine(Sp.refl h).alloc ae rfl fun o l c=>?_;have b:=f.ai c.ai f.lt;refine bA (fun e=>by cases e) (fun _=>⟨a,rfl,x,b.aQ _ rfl,(LZ x m l (k.up c.ai) i).mono ?_⟩);rintro _ n ⟨y,rfl,g⟩;have j:=c.comp g;refine⟨y,rfl,?_⟩;refine j.store ae 0 rfl rfl 0 (aV y) rfl rfl rfl (by simp[Value.cells]) fun h3 d=>?_;exact⟨y,(d.box 0 rfl).aQ _ rfl,y,rfl,d.bV [1]⟩
end
end Go.Proofs.YtdhamoojccmbdaaGreatDoor
namespace Go.Vc
open Go Wl
def fu(w:Pow)(offs:Int):Bool:=w.off||w.offs !=offs
end Go.Vc
namespace Go.Proofs.YtdhamoojccmbdaaGreatDoor
open Go Go.Vc Go.Proofs Wl
section
variable {B:aA} {h0 h:Heap} {As:List HP} {a pw:Addr} {mc:List Value} {offs:Int} {da:List (Option Addr)} {w:Pow} {ds:bc}
theorem aa.aeB(H:aa B h0 h (bm bz a pw mc offs da w ds::As)):∃l,LX w l/\cw h pw bG (powC w l):=by
 obtain⟨ok,d⟩:=Go.Vc.aa.xz H;have e:=d.rest;obtain⟨l,c,b⟩:=aa.CL e;exact⟨l,c,b.box 0 rfl⟩
theorem CP(H:aa B h0 h (bm bz a pw mc offs da w ds::As)):
  ac vV Fm #[vN (some a)] h fun v h'=>v=vP (fu w offs)/\h'=h:=by
 refine DO (some a) ?_;unfold sQ;obtain⟨ok,f⟩:=aa.cJ H;obtain⟨l,i,d⟩:=aa.aeB H;have c:cellOf h (a.add 8)=some (vN (some pw)):=f.cell (acs ok.l8);have g:cellOf h (a.add 9)=some (vL vR offs):=f.cell (XU ok.l8);refine bA (fun _=>?_) (fun e=>by cases e);refine⟨a,rfl,some pw,c,(Ik l d).mono ?_⟩;rintro _ _ ⟨rfl,rfl⟩;refine⟨_,rfl,trivial,bg (fun e=>⟨trivial,?_⟩) fun e=>?_⟩
 ·have b:w.off=true:=by simpa using e
  exact⟨by unfold fu;rw[b];rfl,rfl⟩
 ·have b:w.off=false:=by simpa using e
  refine⟨a,rfl,some pw,c,a,rfl,offs,g,(Pe l d).mono ?_⟩;rintro _ _ ⟨rfl,rfl⟩;exact⟨_,rfl,⟨g,trivial⟩,by unfold fu;rw[b];rfl,rfl⟩
end
end Go.Proofs.YtdhamoojccmbdaaGreatDoor
namespace Go.Vc
open Go Wl
section
variable {k:Jd} {B:aA} {h0 h:Heap} {As:List HP} {a pw:Addr} {mc:List Value} {offs:Int} {w:Pow}
theorem aa.afH(H:aa B h0 h As):∀n,aa B h0 h (qh n emp++As)
 |0=>H
 |n+1=>(((aa.afH H n).comp (.one (A:=emp) (aU.refl _ _) trivial)).bL:aa B h0 h (emp::(qh n emp++As)))
theorem aa.aap(h8:mc.length=8)(H:aa B h0 h (au a k.tS (dz mc pw offs (qh 64 none))::dU k.tP pw w::As)):aa B h0 h (bm k a pw mc offs (qh 64 none) w (qh 64 none)::As):=by
 have ok:gS mc (qh 64 none) (qh 64 (none:Option bE)):=⟨h8,by simp,by simp,fun i=>by
  simp only[qe,zX];split<;>rfl⟩
 have f:iN k pw (qh 64 none) (qh 64 (none:Option bE))=qh 64 emp:=by
  simp[iN,afG]
 refine aa.AL ok ?_;rw[f];have g:=aa.afH H 64;refine g.pick (fun i=>if i=0 then 64 else if i=1 then 65 else if i<66 then i-2 else i) (fun x y b=>by(try dsimp only at b);split at b<;>split at b<;>(try split at b)<;>(try split at b)<;>(try split at b)<;>(try split at b)<;>omega) fun i A d=>?_;rcases i with _|_|i
 ·simpa using d
 ·simpa using d
 ·by_cases e:i<64
  ·have c:(qh 64 emp++As)[i]?=some A:=d;rw[qn (by simpa using e)]at c
   try dsimp only
   rw[if_neg (by omega),if_neg (by omega),if_pos (by omega),qn (by simp;omega)];simpa using c
  ·have c:(qh 64 emp++As)[i]?=some A:=d;rw[qj (by simp;omega)]at c
   try dsimp only
   rw[if_neg (by omega),if_neg (by omega),if_neg (by omega),qj (by simp;omega)];simp only[yx]at c⊢;obtain⟨j,rfl⟩:∃j,i=j+64:=⟨i-64,by omega⟩
   have e2:j+64+1+1-64=j+1+1:=by omega
   rw[e2];simpa using c
end
end Go.Vc
namespace Go.Proofs.YtdhamoojccmbdaaGreatDoor
open Go Go.Vc Go.Proofs Wl
section
theorem aaq(x:cg)(pw:Addr)(offs:Int):aI vV (vy fK #[(0,ft x),(1,vN (some pw)),(2,vL vR offs)]) (vQ (dz (aV x) pw offs (qh 64 none)).toArray):=
 FI ae (i:=_) rfl rfl rfl (vs:=[(0,ft x),(1,vN (some pw)),(2,vL vR offs)]) (cells:=(dz (aV x) pw offs (qh 64 none)).toArray) (by kernel_rfl)
end
end Go.Proofs.YtdhamoojccmbdaaGreatDoor
namespace Go.Vc
open Go Wl
section
variable {k:Jd} {B:aA} {h0 h:Heap} {As:List HP} {a pw b:Addr} {mc:List Value} {offs:Int} {da:List (Option Addr)} {w:Pow} {ds:bc} {d:bE} {n:Nat}
theorem aar(h8:mc.length=8):(dz mc pw offs da).set (10+n) (vN (some b))=dz mc pw offs (da.set n (some b)):=by
 unfold dz;rw[za _ _ (by omega),h8,show 10+n-8=n+1+1 by omega,wv,wv,List.map_set]
theorem aa.aeC(ok:gS mc da ds)(G:n<64)(v:ds[n]?=some none)(H:aa B h0 h (au a k.tS (dz mc pw offs (da.set n (some b)))::dU k.tP pw w::(iN k pw da ds++(kY k.tD (k.f pw) b d::As)))):aa B h0 h (bm k a pw mc offs (da.set n (some b)) w (ds.set n (some d))::As):=by
 have s:=ok.aaj G v;have r:=ok.la;have m:=ok.ls;have q:gS mc (da.set n (some b)) (ds.set n (some d)):=⟨ok.l8,by simp[r],by simp[m],fun i=>by
  by_cases c:n=i
  ·subst c;rw[qe,qe,zy (by omega),zy (by omega)];rfl
  ·have:=ok.same i;rw[qe,qe]at this⊢;rw[z6 c,z6 c];exact this⟩
 have o:=Tc (k:=k) (pw:=pw) ok;have u:(iN k pw da ds)[n]?=some emp:=by
  simp only[iN,wG,s,v];rfl
 have g:iN k pw (da.set n (some b)) (ds.set n (some d))=(iN k pw da ds).set n (kY k.tD (k.f pw) b d):=by
  apply zH;intro j;simp only[iN,qZ,wG,List.length_zipWith];by_cases l:n=j
  ·subst l;rw[if_pos rfl,if_pos (by omega),if_pos rfl,if_pos (by omega),if_pos rfl,if_pos (by omega)];rfl
  ·simp[l]
 refine aa.AL q ?_;rw[g];obtain⟨L,p⟩:∃L,L=iN k pw da ds:=⟨_,rfl⟩
 rw[<-p]at H u o⊢;have x:=H.cons (L.length+2) (A:=kY k.tD (k.f pw) b d) (by
  rw[qz,qz,qj (ql _),zf];rfl)
 have e:(au a k.tS (dz mc pw offs (da.set n (some b)))::dU k.tP pw w::(L++(kY k.tD (k.f pw) b d::As))).set (L.length+2) emp=au a k.tS (dz mc pw offs (da.set n (some b)))::dU k.tP pw w::(L++(emp::As)):=by
  rw[wv,wv,za _ _ (ql _),zf];rfl
 rw[e]at x;have z:=x.bo 3 [0,2,1];have t:L.set n emp=L:=by
  obtain⟨I,D⟩:=qm.1 u
  conv=>lhs;rw[<-D]
  exact List.set_getElem_self I
 have y:aa B h0 h (kY k.tD (k.f pw) b d::dU k.tP pw w::au a k.tS (dz mc pw offs (da.set n (some b)))::(L.set n emp++(emp::As))):=by rw[t];exact z
 have E:=aa.Wy n (by omega) y;have F:=aa.closeAll (au a k.tS (dz mc pw offs (da.set n (some b)))::dU k.tP pw w::L.set n (kY k.tD (k.f pw) b d)) E;exact aa.BV (L:=au a k.tS (dz mc pw offs (da.set n (some b)))::dU k.tP pw w::L.set n (kY k.tD (k.f pw) b d)) F.HS
end
open Go Wl Go.Proofs.YtdhamoojccmbdaaGreatDoor
def cu(p:Pm)(extra:Int)(l:List Int):aG:=⟨1,0,p,extra,bj l l.length,[]⟩
def gD(l:List Int)(k:Nat):bc:=(qC 64).map fun i:Nat=>if(i:Int)∈(bj l l.length).take k then some (bE.new (l.getD i 0).toNat)else none
def eP(p:Pm)(extra:Int)(w:Pow)(l:List Int):Int×Pow×bc:=
 if(eO l).2&&(bM p&&eS extra 0 16)then
  if(bj l l.length).any fun i=>decide (l.getD i.toNat 0<((bh (cu p extra l)).length:Int))then(7,w,[])
  else layAll (bx (cu p extra l) (bj l l.length)) w (gD l (bj l l.length).length)
 else(1,w,[])
theorem Th(l:List Int):gD l 0=qh 64 none:=by
 unfold gD;rw[vC];apply zH;intro j;simp only[qN,zX,zo,List.not_mem_nil,if_false];by_cases h:j<64
 ·simp[h,zo]
 ·simp[h]
theorem Vp(l:List Int)(k:Nat):(gD l k).length=64:=by simp[gD]
theorem Ti(l:List Int)(k n:Nat)(e:k<(bj l l.length).length)(c:(bj l l.length)[k]=(n:Int))(b:n<64):(gD l k).set n (some (bE.new (l.getD n 0).toNat))=gD l (k+1):=by
 apply zH;intro j;unfold gD;rw[aH _ _ e,c,qZ,qw,zt];by_cases d:j<64
 ·simp only[qN,zo d,qO,qE,qG];by_cases a:n=j
  ·subst a;rw[if_pos rfl,if_pos b,if_pos (Or.inr rfl)]
  ·rw[if_neg a];have:¬(j:Int)=(n:Int):=by omega
   simp only[this,or_false]
 ·rw[if_neg (by omega)];rw[ze (by simp;omega),ze (by simp;omega)]
theorem xA(l:List Int)(k:Nat)(x:Int):x∈bj l k↔∃n:Nat,n<k/\x=(n:Int)/\0<l.getD n 0:=by
 unfold bj;rw[qI,qx];constructor
 ·rintro⟨⟨n,a,rfl⟩,b⟩;exact⟨n,qH.1 a,rfl,by simpa using b⟩
 ·rintro⟨n,a,rfl,b⟩;exact⟨⟨n,qH.2 a,rfl⟩,by simpa using b⟩
theorem Vq(l:List Int)(k i:Nat)(a:i<(bj l k).length):∃n:Nat,n<k/\(bj l k)[i]=(n:Int)/\0<l.getD n 0:=(xA l k _).1 (qg a)
end Go.Vc
namespace Wl
open Go
def dn(p:Int×Int×Int):Nat:=(p.1*p.2.2).toNat
def uB(a:Nat)(b:List UInt8)(i:Nat):List UInt8:=(b.drop (i*a)).take a++(qh a 0).drop (b.drop (i*a)).length
theorem Hm(a:Nat)(b:List UInt8)(i:Nat):(uB a b i).length=a:=by unfold uB;simp;omega
def bn(p:Int×Int×Int)(b:List UInt8):List (List UInt8):=(qC (countP p b.length).toNat).map (uB (dn p) b)
def Mf(p:Int×Int×Int)(o b:Int)(n:Nat):Bool:=fJ p (cK o b n) (eC p)
def pM(p:Int×Int×Int)(o b:Int):Option Nat:=(qC 16).find? (Mf p o b)
def cy(p:Int×Int×Int)(o:Int):Nat->Option (List Int)
 |0=>some []
 |n+1=>(cy p o n).bind fun l=>(pM p o n).map fun t=>l++[(t:Int)]
theorem iP{p:Int×Int×Int}{o:Int}:∀{n:Nat} {l:List Int},cy p o n=some l->l.length=n
 |0,l,h=>by cases h;rfl
 |n+1,l,h=>by
  unfold cy at h;cases h1:cy p o n with
  |none=>rw[h1]at h;cases h
  |some k=>
   rw[h1]at h;cases h2:pM p o n with
   |none=>rw[h2]at h;cases h
   |some t=>
    rw[h2]at h;have h:some (k++[(t:Int)])=some l:=h;injection h with h
    rw[<-h,qu,iP h1];rfl
theorem Hn{p:Int×Int×Int}{o b:Int}{t:Nat}(h:pM p o b=some t):t<16/\Mf p o b t=true/\∀k,k<t->Mf p o b k=false:=by
 unfold pM at h;obtain⟨e,us,vs,c,h3⟩:=wD.1 h;have d:=congrArg vg c;have f:t=us.length:=by
  have:(qC 16)[us.length]?=some t:=by rw[c,qj (ql _),zf];rfl
  rw[zo (by simp at d;omega)]at this;injection this with this;exact this.symm
 refine⟨by simp at d;omega,e,fun k g=>?_⟩;have a:k∈us:=by
  have:(qC 16)[k]?=us[k]?:=by rw[c,qn (by omega)]
  rw[zo (by simp at d;omega)]at this;exact ya this.symm
 simpa using h3 k a
theorem AM{p:Int×Int×Int}{o:Int}:∀{n:Nat} {l:List Int},cy p o n=some l->∀i (b:i<l.length),∃t:Nat,l[i]=(t:Int)/\pM p o i=some t
 |0,l,h=>by cases h;intro i b;simp at b
 |n+1,l,h=>by
  unfold cy at h;cases h1:cy p o n with
  |none=>rw[h1]at h;cases h
  |some k=>
   rw[h1]at h;cases h2:pM p o n with
   |none=>rw[h2]at h;cases h
   |some t=>
    rw[h2]at h;have h:some (k++[(t:Int)])=some l:=h;injection h with h
    subst h;intro i b;have c:=iP h1;by_cases a:i<k.length
    ·rw[w5 a];exact AM h1 i a
    ·have:i=k.length:=by simp at b;omega
     subst this;refine⟨t,by simp,?_⟩;rw[c];exact h2
end Wl
namespace Go.Proofs.YtdhamoojccmbdaaGreatDoor
open Go Go.Vc Go.Proofs Wl
theorem Ho(p:Pm)(h:Heap)(b:bM p=true):ac vV PY #[kB p] h fun v h'=>v=vL vR (dn p)/\Sp h h' []:=by
 have d:=(bU p).1 b;refine Cm p ?_;unfold xk;refine(Sp.refl h).boxed fun f h3 a=>⟨p.1,(a.box 0 rfl).cell0 rfl,p.2.2,(a.box 0 rfl).cell rfl,?_,a.bV []⟩
 have e:p.1*p.2.2<=16*24:=wu (by omega) (by omega) (by omega) (by omega);have c:0<=p.1*p.2.2:=vm (by omega) (by omega);rw[Go.Vc.wrap_small _ (by omega) (by omega)];unfold dn;congr 1;omega
theorem kD{p:Pm}(a:bM p=true):1<=dn p/\dn p<=384/\(dn p:Int)=p.1*p.2.2:=by
 have c:=(bU p).1 a;have d:p.1*p.2.2<=16*24:=wu (by omega) (by omega) (by omega) (by omega);have b:0<p.1*p.2.2:=vF (by omega) (by omega);unfold dn;omega
theorem ly{p:Pm}(a:bM p=true)(n:Nat):0<=countP p n/\countP p n<=n/\∀i:Nat,(i:Int)<countP p n->i*dn p<n:=by
 obtain⟨g,d,c⟩:=kD a;unfold countP;rw[a,zS];by_cases h0:0<(n:Int)
 ·rw[decide_eq_true h0,if_pos rfl,<-c];have e:((n:Int)-1)/(dn p:Int)<=n-1:=Int.ediv_le_self _ (by omega);have f:0<=((n:Int)-1)/(dn p:Int):=Int.ediv_nonneg (by omega) (by omega);refine⟨by omega,by omega,fun i b=>?_⟩;have h3:(i:Int)<=((n:Int)-1)/(dn p:Int):=by omega
  have h:=(Int.le_ediv_iff_mul_le (by omega)).1 h3;have j:((i*dn p:Nat):Int)=(i:Int)*(dn p:Int):=wz i (dn p);omega
 ·rw[decide_eq_false h0,if_neg (by decide)];exact⟨by omega,by omega,fun i b=>by omega⟩
theorem Vr(p:Pm)(s:Sl)(b:List UInt8)(h:Heap)(g:bM p=true)(l:Rd h s 1 aC b)(L:s.len<=s.cap)(W:b.length<=2^30):ac vV Ny #[kB p,vM s.ptr s.len s.cap] h fun v h'=>∃r:Sl,v=vM r.ptr r.len r.cap/\Sp h h' [dP r (bn p b)]:=by
 refine Lm p s ?_;unfold EC;have c:=l.len;obtain⟨S,O,R⟩:=kD g;obtain⟨Q,Y,c3⟩:=ly g b.length;refine(Sp.refl h).boxed fun k J q=>?_;refine⟨p,(q.box 0 rfl).aQ _ rfl,?_⟩;refine(uz p s.len J (by omega)).mono ?_;rintro _ A ⟨rfl,u⟩;have x:=q.up u.ai;refine⟨_,rfl,?_⟩;obtain⟨n,I⟩:∃n:Nat,n=(countP p b.length).toNat:=⟨_,rfl⟩
 have d:(countP p (s.len:Nat))=(n:Int):=by rw[c];omega
 rw[d];have z:(bn p b).length=n:=by unfold bn;rw[<-I];simp
 have a:Sp h A [dP ⟨none,0,0⟩ ((bn p b).take 0),au k aT [vL vR p.1,vL vR p.2.1,vL vR p.2.2]]:=x.FN aF aD 1 aC;refine av (fun t:Sl×Nat=>(t.1,(t.2:Int))) (fun t h'=>t.2<=n/\Sp h h' [dP t.1 ((bn p b).take t.2),au k aT [vL vR p.1,vL vR p.2.1,vL vR p.2.2]]) (fun t=>n-t.2) (⟨none,0,0⟩,0) rfl ⟨by simp,a⟩ ?_;rintro⟨o,i⟩ h3 ⟨P,a⟩;dsimp only at*;refine ak (fun e=>?_) (fun e=>?_)
 ·have K:i<n:=by omega
  have F:=c3 i (by rw[<-c,d];omega);refine⟨p,(a.box 1 rfl).aQ _ rfl,(Ho p h3 g).mono ?_⟩;rintro _ T ⟨rfl,D⟩;have B:=a.up D.ai;refine⟨_,rfl,B.KF ae aC fP (by decide) (0:UInt8) rfl rfl (dn p) (dn p) rfl rfl (ql _) (by omega) fun v G X U f=>?_⟩;have f:=f.bL;refine⟨p,(f.box 2 rfl).aQ _ rfl,(Ho p G g).mono ?_⟩;rintro _ V ⟨rfl,E⟩;have m:=f.up E.ai;refine⟨_,rfl,?_⟩;have em:qc vR ((i:Int)*(dn p:Int))=((i*dn p:Nat):Int):=by
   rw[<-wz,Go.Vc.wrap_small _ (by omega) (by omega)]
  dsimp only;rw[em,qp];refine⟨⟨by omega,by omega⟩,?_⟩;have w:=(Seq.up l m.ai).drop (i*dn p) L;refine m.KB ae 0 rfl fP (fun _=>rfl) (v:=⟨_,s.len-i*dn p,s.cap-i*dn p⟩) w ge fun _ y j=>?_;have j:Sp h y [an aD v 1 aC (uB (dn p) b i),dP o ((bn p b).take i),au k aT [vL vR p.1,vL vR p.2.1,vL vR p.2.2]]:=by
   simpa[uB]using j
  refine(j.bo 2 [1,0]).HU ae fq (by simp;omega) fun M h8 N=>?_;refine⟨(M,i+1),by dsimp only;rw[Go.Vc.wrap_small _ (by omega) (by omega)];rfl,⟨by dsimp only;omega,?_⟩,by dsimp only;omega⟩;dsimp only;rw[aH _ _ (show i<(bn p b).length by omega)];have H:(bn p b)[i]'(by omega)=uB (dn p) b i:=by simp[bn]
  rw[H];exact N
 ·rw[qi (by omega)]at a;exact⟨o,rfl,a.bV [0]⟩
theorem pN(a b:UInt8):qc vS ((qA (qk vS) (a.toNat:Int)^^^qA (qk vS) (b.toNat:Int)).toNat:Nat)=((a^^^b).toNat:Int):=by
 have e:∀a:UInt8,qA (qk vS) (a.toNat:Int)=a.toBitVec:=fun a=>by
  apply BitVec.eq_of_toNat_eq;have:=wH a;simp[qk]
 rw[e,e];have c:=(a.toBitVec^^^b.toBitVec).isLt;have:((a^^^b).toNat:Int)=((a.toBitVec^^^b.toBitVec).toNat:Int):=rfl;rw[this];show(((a.toBitVec^^^b.toBitVec).toNat:Nat):Int)%256=_;have:(a.toBitVec^^^b.toBitVec).toNat<256:=c;omega
def tri(a:UInt8):Nat->Int×Int×Int
 |0=>((a.toNat:Int),(3:Int),(0:Int))
 |1=>(((Gf.x2 a).toNat:Int),(1:Int),(a.toNat:Int))
 |_=>(((Gf.x2 (Gf.x2 a)).toNat:Int),(0:Int),((Gf.x3 a).toNat:Int))
theorem Vs(a:UInt8)(h:Heap):ac vV Vf #[vL vS a.toNat,vL vS 3] h fun v h'=>v=vL vS (Gf.x3 a).toNat/\h'=h:=by
 have e:∀n:Nat,n<256->
   ((qc vS ((qA (qk vS) (n:Int)&&&(qA (qk vS) (128:Int))).toNat:Nat)) !=(0:Int))=true->qc vS ((qA (qk vS) (qc vS ((n:Int)*2^min (1:Int).toNat (qk vS)))^^^(qA (qk vS) (27:Int))).toNat:Nat)=((Gf.x2 (yo n)).toNat:Int):=by decide+kernel
 have c:∀n:Nat,n<256->
   ((qc vS ((qA (qk vS) (n:Int)&&&(qA (qk vS) (128:Int))).toNat:Nat)) !=(0:Int))=false->qc vS ((n:Int)*2^min (1:Int).toNat (qk vS))=((Gf.x2 (yo n)).toNat:Int):=by decide+kernel
 refine SS _ _ ?_;unfold LP;refine av (tri a) (fun t h'=>h'=h/\t<=2) (fun t=>2-t) 0 rfl ⟨rfl,by omega⟩ ?_;rintro t h' ⟨rfl,f⟩;rcases(show t=0∨t=1∨t=2 by omega)with rfl|rfl|rfl
 ·rw[show tri a 0=((a.toNat:Int),(3:Int),(0:Int))from rfl];dsimp only;refine Dg (by decide) (ba (MV (by decide) ?_));refine⟨by decide,ba ?_⟩;refine bA (fun d=>?_) (fun d=>?_)
  ·rw[e _ (wH a) d,yC];refine⟨by decide,1,?_,⟨rfl,by decide⟩,by decide⟩;have:=pN 0 a;simp only[wc]at this;exact yL rfl (yL rfl this)
  ·rw[c _ (wH a) d,yC];refine⟨by decide,1,?_,⟨rfl,by decide⟩,by decide⟩;have:=pN 0 a;simp only[wc]at this;exact yL rfl (yL rfl this)
 ·rw[show tri a 1=(((Gf.x2 a).toNat:Int),(1:Int),(a.toNat:Int))from rfl];dsimp only;refine Dg (by decide) (ba (MV (by decide) ?_));refine⟨by decide,ba ?_⟩;refine bA (fun d=>?_) (fun d=>?_)
  ·rw[e _ (wH (Gf.x2 a)) d,yC];refine⟨by decide,2,?_,⟨rfl,by decide⟩,by decide⟩;refine yL rfl (yL rfl ?_);have:=pN a (Gf.x2 a);rw[vl]at this;exact this
  ·rw[c _ (wH (Gf.x2 a)) d,yC];refine⟨by decide,2,?_,⟨rfl,by decide⟩,by decide⟩;refine yL rfl (yL rfl ?_);have:=pN a (Gf.x2 a);rw[vl]at this;exact this
 ·exact MV (b:=(0:Int)==0) (by decide) ⟨rfl,rfl⟩
def iQ:List Int:=(qC 255).map fun i=>((Gf.pw i).toNat:Int)
def rN:List Int:=(qC 256).map fun x=>if x=0 then 0 else((Gf.lg (yo x):Nat):Int)
theorem gz:iQ.length=255:=by simp[iQ]
theorem xB:rN.length=256:=by simp[rN]
def di:List Value:=iQ.map (Sc.enc (.int .u8))++rN.map (Sc.enc (.int .i64))
abbrev gA(h:Heap)(a:Addr):Prop:=cw h a gu di
theorem Oj(k:IntKind)(l:List Int):(l.map (Sc.enc (.int k))).all (·.oneCell')=true:=by
 rw[List.all_map,qM];intro x _;rfl
theorem Vt(h:Heap):ac vV SM #[] h fun v h'=>v=vQ (iQ.map (Sc.enc (.int .u8))).toArray/\Sp h h' []:=by
 refine Qs ?_;unfold Ja;refine(Sp.refl h).alloc ae rfl fun a t p=>?_;refine av (fun i:Nat=>(((Gf.pw i).toNat:Int),(i:Int))) (fun i h'=>i<=255/\Sp h h' [au a UI (((qC 255).map fun j=>if j<i then((Gf.pw j).toNat:Int)else 0).map (Sc.enc (.int .u8)))]) (fun i=>255-i) 0 rfl ⟨by omega,?_⟩ ?_
 ·have e:((qC 255).map fun j=>if j<0 then((Gf.pw j).toNat:Int)else 0).map (Sc.enc (.int .u8))=qh 255 (vL vS 0):=by simp;rfl
  rw[e];exact p
 ·rintro i r ⟨q,g⟩;refine ak (fun n=>?_) (fun k=>?_)
  ·dsimp only at n;refine⟨⟨by dsimp only;omega,by dsimp only;omega⟩,?_⟩;dsimp only;rw[show((i:Int).toNat*1)=i by omega];refine g.storeAt ae 0 rfl rfl rfl rfl rfl (by simp;omega) fun h3 f=>?_;refine(Vs (Gf.pw i) h3).mono ?_;rintro v s ⟨rfl,rfl⟩;refine⟨_,rfl,i+1,?_,⟨by omega,?_⟩,by omega⟩
   ·rw[wrap_small _ (by omega) (by omega)];rfl
   ·have e:((((qC 255).map fun j=>if j<i then((Gf.pw j).toNat:Int)else 0).map (Sc.enc (.int .u8))).set i (vL vS (Gf.pw i).toNat))=(((qC 255).map fun j=>if j<i+1 then((Gf.pw j).toNat:Int)else 0).map (Sc.enc (.int .u8))):=by
     apply zH;intro j;simp only[qZ,qN,qw,zt];by_cases d:i=j
     ·subst d;have:i<255:=by omega
      simp[this]
     ·by_cases c:j<255
      ·simp only[d,if_false,zo c,qO];by_cases b:j<i
       ·rw[if_pos b,if_pos (by omega)]
       ·rw[if_neg b,if_neg (by omega)]
      ·simp[d,c]
    rw[<-e];exact f
  ·have m:i=255:=by dsimp only at k;omega
   subst m;have e:((qC 255).map fun j=>if j<255 then((Gf.pw j).toNat:Int)else 0)=iQ:=by
    unfold iQ;apply List.map_congr_left;intro j d;rw[if_pos (qH.1 d)]
   rw[e]at g;have o:=g.box 0 rfl;refine⟨iQ,⟨gz,o.aQ _ (by rw[qi (ql _)])⟩,?_⟩;refine g.storeAll ae 0 rfl rfl (iQ.map (Sc.enc (.int .u8))) rfl (by rw[qw,gz]) (Oj _ _) rfl fun h3 f=>?_;have l:=f.box 0 rfl;exact⟨iQ,⟨gz,l.aQ _ (by rw[qi (ql _)])⟩,rfl,.zip f.ai⟩
theorem aas(h:Heap):ac vV XN #[vQ (iQ.map (Sc.enc (.int .u8))).toArray] h fun v h'=>v=vQ (rN.map (Sc.enc (.int .i64))).toArray/\Sp h h' []:=by
 refine Va iQ ?_;unfold Pc;refine(Sp.refl h).boxed fun a D y=>?_;refine y.alloc ae rfl fun w B p=>?_;have m:=p.box 0 rfl;refine⟨iQ,⟨gz,m.aQ _ (by show List.take _ (iQ.map _)=_;rw[qi (ql _)])⟩,?_⟩;let L:Nat->List Int:=fun i=>(qC 256).map fun x=>if x≠0/\Gf.lg (yo x)<i then((Gf.lg (yo x):Nat):Int)else 0
 refine av (fun i:Nat=>(i:Int)) (fun i h'=>i<=255/\Sp h h' [emp,au w ZY ((L i).map (Sc.enc (.int .i64)))]) (fun i=>255-i) 0 rfl ⟨by omega,?_⟩ ?_
 ·have e:(L 0).map (Sc.enc (.int .i64))=qh 256 (vL vR 0):=by simp[L];rfl
  rw[e];exact p.gf 0 rfl fun _ _=>trivial
 ·rintro i h3 ⟨A,g⟩;refine ak (fun z=>?_) (fun s=>?_)
  ·have c:i<255:=by omega
   have q:=wH (Gf.pw i);refine⟨((Gf.pw i).toNat:Int),⟨by omega,by omega,by simp[iQ,c]⟩,⟨by omega,by omega⟩,?_⟩;rw[show(((Gf.pw i).toNat:Int).toNat*1)=(Gf.pw i).toNat by omega];refine g.storeAt ae 1 rfl rfl rfl rfl rfl (by simp[L];omega) fun u k=>?_;refine⟨i+1,by rw[wrap_small _ (by omega) (by omega)];rfl,⟨by omega,?_⟩,by omega⟩;have e:((L i).map (Sc.enc (.int .i64))).set (Gf.pw i).toNat (vL vR i)=(L (i+1)).map (Sc.enc (.int .i64)):=by
    apply zH;intro j;simp only[qZ,qN,qw,zt,L];by_cases f:(Gf.pw i).toNat=j
    ·subst f;simp only[if_true,zo q,qO,q];have n:(Gf.pw i).toNat≠0:=fun h0=>Gf.Xe i c (yh.1 h0);rw[yC,Gf.Xd i c,if_pos ⟨n,by omega⟩]
    ·by_cases d:j<256
     ·simp only[f,if_false,zo d,qO];by_cases b:j=0
      ·simp[b]
      ·have E:Gf.lg (yo j)≠i:=fun h0=>by
        apply f;rw[<-h0,Gf.Xc _ (fun t=>b (by have:=congrArg UInt8.toNat t;simpa[yX d]using this))];simp[yX d]
       by_cases o:Gf.lg (yo j)<i
       ·rw[if_pos ⟨b,o⟩,if_pos ⟨b,by omega⟩]
       ·rw[if_neg fun r=>o r.2,if_neg fun r=>o (by omega)]
     ·simp[f,d]
   rw[<-e];exact k
  ·have c:i=255:=by omega
   subst c;have e:L 255=rN:=by
    unfold rN;apply List.map_congr_left;intro j f;by_cases b:j=0
    ·simp[b]
    ·rw[if_pos ⟨b,Gf.KH _⟩,if_neg b]
   rw[e]at g;have m:=g.box 1 rfl;refine⟨rN,⟨xB,m.aQ _ (by rw[qi (ql _)])⟩,?_⟩;refine g.storeAll ae 1 rfl rfl (rN.map (Sc.enc (.int .i64))) rfl (by rw[qw,xB]) (Oj _ _) rfl fun u k=>?_;have l:=k.box 1 rfl;exact⟨rN,⟨xB,l.aQ _ (by rw[qi (ql _)])⟩,rfl,.zip k.ai⟩
theorem uC(h:Heap):ac vV ZZ #[] h fun v h'=>∃a:Addr,v=vN (some a)/\Sp h h' [au a gu di]:=by
 refine XJ ?_;unfold SC;refine(Vt h).mono ?_;rintro v u ⟨rfl,q⟩;refine⟨iQ,rfl,?_⟩;refine q.alloc ae rfl fun a r m=>?_;refine m.storeAll ae 0 rfl rfl (iQ.map (Sc.enc (.int .u8))) rfl (by rw[qw,gz]) (Oj _ _) (by rw[qw,gz];rfl) fun h3 f=>?_;have l:=f.box 0 rfl;have d:aj h3 a 0 (iQ.map (Sc.enc (.int .u8))):=l.aQ _ (by rw[qi (ql _)]);refine⟨iQ,⟨gz,d⟩,iQ,⟨gz,d⟩,?_⟩;refine(aas h3).mono ?_;rintro v s ⟨rfl,j⟩;refine⟨rN,rfl,nC.2 ⟨(j.ai).cells l.lt d,trivial⟩,_,FI ae (i:=_) rfl rfl rfl (cells:=di.toArray) ?_,?_⟩
 ·have b:∀z:List Value,z.length=511->wh (fun n=>[(0,255),(255,256)][n]?) z.toArray [(0,vQ (iQ.map (Sc.enc (.int .u8))).toArray),(1,vQ (rN.map (Sc.enc (.int .i64))).toArray)]=some di.toArray:=by
   intro z b;have e:z=[]++z.take 255++z.drop 255:=by simp
   conv=>lhs;rw[e]
   rw[Ro (vs:=iQ.map (Sc.enc (.int .u8))) rfl (by simp[gz]) (by simp[gz,b])];have e2:[]++iQ.map (Sc.enc (.int .u8))++z.drop 255=iQ.map (Sc.enc (.int .u8))++z.drop 255++[]:=by simp
   rw[e2,Ro (vs:=rN.map (Sc.enc (.int .i64))) rfl (by simp[gz,xB]) (by simp[xB,b])];simp[wh,di]
  exact b _ rfl
 ·have p:(Value.agg di.toArray).cells.toList=di:=rfl;refine(f.comp j).boxed fun o t k=>?_;have c:=k.box 0 rfl;exact⟨nC.2 ⟨c.aQ _ (by rw[qi (ql _)]),trivial⟩,o,rfl,k.take 1 (fun i A g=>by cases i with|zero=>exact g|succ i=>simp at g)⟩
theorem Hp{h:Heap}{a:Addr}(c:gA h a)(n:Nat)(b:n<255):cellOf h (a.add n)=some (vL vS (Gf.pw n).toNat):=
 c.cell (by rw[di,qn (by simp[gz,b])];simp[iQ,b])
theorem Hq{h:Heap}{a:Addr}(c:gA h a)(x:UInt8)(d:x≠0):cellOf h ((a.add 255).add x.toNat)=some (vL vR (Gf.lg x)):=by
 have f:=c.addr;have e:(a.add 255).add x.toNat=a.add (255+x.toNat):=by rw[f,add_eq,add_eq,add_eq];congr 1;omega
 rw[e];refine c.cell ?_;have b:=wH x;have h0:x.toNat≠0:=fun h0=>d (yh.1 h0);rw[di,qj (by simp[gz])];simp[gz,rN,b,h0]
theorem rO(a:Addr)(h:Heap):ac vV LU #[vN (some a)] h fun v h'=>v=vN (some a)/\h'=h:=by
 refine JW (some a) ?_;unfold CJ;exact Dg rfl ⟨rfl,rfl⟩
theorem tJ(a:Addr)(h:Heap):ac vV UY #[vN (some a)] h fun v h'=>v=vN (some a)/\h'=h:=by
 refine SK (some a) ?_;unfold LH;exact Dg rfl ⟨rfl,rfl⟩
theorem QA(a:Addr)(h:Heap):ac vV Vh #[vN (some a)] h fun v h'=>v=vN (some a)/\h'=h:=by
 refine SV (some a) ?_;unfold LW;exact Dg rfl ⟨rfl,rfl⟩
theorem DX{x:UInt8}:((x.toNat:Int)=0)↔x=0:=⟨fun h=>yh.1 (by simpa using h),fun h=>by rw[h];rfl⟩
theorem Kg(a:Addr)(x y:UInt8)(h:Heap)(d:gA h a):ac vV AJ #[vN (some a),vL vS x.toNat,vL vS y.toNat] h fun v h'=>v=vL vS (Gf.mul x y).toNat/\h'=h:=by
 refine JT (some a) _ _ ?_;unfold CE;refine ba ?_;refine cx (fun h0=>⟨by rw[Gf.mul,if_pos (.inl (DX.1 h0))];rfl,rfl⟩) (fun i=>?_);refine cx (fun h0=>⟨by rw[Gf.mul,if_pos (.inr (DX.1 h0))];rfl,rfl⟩) (fun g=>?_);have b:x≠0:=fun h0=>i (DX.2 h0);have c:y≠0:=fun h0=>g (DX.2 h0);refine(rO a h).mono ?_;rintro v j ⟨rfl,rfl⟩;have l:=wH x;have k:=wH y;have l1:=Gf.KH x;have l2:=Gf.KH y;refine⟨some a,rfl,a,rfl,⟨by omega,by omega⟩,(Gf.lg x:Int),?_,a,rfl,⟨by omega,by omega⟩,(Gf.lg y:Int),?_,by decide,a,rfl,?_⟩
 ·rw[show((x.toNat:Int).toNat*1)=x.toNat by omega];exact Hq d x b
 ·rw[show((y.toNat:Int).toNat*1)=y.toNat by omega];exact Hq d y c
 rw[wrap_small _ (by omega) (by omega)];have e:zW ((Gf.lg x:Int)+(Gf.lg y:Int)) 255=(((Gf.lg x+Gf.lg y)%255:Nat):Int):=by
  rw[yu (by omega)];rfl
 rw[e];have f:=yE (Gf.lg x+Gf.lg y) (show 255>0 by decide);refine⟨⟨by omega,by omega⟩,_,?_,by rw[Gf.mul,if_neg (by simp[b,c])],rfl⟩;rw[show((((Gf.lg x+Gf.lg y)%255:Nat):Int).toNat*1)=(Gf.lg x+Gf.lg y)%255 by omega];exact Hp d _ f
theorem acx(a:Addr)(x:UInt8)(h:Heap)(d:gA h a):ac vV LN #[vN (some a),vL vS x.toNat] h fun v h'=>v=vL vS (Gf.inv x).toNat/\h'=h:=by
 refine JU (some a) _ ?_;unfold CF;refine cx (fun h0=>⟨by rw[Gf.inv,if_pos (DX.1 h0)];rfl,rfl⟩) (fun f=>?_);have b:x≠0:=fun h0=>f (DX.2 h0);refine(rO a h).mono ?_;rintro v g ⟨rfl,rfl⟩;have i:=wH x;have l1:=Gf.KH x;refine⟨some a,rfl,a,rfl,⟨by omega,by omega⟩,(Gf.lg x:Int),?_,by decide,a,rfl,?_⟩
 ·rw[show((x.toNat:Int).toNat*1)=x.toNat by omega];exact Hq d x b
 rw[wrap_small _ (by omega) (by omega)];have e:zW (255-(Gf.lg x:Int)) 255=(((255-Gf.lg x)%255:Nat):Int):=by
  rw[yu (by omega)];omega
 rw[e];have c:=yE (255-Gf.lg x) (show 255>0 by decide);refine⟨⟨by omega,by omega⟩,_,?_,by rw[Gf.inv,if_neg b],rfl⟩;rw[show((((255-Gf.lg x)%255:Nat):Int).toNat*1)=(255-Gf.lg x)%255 by omega];exact Hp d _ c
theorem acy(a:Addr)(n:Int)(h:Heap)(i:gA h a):ac vV LR #[vN (some a),vL vR n] h fun v h'=>v=vL vS (Gf.pw (n%255).toNat).toNat/\h'=h:=by
 refine JV (some a) n ?_;unfold CG;have j:=va n (show(0:Int)<255 by decide);have g:-255<n.tmod 255:=Int.lt_tmod_of_pos n (by decide);have b:=Rn n 255 (by decide);have d:=wY n (show(255:Int)≠0 by decide);have f:=z8 n (show(0:Int)<255 by decide);refine⟨by decide,cl (fun s h'=>s=n%255/\h'=h) ?_ ?_⟩
 ·refine ak (fun e=>?_) (fun c=>?_)
  ·rw[if_pos e]at b;exact⟨by rw[wrap_small _ (by omega) (by omega),b],rfl⟩
  ·rw[if_neg c]at b;exact⟨b.symm,rfl⟩
 ·rintro s h' ⟨rfl,rfl⟩;refine(rO a h').mono ?_;rintro v g ⟨rfl,rfl⟩;refine⟨some a,rfl,a,rfl,⟨d,f⟩,_,?_,rfl,rfl⟩;rw[wN];exact Hp i _ (by omega)
theorem lA(p:Pm)(h:Heap):ac vV UT #[kB p] h fun v h'=>v=vL vR (bX p)/\Sp h h' []:=by
 refine SF p ?_;unfold LB;refine(Sp.refl h).boxed fun a f d=>?_;refine⟨p,(d.box 0 rfl).aQ _ rfl,?_⟩;refine(dN p f).mono ?_;rintro v i ⟨rfl,g⟩;have b:=d.comp g;have c:=b.box 0 rfl;refine⟨_,rfl,bg (fun e=>⟨by simp[bX,e],.zip b.ai⟩) (fun e=>?_)⟩;refine⟨_,c.cell0 rfl,_,c.cell rfl,?_,.zip b.ai⟩;have:=(bU p).1 e;rw[wrap_small _ (by omega) (by omega),bX,if_pos e]
theorem aat(n i:Int)(h:Heap):ac vV Vg #[vL vR n,vL vR i] h fun v h'=>∃s:Sl,v=vM s.ptr s.len s.cap/\
  Sp h h' [an aD s 1 aC (if 1<=n/\n<=64/\0<=i/\i<n then(qh n.toNat (0:UInt8)).set i.toNat 1 else[])]:=by
 refine SU n i ?_;unfold LQ;have a:∀c:Prop,¬c->[Decidable c]->Sp h h [an aD ⟨none,0,0⟩ 1 aC (if c then(qh n.toNat (0:UInt8)).set i.toNat 1 else[])]:=fun c b _=>by
  rw[if_neg b];exact(Sp.refl h).nil aD 1 aC
 refine ba ?_;refine ak (fun e=>⟨⟨none,0,0⟩,rfl,a _ (by omega)⟩) (fun l=>?_);refine ak (fun e=>⟨⟨none,0,0⟩,rfl,a _ (by omega)⟩) (fun e2=>?_);refine ak (fun e=>⟨⟨none,0,0⟩,rfl,a _ (by omega)⟩) (fun k=>?_);refine ak (fun e=>⟨⟨none,0,0⟩,rfl,a _ (by omega)⟩) (fun j=>?_);refine(Sp.refl h).make ae aC ⟨_,_,rfl,rfl,rfl,rfl,rfl,rfl⟩ (by decide) 0 rfl rfl n.toNat n.toNat (by omega) (by omega) (ql _) (by omega) fun s m o b f=>?_;refine f.set ae 0 rfl (fun _=>rfl) rfl i.toNat (by omega) (by simp;omega) 1 rfl rfl rfl fun g d=>?_;refine⟨s,rfl,?_⟩;rw[if_pos (by omega)];exact d
theorem QB(s:Int)(h:Heap):ac vV UU #[vL vT s] h fun v h'=>∃a:Addr,v=vN (some a)/\Sp h h' [au a fg [vL vU (qc vU s)]]:=by
 refine SH s ?_;unfold LC;exact(Sp.refl h).boxed fun a c b=>⟨a,rfl,b⟩
theorem CQ(a:Addr)(s:Int)(h:Heap)(d:cw h a fg [vL vU s]):ac vV Iv #[vN (some a)] h fun v h'=>v=vL vT (told s)/\cw h' a fg [vL vU (El s)]/\aU (·≠a.block) h h':=by
 refine GN (some a) ?_;unfold xr;refine Dg rfl ⟨a,rfl,s,d.cell0 rfl,a,rfl,?_⟩;refine Di ae d rfl _ rfl rfl rfl (ql _) fun e b c _=>?_;exact⟨a,rfl,_,b.cell0 rfl,by decide,rfl,b,c⟩
theorem Mg(a:Addr)(s n:Int)(h:Heap)(d:cw h a fg [vL vU s])(i:0<n)(f:n<=2^62):ac vV GV #[vN (some a),vL vR n] h fun v h'=>v=vL vR (lj s n)/\cw h' a fg [vL vU (El s)]/\aU (·≠a.block) h h':=by
 refine Fw (some a) n ?_;unfold ue;refine ba (Dg rfl (ak (fun e=>by omega) fun _=>?_));refine(CQ a s h d).mono ?_;rintro v g ⟨rfl,b,c⟩;exact⟨_,rfl,by rw[wrap_u64];omega,rfl,b,c⟩
theorem Wz(a b:Nat)(d:a<=2^40)(c:b<=2^40):qc vR ((a:Int)+(b:Int))=((a+b:Nat):Int):=by
 rw[wrap_small _ (by omega) (by omega)];rfl
theorem aau(l:Nat)(h:Heap)(f:l<=20):ac vV LV #[vL vR l] h fun v h'=>v=vL vR (eV l)/\h'=h:=by
 have i:∀l:Nat,l<=20->∀r:Nat,r<=5->(∀j,j<r->j*j<l)->r*r<l->r<5:=by decide
 have k:∀l:Nat,l<=20->∀r:Nat,r<=5->(∀j,j<r->j*j<l)->¬r*r<l->r=eV l:=by decide
 refine JX l ?_;unfold CK;refine av (fun r:Nat=>(r:Int)) (fun r h'=>h'=h/\r<=5/\∀j,j<r->j*j<l) (fun r=>5-r) 0 rfl ⟨rfl,by omega,fun j d=>by omega⟩ ?_;rintro r h' ⟨rfl,c,d⟩;have m:r*r<=25:=wb c c;have e:qc vR ((r:Int)*(r:Int))=((r*r:Nat):Int):=by rw[<-wz];exact ug _ (by omega)
 rw[e];refine ak (fun n=>?_) (fun g=>?_)
 ·have a:r*r<l:=by omega
  have o:=i l f r c d a;refine⟨r+1,by rw[wrap_small _ (by omega) (by omega)];rfl,⟨rfl,by omega,fun j b=>?_⟩,by omega⟩;rcases zn.1 b with b|rfl
  ·exact d j b
  ·exact a
 ·exact⟨by rw[k l f r c d (by omega)],rfl⟩
theorem aav(r:Nat)(h:Heap)(a:r<=5):ac vV xq #[vL vU r] h fun v h'=>v=vL vR (HW r)/\h'=h:=by
 intro w b;refine(Tryz.bits_Len (r:Int) w (by omega) (by omega)).mono ?_;rintro e w' ⟨rfl,rfl⟩;have k:∀r:Nat,r<=5->Lib.bitLen r=HW r:=by decide+kernel
 exact⟨_,rfl,cN.refl _,by rw[qp,k r a],b⟩
theorem Vu(l k:Nat)(h:Heap)(b:l<=20)(a:1<=l)(f:k<=20)(d:1<=k):ac vV Iz #[vL vR l,vL vR k] h fun v h'=>v=vL vR (rq l k)/\h'=h:=by
 have m:∀k:Nat,k<=20->1<k->qc vR ((k:Int)*qc vR ((k:Int)-1))=((k*(k-1):Nat):Int)/\k*(k-1)≠0:=by decide
 have y:∀l:Nat,l<=20->1<=l->1<=eV l/\eV l<=5:=by decide
 have c3:∀l:Nat,l<=20->1<=l->qc vR (wC (l:Int) (eV l))=((l/eV l:Nat):Int):=by decide
 have q:∀l:Nat,l<=20->1<=l->∀k:Nat,k<=20->1<=k->qc vR ((l:Int)*k)≠0:=by decide+kernel
 have t:∀k:Nat,k<=20->1<k->qc vR (wC (1048576:Int) (qc vR ((k:Int)*qc vR ((k:Int)-1))))=((1048576/(k*(k-1)):Nat):Int):=by decide+kernel
 have r:∀l:Nat,l<=20->1<=l->qc vR (wC (1048576:Int) (l:Int))=((1048576/l:Nat):Int):=by decide+kernel
 have n:∀l:Nat,l<=20->1<=l->∀k:Nat,k<=20->1<=k->qc vR (wC (qc vR ((1048576:Int)*eV l)) (qc vR ((l:Int)*k)))=((1048576*eV l/(l*k):Nat):Int):=by decide+kernel
 have j:∀l:Nat,l<=20->1<=l->qc vR (wC (qc vR ((qc vR ((1048576:Int)*eV l))*HW (eV l))) (l:Int))=((1048576*eV l*HW (eV l)/l:Nat):Int):=by decide+kernel
 have u:∀l:Nat,l<=20->∀k:Nat,k<=20->1048576*eV l/(l*k)<=2^30/\1048576*eV l*HW (eV l)/l<=2^30/\1048576/(k*(k-1))<=2^30/\1048576/l<=2^30:=by decide+kernel
 refine GW l k ?_;unfold xv;have i:=u l b k f;refine(aau l h b).mono ?_;rintro v x ⟨rfl,rfl⟩;have o:=y l b a;refine⟨_,rfl,by omega,cl (fun s h'=>s=(((if k>1 then 1048576/(k*(k-1))else 1048576/l):Nat):Int)/\h'=x) ?_ ?_⟩
 ·refine ak (fun e=>?_) (fun e=>?_)
  ·have:=m k f (by omega);refine⟨by rw[this.1];omega,by rw[t k f (by omega),if_pos (by omega)],rfl⟩
  ·refine⟨by rw[r l b a,if_neg (by omega)],rfl⟩
 ·rintro s p ⟨rfl,rfl⟩;have z:(if k>1 then 1048576/(k*(k-1))else 1048576/l)<=2^30:=by split<;>first|exact i.2.2.1|exact i.2.2.2
  refine ba ?_;dsimp only;refine⟨show((eV l:Nat):Int)≠0 by omega,?_⟩;rw[c3 l b a];refine ak (fun e=>⟨q l b a k f d,?_,rfl⟩) (fun e=>?_)
  ·rw[n l b a k f d,Wz _ _ (by omega) (zl i.1 (by decide)),rq,if_pos (c:=k<l/eV l) (Int.ofNat_lt.1 e)]
  ·refine cx (fun e2=>?_) (fun e2=>?_)
   ·have w:qc vU (eV l:Int)=(eV l:Int):=by rw[wrap_u64];omega
    rw[w];refine(aav (eV l) p o.2).mono ?_;rintro v h3 ⟨rfl,rfl⟩;refine⟨_,rfl,by omega,?_,rfl⟩;rw[j l b a,Wz _ _ (by omega) (zl i.2.1 (by decide)),rq,if_neg (c:=k<l/eV l) (fun g=>e (Int.ofNat_lt.2 g)),if_pos (c:=k=l/eV l) (vH.1 e2)]
   ·exact⟨by rw[rq,if_neg (c:=k<l/eV l) (fun g=>e (Int.ofNat_lt.2 g)),if_neg (c:=k=l/eV l) (fun g=>e2 (vH.2 g)),yl],rfl⟩
theorem XZ(l:Nat)(h:Heap)(c:l<=20)(a:1<=l):ac vV JR #[vL vR l] h fun v h'=>∃s:Sl,v=vM s.ptr s.len s.cap/\Sp h h' [an aS s 1 aE (jf l)]:=by
 refine Iw l ?_;unfold AH;refine ba (ak (fun e=>by omega) fun _=>ak (fun e=>by omega) fun _=>?_);refine(Sp.refl h).make ae aE nw (by decide) 0 rfl rfl 0 l rfl rfl (by omega) (by omega) fun s q f r m=>?_;refine av (fun t:Sl×Nat=>(t.1,((mf l t.2:Nat):Int),((t.2+1:Nat):Int))) (fun t h'=>t.2<=l/\Sp h h' [an aS t.1 1 aE ((jf l).take t.2)]) (fun t=>l-t.2) (s,0) rfl ⟨by simp,by simpa using m⟩ ?_;rintro⟨s,k⟩ g ⟨p,b⟩;dsimp only at*;refine ak (fun e=>?_) (fun e=>?_)
 ·refine(Vu l (k+1) g c a (by omega) (by omega)).mono ?_;rintro v h3 ⟨rfl,rfl⟩;refine⟨_,rfl,?_⟩;have u:=HX l c k (by omega);have o:=KI l c (k+1) (by omega);have e2:qc vR ((mf l k:Int)+(rq l (k+1):Int))=((mf l (k+1):Nat):Int):=by rw[wrap_small _ (by omega) (by omega),mf];rfl
  dsimp only;rw[e2];refine b.push ae 0 rfl nw rfl (by decide) (fun _=>rfl) ja _ rfl (by decide) (by rw[qX];omega) fun d n i=>?_;refine⟨(d,k+1),by dsimp only;rw[wrap_small _ (by omega) (by omega)];rfl,⟨by dsimp only;omega,?_⟩,by dsimp only;omega⟩;have j:(jf l).take (k+1)=(jf l).take k++[((mf l (k+1):Nat):Int)]:=by
   rw[aH _ _ (by rw[kP];omega)];simp[jf]
  dsimp only;rw[j];exact i
 ·refine⟨s,rfl,?_⟩;rw[qi (by rw[kP];omega)]at b;exact b
theorem Vv{p:aA}(t:Sl)(lt:List Int)(x b:Int)(h:Heap)(c:Seq h p t 1 aE lt)(r:0<=x)(a:lt.getLast?=some b)(g:x<b)(q:lt.length<=2^40):
  ac vV Iy #[vM t.ptr t.len t.cap,vL vR x] h fun v h'=>v=vL vR (Xf lt x)/\h'=h:=by
 refine GU t x ?_;unfold xu;have s:=c.len;have j:lt≠[]:=fun e=>by rw[e]at a;cases a
 have n:0<lt.length:=List.length_pos_iff.2 j;have f:lt[lt.length-1]=b:=by rw[List.getLast?_eq_getElem?,qd (by omega)]at a;simpa using a
 refine ba (cx (fun e=>by omega) fun _=>ak (fun e=>by omega) fun _=>?_);rw[wrap_small _ (by omega) (by omega)];refine c.bv (lt.length-1) (by omega) (by omega) _ rfl ?_;rw[f];refine ak (fun e=>by omega) fun _=>?_;have d:(lt.findIdx fun y=>decide (y>x))<lt.length:=List.findIdx_lt_length_of_exists ⟨b,List.mem_of_getLast? a,by simpa using g⟩;refine av (fun k:Nat=>(k:Int)) (fun k h'=>h'=h/\k<=(lt.findIdx fun y=>decide (y>x))) (fun k=>lt.length-k) 0 rfl ⟨rfl,by omega⟩ ?_;rintro k h' ⟨rfl,m⟩;refine ak (fun e=>?_) (fun e=>by omega);have i:k<lt.length:=by omega
 refine c.bv k rfl i _ rfl ?_;rw[wrap_small _ (by omega) (by omega)];refine ak (fun e2=>?_) (fun e2=>?_)
 ·have:(lt.findIdx fun y=>decide (y>x))=k:=Nat.le_antisymm (Nat.le_of_not_lt fun l=>by have:=List.not_of_lt_findIdx l;simp at this;omega) m;exact⟨by rw[Xf,this];rfl,rfl⟩
 ·refine⟨k+1,rfl,⟨rfl,?_⟩,by omega⟩;refine Nat.lt_of_le_of_ne m fun o=>?_;have:=List.findIdx_getElem (xs:=lt) (p:=fun y=>decide (y>x)) (w:=d);simp only[<-o]at this;simp at this;omega
theorem IA(t:Sl)(n:Nat)(a:Addr)(s:Int)(h:Heap)(g:Seq h (·≠a.block) t 1 aE (jf n))(k:cw h a fg [vL vU s])(b:1<=n)(i:n<=20):
  ac vV LD #[vM t.ptr t.len t.cap,vN (some a)] h fun v h'=>v=vL vR (HY s n)/\cw h' a fg [vL vU (El s)]/\aU (·≠a.block) h h':=by
 refine JQ t (some a) ?_;unfold Cz;have o:=g.len;rw[kP]at o;refine cx (fun e=>by omega) fun _=>?_;rw[wrap_small _ (by omega) (by omega)];refine g.bv (n-1) (by omega) (by rw[kP];omega) _ rfl ?_;have l:(jf n)[n-1]'(by rw[kP];omega)=((mf n n:Nat):Int):=by simp only[jf,zY,List.getElem_range];rw[show n-1+1=n by omega]
 rw[l];have q:=RC n i b;have j:=HX n i n i;refine(Mg a s _ h k (by omega) (by omega)).mono ?_;rintro v m ⟨rfl,f,d⟩;have c:=uY s (mf n n) (by omega) (by omega);refine⟨_,rfl,(Vv t (jf n) _ _ m (g.ai d) c.1 (KJ n b) c.2 (by rw[kP];omega)).mono ?_⟩;rintro v p ⟨rfl,rfl⟩;exact⟨_,rfl,rfl,f,d⟩
theorem aaw(a:Addr)(s:Int)(n k:Nat)(h:Heap)(F:cw h a fg [vL vU s])(T:n<=64)(Q:k<=n):
  ac vV NR #[vN (some a),vL vR n,vL vR k] h fun v h'=>∃r:Sl,v=vM r.ptr r.len r.cap/\aa (fun b=>b<h.size/\¬b=a.block) h h' [au a fg [vL vU (fR n s (upto n) k).1],an aS r 1 aE (HV s n k)]:=by
 refine LF (some a) n k ?_;unfold EP;refine ba (ak (fun e=>by omega) fun _=>ak (fun e=>by omega) fun _=>ak (fun e=>by omega) fun _=>ak (fun e=>by omega) fun _=>?_);have G:aa (fun b=>b<h.size/\¬b=a.block) h h [au a fg [vL vU s]]:=.Ze (fun b=>b=a.block) (fun b D=>by rw[D];exact F.lt) ⟨F,rfl⟩;refine G.make ae aE nw (by decide) 0 rfl rfl n n rfl rfl (ql _) (by omega) fun v S V U M=>?_;refine av (fun i:Nat=>(i:Int)) (fun i h'=>i<=n/\aa (fun b=>b<h.size/\¬b=a.block) h h' [au a fg [vL vU s],an aS v 1 aE ((upto n).take i++qh (n-i) 0)]) (fun i=>n-i) 0 rfl ⟨by omega,by simpa using M⟩ ?_;rintro i O ⟨N,q⟩;refine ak (fun e=>?_) (fun e=>?_)
 ·have m:i<n:=by omega
  refine q.set ae 1 rfl (fun _=>rfl) rfl i rfl (by simp[gi];omega) (i:Int) rfl rfl rfl fun h3 f=>?_;refine⟨i+1,by rw[wrap_small _ (by omega) (by omega)];rfl,⟨by omega,?_⟩,by omega⟩;have e2:((upto n).take i++qh (n-i) 0).set i (i:Int)=(upto n).take (i+1)++qh (n-(i+1)) 0:=by
   have t:((upto n).take i).length=i:=by rw[qX,gi];omega
   rw[aH _ _ (by rw[gi];omega),za _ _ (by omega),t,zf,show n-i=n-(i+1)+1 by omega,yG,zw];simp[upto]
  rw[<-e2];exact f
 ·have m:i=n:=by omega
  subst m;have e2:(upto i).take i++qh (i-i) 0=upto i:=by rw[qi (by rw[gi];omega)];simp
  rw[e2]at q;refine av (fun j:Nat=>(j:Int)) (fun j h'=>j<=k/\aa (fun b=>b<h.size/\¬b=a.block) h h' [au a fg [vL vU (fR i s (upto i) j).1],an aS v 1 aE (fR i s (upto i) j).2]) (fun j=>k-j) 0 rfl ⟨by omega,q⟩ ?_;rintro j h3 ⟨R,f⟩;have B:=uZ i s (upto i) j;rw[gi]at B;refine ak (fun I=>?_) (fun I=>?_)
  ·rw[wrap_small _ (by omega) (by omega)];have c:((i:Int)-(j:Int))=((i-j:Nat):Int):=by omega
   rw[c];refine(Mg a _ _ h3 (f.box 0 rfl) (by omega) (by omega)).mono ?_;rintro w E ⟨rfl,u,p⟩;have l:=f.BU 0 rfl p u;have K:=uY (fR i s (upto i) j).1 ((i-j:Nat):Int) (by omega) (by omega);refine⟨_,rfl,?_⟩;dsimp only;rw[wrap_small _ (by omega) (by omega),wrap_small _ (by omega) (by omega)];have L:(j:Int)+lj (fR i s (upto i) j).1 ((i-j:Nat):Int)=((j+(lj (fR i s (upto i) j).1 ((i-j:Nat):Int)).toNat:Nat):Int):=by omega
   have d:j+(lj (fR i s (upto i) j).1 ((i-j:Nat):Int)).toNat<(fR i s (upto i) j).2.length:=by omega
   rw[L];have g:=l.seq 1 rfl (fun _=>rfl);refine g.bv _ rfl d _ rfl ?_;refine g.bv j rfl (by omega) _ rfl ?_;refine l.set ae 1 rfl (fun _=>rfl) rfl j rfl (by omega) _ rfl rfl rfl fun H y=>⟨trivial,?_⟩
   refine y.set ae 1 rfl (fun _=>rfl) rfl _ rfl (by simpa using d) _ rfl rfl rfl fun P J=>⟨trivial,?_⟩
   refine⟨j+1,rfl,⟨by omega,?_⟩,by omega⟩;rw[fR,sa,kr,kr,Go.Vc.getD_lt d,Go.Vc.getD_lt (show j<(fR i s (upto i) j).2.length by omega)];exact J
  ·have A:j=k:=by omega
   subst A;refine⟨⟨by omega,by omega⟩,?_⟩;have z:=f.seq 1 rfl (fun _=>rfl);refine(mU ⟨v.ptr,j,v.cap⟩ ((fR i s (upto i) j).2.take j) h3 (z.take j (by omega)) (by rw[qX];omega)).mono ?_;rintro w E ⟨r,rfl,l⟩;refine⟨r,rfl,?_⟩;refine(Ph r _ E (l.own 0 rfl) (by rw[qX];omega)).mono ?_;rintro w H ⟨rfl,o,x⟩;have y:=(f.comp l).oq 2 rfl x o;exact⟨(),rfl,r,rfl,y.del 1⟩
theorem AN(p:Pm)(seed id:Int)(h:Heap):ac vV XI #[kB p,vL vT seed,vL vR id] h fun v h'=>∃r:Sl,v=vM r.ptr r.len r.cap/\Sp h h' [an aS r 1 aE (if bM p&&bR id then cV (bX p).toNat seed id else[])]:=by
 refine UQ p seed id ?_;unfold OY;refine(Sp.refl h).boxed fun a E F=>?_;refine ba ?_;refine⟨p,(F.box 0 rfl).aQ _ rfl,(dN p E).mono ?_⟩;rintro v l ⟨rfl,H⟩;have j:=F.comp H;have u:(bM p&&bR id)=false->Sp h l [an aS ⟨none,0,0⟩ 1 aE (if bM p&&bR id then cV (bX p).toNat seed id else[])]:=fun J=>by
  rw[J];exact(j.nil aS 1 aE).take 1 (fun i A c=>by cases i with|zero=>exact c|succ i=>simp at c)
 refine⟨_,rfl,bg (fun e=>⟨⟨none,0,0⟩,rfl,u (by rw[e];rfl)⟩) fun w=>?_⟩;refine ak (fun e=>⟨⟨none,0,0⟩,rfl,u (by simp[bR];omega)⟩) fun U=>?_;refine ak (fun e=>⟨⟨none,0,0⟩,rfl,u (by simp[bR];omega)⟩) fun e2=>?_;have hid:bR id=true:=by simp[bR];omega
 rw[w,hid];refine⟨p,(j.box 0 rfl).aQ _ rfl,(lA p l).mono ?_⟩;rintro v h3 ⟨rfl,O⟩;have G:=j.comp O;have P:=(bU p).1 w;have V:bX p=p.1+p.2.1:=by rw[bX,if_pos w]
 obtain⟨n,S⟩:∃n:Nat,bX p=n:=⟨(bX p).toNat,by omega⟩
 refine⟨_,rfl,?_⟩;dsimp only;rw[S,qp];refine(QB _ h3).mono ?_;rintro v L ⟨d,rfl,D⟩;refine⟨some d,rfl,?_⟩;refine(CQ d _ L (D.box 0 rfl)).mono ?_;rintro v Q ⟨rfl,k,o⟩;have z:=D.BU 0 rfl o k;refine⟨_,rfl,?_⟩;refine(XZ n Q (by omega) (by omega)).mono ?_;rintro v M ⟨t,rfl,s⟩;have f:=z.comp s;refine⟨t,rfl,?_⟩;have y:∀b,t.on b->b≠d.block:=fun b x T=>by
  have E:=(s.fresh 0 rfl).2 b x;have l:=(z.box 0 rfl).lt;omega
 refine(IA t n d _ M ((s.own 0 rfl).seq (fun _=>rfl) y) (f.box 0 rfl) (by omega) (by omega)).mono ?_;rintro v I ⟨rfl,g,m⟩;have B:=f.BU 0 rfl m g;refine⟨_,rfl,?_⟩;refine(aaw d _ n _ I (B.box 0 rfl) (by omega) (vW _ n (by omega) (by omega))).mono ?_;rintro v h8 ⟨r,rfl,N⟩;have R:=B.call 0 rfl (fun b=>b=d.block) (fun q K b x=>by rw[x];exact K.2) N;exact⟨r,rfl,r,rfl,((G.comp R).take 3 (fun i A c=>by cases i with|zero=>exact c|succ i=>simp at c))⟩
end Go.Proofs.YtdhamoojccmbdaaGreatDoor
