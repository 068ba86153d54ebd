/- Lemmas for the proof of the law; no condition. -/
import Derived.Test.YtbhpnfilcomonaaGreatDoorTabS
import Derived.Test.YtbhpnfilcomonaaGreatDoorShelfA
import Derived.Test.YtbhpnfilcomonaaGreatDoorPlE
import Derived.Test.YtbhpnfilcomonaaGreatDoorPlF
import Derived.Test.YtbhpnfilcomonaaGreatDoorPlG
set_option linter.unusedVariables false
set_option linter.unusedSimpArgs false
open Go.Proofs.Tryz renaming prog -> xa
open Go.Value renaming agg -> vV, bool -> vU, int -> vQ, pointer -> vS, slice -> vR, string -> vT
open Go.IntKind renaming bits -> qj, i64 -> vW, signed -> yp, u32 -> vY, u64 -> vZ, u8 -> vX, wrap -> qc
open Option renaming getD_some -> vn, isSome_iff_exists -> wE, map_some -> qJ, some -> wG
open Int renaming ediv_le_self -> vr, fdiv -> qL, mul_le_mul -> yc, mul_nonneg -> vk, mul_pos -> vI, natCast_mul -> wc, ofNat_inj -> y0, tdiv -> w5, tmod -> zY, tmod_eq_emod_of_nonneg -> ye, tmod_lt_of_pos -> y8, toNat_natCast -> qq
open Nat renaming add_assoc -> w7, add_sub_cancel_left -> zg, le_refl -> qp, le_trans -> zH, lt_of_lt_of_le -> qQ, mod_eq_of_lt -> yP, mod_lt -> yM, mul_le_mul_right -> zm, mul_one -> wO, sub_self -> qZ, succ_mul -> zU, zero_le -> zo
open List renaming all_eq_false -> yJ, all_eq_true -> qU, any_append -> vx, any_eq_true -> yu, append_assoc -> qm, append_nil -> qM, cons_append -> zk, drop_drop -> zq, drop_eq_getElem_cons -> qS, drop_of_length_le -> zd, eq_nil_of_length_eq_zero -> qK, exists_cons_of_length_eq_add_one -> wY, ext_getElem? -> zr, filter_append -> zn, filter_cons -> zx, filter_nil -> vy, flatMap_append -> qY, flatMap_cons -> zf, flatMap_nil -> wx, foldl_cons -> zA, foldl_nil -> wD, getD_eq_getElem?_getD -> qf, getElem?_append_left -> ql, getElem?_append_right -> qg, getElem?_cons_succ -> qo, getElem?_eq_getElem -> qd, getElem?_eq_none -> qX, getElem?_eq_some_iff -> qk, getElem?_map -> qP, getElem?_range -> zb, getElem?_replicate -> wg, getElem?_set -> qW, getElem?_set_ne -> zN, getElem?_set_self -> zO, getElem?_zipWith -> zB, getElem_drop -> wA, getElem_mem -> qn, getElem_of_mem -> qN, getElem_take -> yK, length -> yw, length_append -> qw, length_cons -> zi, length_drop -> qV, length_filter_le -> zJ, length_map -> qC, length_nil -> yE, length_range -> zt, length_set -> zy, length_take -> qR, length_zipWith -> yW, map_append -> za, map_congr_left -> yX, map_map -> we, map_mergeSort -> yd, mem_append -> qH, mem_cons -> zj, mem_filter -> zh, mem_flatMap -> zL, mem_map -> qE, mem_mergeSort -> wq, mem_of_getElem? -> wu, mem_range -> qF, mem_singleton -> qB, nil_append -> zW, pairwise_cons -> zF, range -> qD, range_succ -> zE, replicate -> qh, replicate_succ -> yU, set_append_right -> q9, set_cons_succ -> wF, set_cons_zero -> zR, take_append_drop -> qA, take_append_of_le_length -> yy, take_length -> zc, take_of_length_le -> qi
open BitVec renaming ofInt -> qy, ofInt_natCast -> wH, ofNat -> vB
open Bool renaming and_eq_true -> qz, false_eq_true -> zl, false_or -> yZ, not_false -> w9, not_true -> wS, true_and -> z8
open Prod renaming ext -> y6, fst -> qx, snd -> ze
open Go.Instr renaming fill -> wi, storeAt -> qe
open UInt8 renaming ofNat -> w8, ofNat_toNat -> yn, toNat_inj -> yk, toNat_lt -> wC, xor_comm -> vG, zero_xor -> wL
set_option maxRecDepth 100000
namespace Go.Vc
open Go Wl
abbrev Cells:=bR
abbrev powC(w:Pow)(l:Int):aQ:=[vU w.off,vU w.fuse.isSome,vQ vW l,vQ vW w.offs]
def Fu(w:Pow)(l:Int):Prop:=∀k,w.fuse=some k->l=k/\k<2^62
def bP(t:Nat)(a:Addr)(w:Pow):HP:=HP.ex fun l:Int=>(ag a t (powC w l)).and (Fu w l)
section
variable {B:ap} {h0 h h':Heap} {As:List HP} {t:Nat} {a:Addr} {w:Pow}
theorem aa.pd(H:aa B h0 h (bP t a w::As)):∃l,Fu w l/\aa B h0 h (ag a t (powC w l)::As):=by
 obtain⟨l,H⟩:=H.uk;obtain⟨H,b⟩:=H.lA;exact⟨l,b,H⟩
theorem aa.DM{l:Int}(b:Fu w l)(H:aa B h0 h (ag a t (powC w l)::As)):aa B h0 h (bP t a w::As):=
 (H.tolA b).En (F:=fun l:Int=>(ag a t (powC w l)).and (Fu w l)) l
end
end Go.Vc
namespace Go.Qw
open Go Go.Vc Go.Proofs Wl
section
variable {B:ap} {h0 h h':Heap} {As:List HP} {t:Nat} {a:Addr} {w:Pow}
theorem BX(l:Int)(b:bZ h a 56 (powC w l)):ac xa 80 #[vS (some a)] h fun v h'=>v=vU (!w.off)/\h'=h:=by
 refine Ay (some a) ?_;unfold pN;exact bq (fun _=>⟨a,rfl,w.off,b.cell0 rfl,rfl,rfl⟩) fun e=>by cases e
theorem AO(l:Int)(b:bZ h a 56 (powC w l)):ac xa 24 #[vS (some a)] h fun v h'=>v=vQ vW w.offs/\h'=h:=by
 refine uE (some a) ?_;unfold nU;exact bq (fun e=>by cases e) fun _=>⟨a,rfl,w.offs,b.cell rfl,rfl,rfl⟩
theorem HX(h:Heap):ac xa 5 #[] h fun v h'=>∃a,v=vS (some a)/\Sp h h' [bP 56 a Pow.new]:=by
 refine IG ?_;unfold Cu;refine(Sp.refl h).boxed fun a c b=>⟨a,rfl,aa.DM (l:=0) (w:=Pow.new) (fun k e=>by cases e) b⟩
theorem AP(H:aa B h0 h (bP 56 a w::As)):ac xa 81 #[vS (some a)] h fun v h'=>v=vU w.step.1/\aa B h0 h' (bP 56 a w.step.2::As):=by
 obtain⟨l,o,c⟩:=H.pd;refine uK (some a) ?_;unfold od;refine(BX l (c.box 0 rfl)).mono ?_;rintro _ u ⟨rfl,rfl⟩;refine⟨_,rfl,aW (fun e=>?_) (fun e=>?_)⟩
 ·have:w.step=(false,w):=by unfold Pow.step;rw[if_pos (by simpa using e)]
  rw[this];exact⟨rfl,H⟩
 have g:w.off=false:=by simpa using e
 refine⟨a,rfl,_,(c.box 0 rfl).cell rfl,aW (fun e2=>?_) (fun e2=>?_)⟩
 ·have:w.step=(true,w):=by
   unfold Pow.step;rw[if_neg (by simp[g])];cases d:w.fuse with
   |none=>rfl
   |some k=>rw[d]at e2;cases e2
  rw[this];exact⟨rfl,H⟩
 obtain⟨k,d⟩:∃k,w.fuse=some k:=wE.1 e2;obtain⟨rfl,x⟩:=o k d;have s:powC w (k:Int)=[vU false,vU true,vQ vW k,vQ vW w.offs]:=by simp[powC,g,d]
 rw[s]at c;refine⟨a,rfl,_,(c.box 0 rfl).cell rfl,dN (fun q=>?_) (fun q=>?_)⟩
 ·have i:k=0:=by omega
  subst i;have m:w.step=(false,⟨true,some 0,qc vW (w.offs+1)⟩):=by unfold Pow.step;rw[if_neg (by simp[g]),d]
  rw[m];refine⟨a,rfl,c.pk af 0 rfl rfl [vU true] rfl rfl rfl (by simp) fun t n=>?_⟩;refine⟨a,rfl,w.offs,(n.box 0 rfl).cell rfl,a,rfl,n.store af 0 rfl rfl 3 [vQ vW (qc vW (w.offs+1))] rfl rfl rfl (by simp[powC]) fun h3 f=>⟨rfl,?_⟩⟩;refine aa.DM (l:=((0:Nat):Int)) (fun r b=>by cases b;exact⟨rfl,by decide⟩) ?_;exact f
 ·obtain⟨j,rfl⟩:∃j,k=j+1:=⟨k-1,by omega⟩
  have m:w.step=(true,⟨false,some j,w.offs⟩):=by unfold Pow.step;rw[if_neg (by simp[g]),d]
  rw[m];refine⟨a,rfl,_,(c.box 0 rfl).cell rfl,a,rfl,c.store af 0 rfl rfl 2 [vQ vW (qc vW (((j+1:Nat):Int)-1))] rfl rfl rfl (by simp[powC]) fun h3 f=>⟨rfl,?_⟩⟩;refine aa.DM (l:=(j:Int)) (fun r b=>by cases b;exact⟨rfl,by omega⟩) ?_;rw[an _]at f;have p:((j+1:Nat):Int)-1=(j:Int):=by omega
  rw[p]at f;exact f
end
abbrev Pm:=Int×Int×Int
abbrev kP(p:Pm):Value:=vV #[vQ vW p.1,vQ vW p.2.1,vQ vW p.2.2]
theorem dR(p:Pm)(h:Heap):ac xa 23 #[kP p] h fun v h'=>v=vU (bV p)/\Sp h h' []:=by
 refine MC p ?_;unfold HO;refine(Sp.refl h).boxed fun a d i=>?_;have e:=i.box 0 rfl;have c:Sp h d []:=.zip i.ah;have g:cellOf d a=some (vQ vW p.1):=e.cell0 rfl;have f:cellOf d (a.add 1)=some (vQ vW p.2.1):=e.cell rfl;have j:cellOf d (a.add 2)=some (vQ vW p.2.2):=e.cell rfl;unfold bV;refine⟨_,g,al (fun b=>?_) (fun b=>⟨by rw[decide_eq_false b];rfl,c⟩)⟩;rw[decide_eq_true b];refine⟨_,g,al (fun b=>?_) (fun b=>⟨by rw[decide_eq_false b];rfl,c⟩)⟩;rw[decide_eq_true b];refine⟨_,f,al (fun b=>?_) (fun b=>⟨by rw[decide_eq_false b];rfl,c⟩)⟩;rw[decide_eq_true b];refine⟨_,f,al (fun b=>?_) (fun b=>⟨by rw[decide_eq_false b];rfl,c⟩)⟩;rw[decide_eq_true b];refine⟨_,j,al (fun b=>?_) (fun b=>⟨by rw[decide_eq_false b];rfl,c⟩)⟩;rw[decide_eq_true b];exact⟨_,j,rfl,c⟩
abbrev kS:bN C.tosH 22 3 1 [vQ vW 0] 8:=⟨_,_,rfl,rfl,rfl,rfl,rfl,rfl⟩
abbrev iA:bN C.tosH 38 5 1 [vQ vX 0] 1:=⟨_,_,rfl,rfl,rfl,rfl,rfl,rfl⟩
abbrev jy:bN C.tosH 64 38 1 [vR none 0 0] 24:=⟨_,_,rfl,rfl,rfl,rfl,rfl,rfl⟩
theorem kF(s:Sl)(l:aD)(h:Heap)(b:Rd h s 1 aE l)(f:l.length<=2^30):ac xa 83 #[s] h fun v h'=>∃r:Sl,v=r/\Sp h h' [aj 3 r 1 aE l]:=by
 refine pO s ?_;unfold lh;refine bq (fun e=>?_) (fun e=>?_)
 ·have:=b.isNil e;subst this;exact⟨⟨none,0,0⟩,rfl,(Sp.refl h).nil 3 1 aE⟩
 ·refine(Sp.refl h).lit af aE kS rfl [] rfl (by decide) rfl fun i j a=>?_;refine a.append af 0 rfl kS ⟨_,_,rfl,rfl⟩ rfl (by decide) (fun _=>rfl) (b.up a.ah) iU (by simp;omega) fun d g c=>⟨d,rfl,c⟩
theorem jQ(s:Sl)(l:aL)(h:Heap)(b:Rd h s 1 aw l)(f:l.length<=2^30:=by omega):ac xa 56 #[s] h fun v h'=>∃r:Sl,v=r/\Sp h h' [aj 5 r 1 aw l]:=by
 refine ER s ?_;unfold xc;refine bq (fun e=>?_) (fun e=>?_)
 ·have:=b.isNil e;subst this;exact⟨⟨none,0,0⟩,rfl,(Sp.refl h).nil 5 1 aw⟩
 ·refine(Sp.refl h).lit af aw iA rfl [] rfl (by decide) rfl fun i j a=>?_;refine a.append af 0 rfl iA ⟨_,_,rfl,rfl⟩ rfl (by decide) (fun _=>rfl) (b.up a.ah) fX (by simp;omega) fun d g c=>⟨d,rfl,c⟩
theorem HY{e:TypeId}(s:Sl)(l:aD)(h:Heap)(c:Own h e s 1 aE l)(a:l.length<2^40):ac xa 93 #[s] h fun v h'=>v=.tuple #[]/\Own h' e s 1 aE (iP l)/\aG (fun b=>¬s.on b) h h':=
 Kb Tryz.slices_Sort_int Tryz.slices_Sort_int_none c a
theorem dT(x n:Int)(h:Heap)(c:0<n)(g:n<=2^62):ac xa 7 #[vQ vW x,vQ vW n] h fun v h'=>v=vQ vW (x%n)/\h'=h:=by
 refine oO x n ?_;unfold kN;have f:=y8 x c;have e:-n<x.tmod n:=Int.lt_tmod_of_pos x c;have d:=JR x n c;refine⟨by omega,aU ?_⟩;refine al (fun a=>?_) (fun b=>?_)
 ·rw[an _];exact⟨by rw[d,if_pos a],rfl⟩
 ·exact⟨by rw[d,if_neg b],rfl⟩
theorem dU.take{α:Type}{h:Heap}{s:Sl}{k:Nat}{f:α->aQ}{e:List (List α)}(a:dU h s k f e)(n:Nat)(j:n<=e.length):dU h ⟨s.ptr,n,s.cap⟩ k f (e.take n):=by
 obtain⟨rs,a⟩:=a;have g:=a.len;refine⟨rs.take n,a.top.take n (by omega),by simp;omega,fun i r l b c=>?_⟩;rw[List.getElem?_take]at b c;split at b
 ·rename_i d;rw[if_pos d]at c;exact a.row i r l b c
 ·cases b
end Go.Qw
namespace Wl
structure dc (d:bf):Prop where
 wait:d.wait<=d.l.length
 len:d.l.length<=d.room
 room:d.room<=512
 cell:∀c∈d.l,c.length=64
 laid:d.laid.length<=d.room
 cellL:∀c∈d.laid,c.length=64
section
variable {d:bf} {w:Pow} {b:aL}
theorem dc.new{n:Nat}(h:n<=512):dc (bf.new n):=⟨qp _,zo _,h,by simp[bf.new],zo _,by simp[bf.new]⟩
theorem dc.append(h:dc d):dc (d.append w b).2.2:=by
 obtain⟨j,i,h3,e,f,g⟩:=h;unfold bf.append;split
 ·exact⟨j,i,h3,e,f,g⟩
 ·rename_i m;split
  ·exact⟨j,i,h3,e,f,g⟩
  ·split
   ·exact⟨j,i,h3,e,f,g⟩
   ·rename_i k;split
    ·exact⟨j,i,h3,e,f,g⟩
    ·have a:∀c∈d.l++[b],c.length=64:=fun c a=>by
      rcases qH.1 a with a|a
      ·exact e c a
      ·rw[qB.1 a];omega
     split
     ·exact⟨by simp;omega,by simp;omega,h3,a,zo _,by simp⟩
     ·exact⟨by simp;omega,by simp;omega,h3,a,f,g⟩
theorem dc.sync(h:dc d):dc (d.sync w).2.2:=by
 obtain⟨c,a,h3,b,e,f⟩:=h;unfold bf.sync;split
 ·exact⟨c,a,h3,b,e,f⟩
 ·split
  ·exact⟨zo _,a,h3,b,zo _,by simp⟩
  ·exact⟨c,a,h3,b,e,f⟩
theorem dc.rewrite{l:bR}(h:dc d):dc (d.rewrite w l).2.2:=by
 obtain⟨b,a,h3,e,g,i⟩:=h;unfold bf.rewrite;split
 ·exact⟨b,a,h3,e,g,i⟩
 ·rename_i f;have f:∀c∈l,c.length=64:=by simpa using f
  split
  ·exact⟨b,a,h3,e,g,i⟩
  ·split
   ·exact⟨b,a,h3,e,g,i⟩
   ·split
    ·exact⟨b,a,h3,e,g,i⟩
    ·split
     ·exact⟨zo _,by dsimp only;omega,h3,f,zo _,by simp⟩
     ·exact⟨b,a,h3,e,by dsimp only;omega,f⟩
end
end Wl
namespace Go.Vc
open Go Wl Go.Qw
abbrev cz(s:Sl)(l:Cells):HP:=iw 38 s 5 1 aw l
def gF(t:Nat)(f:bf->Sl->Sl->aQ)(a:Addr)(d:bf):HP:=
 (HP.ex fun b:Sl×Sl=>(ag a t (f d b.1 b.2)).sep ((cz b.1 d.l).sep (cz b.2 d.laid))).and (dc d)
section
variable {B:ap} {h0 h h':Heap} {As:List HP} {t:Nat} {f:bf->Sl->Sl->aQ} {a:Addr} {d:bf}
theorem aa.nF(H:aa B h0 h (gF t f a d::As)):dc d/\∃s b:Sl,aa B h0 h (ag a t (f d s b)::cz s d.l::cz b d.laid::As):=by
 obtain⟨H,ok⟩:=H.lA;obtain⟨c,H⟩:=H.uk;exact⟨ok,c.1,c.2,H.nO.nO.bj 3 [2,1,0]⟩
theorem aa.tv{s b:Sl}(ok:dc d)(H:aa B h0 h (ag a t (f d s b)::cz s d.l::cz b d.laid::As)):aa B h0 h (gF t f a d::As):=
 ((((H.bj 3 [2,1,0]).jX).jX).En (F:=fun c:Sl×Sl=>(ag a t (f d c.1 c.2)).sep ((cz c.1 d.l).sep (cz c.2 d.laid))) (s,b)).tolA ok
end
end Go.Vc
namespace Go.Qw
open Go Go.Vc Go.Proofs Wl
abbrev eK(pw:Addr)(d:bf)(s b:Sl):aQ:=[vS (some pw),vQ vW d.room,s,vQ vW d.wait,b,vU d.has,vU d.lost]
abbrev fq(pw a:Addr)(d:bf):HP:=gF 70 (eK pw) a d
section
variable {B:ap} {h0 h h':Heap} {As:List HP} {a pw:Addr} {d:bf} {w:Pow}
theorem Fv(n:Int)(pw:Addr)(h:Heap):ac xa 13 #[vQ vW n,vS (some pw)] h fun v h'=>
  (1<=n/\n<=512->∃a,v=vS (some a)/\Sp h h' [fq pw a (bf.new n.toNat)])/\(¬(1<=n/\n<=512)->v=vS none/\Sp h h' []):=by
 refine IH n (some pw) ?_;unfold Cv;refine aU (al (fun e=>⟨fun c=>absurd c (by omega),fun _=>⟨rfl,Sp.refl h⟩⟩) fun g=>al (fun e=>⟨fun c=>absurd c (by omega),fun _=>⟨rfl,Sp.refl h⟩⟩) fun e2=>bq (fun e=>by cases e) fun _=>?_);refine(Sp.refl h).boxed fun a i f=>⟨fun _=>⟨a,rfl,?_⟩,fun c=>absurd (by omega) c⟩
 refine aa.tv (s:=⟨none,0,0⟩) (b:=⟨none,0,0⟩) (dc.new (by omega)) ?_;have e:((n.toNat:Nat):Int)=n:=by omega
 have d:=((f.Di 38 5 1 aw).Di 38 5 1 aw).bj 3 [2,1,0];have e2:eK pw (bf.new n.toNat) ⟨none,0,0⟩ ⟨none,0,0⟩=[vS (some pw),vQ vW n,vR none 0 0,vQ vW 0,vR none 0 0,vU false,vU false]:=by
  simp only[eK,bf.new,e];rfl
 rw[e2];exact d
theorem AQ(s b:Sl)(c:bf)(H:aa B h0 h (ag a 70 (eK pw d s b)::cz s d.l::cz b d.laid::bP 56 pw w::As))(ok:dc d)(e:c={d with laid:=[],has:=false}):
  ac xa 82 #[vS (some a)] h fun v h'=>v=vQ vW 0/\aa B h0 h' (fq pw a c::bP 56 pw w::As):=by
 refine uL (some a) ?_;unfold oe;refine⟨a,rfl,H.store af 0 rfl rfl 4 [vR none 0 0] rfl rfl rfl (by simp[eK]) fun i f=>?_⟩;refine⟨a,rfl,f.store af 0 rfl rfl 5 [vU false] rfl rfl rfl (by simp[eK]) fun h3 g=>⟨rfl,?_⟩⟩;subst e;refine aa.tv (s:=s) (b:=⟨none,0,0⟩) ⟨ok.wait,ok.len,ok.room,ok.cell,zo _,by simp⟩ ?_;exact((g.Di 38 5 1 aw).bj 5 [1,2,0,4])
theorem MK(x:Sl)(row:aL)(H:aa B h0 h (fq pw a d::bP 56 pw w::As))(O:Rd h x 1 aw row)(hr:row.length<=2^20):
  ac xa 54 #[vS (some a),x] h fun v h'=>v=vQ vW (d.append w row).1/\aa B h0 h' (fq pw a (d.append w row).2.2::bP 56 pw (d.append w row).2.1::As):=by
 refine ld (some a) x ?_;unfold jw;have R:=O.len;obtain⟨ok,s,b,E⟩:=H.nF;have p:=E.box 0 rfl;obtain⟨U,_⟩:=aa.sj (E.bj 4 [1]);have F:=ok.room;have P:=ok.len;have K:=ok.wait;have g:∀(e:Int),d.append w row=(e,w,d)->(Value.int .i64 e=vQ vW (d.append w row).1/\aa B h0 h (fq pw a (d.append w row).2.2::bP 56 pw (d.append w row).2.1::As)):=fun e W=>by
  rw[W];exact⟨rfl,H⟩
 refine aU (ci (fun e=>g 1 (by unfold bf.append;rw[if_pos (by omega)])) fun V=>?_);have o:row.length=64:=by omega
 refine aU (bq (fun e=>by cases e) fun _=>⟨a,rfl,d.lost,p.cell rfl,bq (fun e=>g 5 ?_) fun f=>?_⟩)
 ·unfold bf.append;rw[if_neg (by omega),if_pos e]
 refine⟨a,rfl,s,p.cell rfl,a,rfl,(d.room:Int),p.cell rfl,al (fun e=>g 7 ?_) fun I=>?_⟩
 ·unfold bf.append;rw[if_neg (by omega),if_neg (by simp[f]),if_pos (by omega)]
 obtain⟨l,hl,G⟩:=(E.bj 4 [3,0,1,2]).pd;refine⟨a,rfl,some pw,p.cell0 rfl,(BX l (G.box 0 rfl)).mono ?_⟩;rintro _ T ⟨rfl,rfl⟩;refine⟨_,rfl,aW (fun e=>g 14 ?_) fun m=>?_⟩
 ·unfold bf.append;rw[if_neg (by omega),if_neg (by simp[f]),if_neg (by omega),if_pos (by simpa using e)]
 have k:w.off=false:=by simpa using m
 refine aU ⟨a,rfl,s,p.cell rfl,(jQ x row T O).mono ?_⟩;rintro _ h4 ⟨r,rfl,S⟩;have A:=(E.cM S).bj 5 [2,0,1,3,4];have t:=A.box 2 rfl;refine⟨r,rfl,⟨t.cell rfl,trivial⟩,?_⟩;have Y:=A;refine A.sJ af cF jy rfl [r] rfl (show 1*1<=2^20 by decide) rfl ⟨t.cell rfl,trivial⟩ ?_;refine A.Ep af jy (by omega) fun D h6 L=>⟨trivial,?_⟩
 have L:=L.bj 4 [1,0,2,3];refine⟨a,rfl,L.store af 0 rfl rfl 2 [D] rfl rfl rfl (by simp[eK]) fun h7 N=>⟨trivial,?_⟩⟩;have M:=N.box 0 rfl;refine⟨a,rfl,(d.wait:Int),M.cell rfl,a,rfl,?_⟩;rw[an ((d.wait:Int)+1)];refine N.store af 0 rfl rfl 3 [vQ vW ((d.wait:Int)+1)] rfl rfl rfl (by simp[eK]) fun h8 Q=>?_;obtain⟨i,j⟩:∃i:bf,i={d with l:=d.l++[row],wait:=d.wait+1}:=⟨_,rfl⟩
 have u:dc i:=by
  subst j;refine⟨by simp;omega,by simp;omega,ok.room,fun c q=>?_,ok.laid,ok.cellL⟩;rcases qH.1 q with q|q
  ·exact ok.cell c q
  ·rw[qB.1 q];exact o
 have n:aa B h0 h8 (ag a 70 (eK pw i D b)::cz D i.l::cz b i.laid::bP 56 pw w::As):=by rw[j];exact Q
 refine⟨a,rfl,some pw,(n.box 0 rfl).cell0 rfl,(AP (n.bj 4 [3,0,1,2])).mono ?_⟩;rintro _ Z ⟨rfl,z⟩;have z:=z.bj 4 [1,2,3,0];have y:d.append w row=if w.step.1 then(0,w.step.2,{i with laid:=[],has:=false})else(14,w.step.2,i):=by
  rw[j];unfold bf.append;rw[if_neg (by omega),if_neg (by simp[f]),if_neg (by omega),if_neg (by simp[k])]
 rw[y];refine⟨_,rfl,aW (fun e=>?_) (fun e=>?_)⟩
 ·rw[e];exact⟨rfl,z.tv u⟩
 ·rw[e];refine(AQ D b _ z u rfl).mono ?_;rintro _ X ⟨rfl,J⟩;exact⟨0,rfl,rfl,J⟩
theorem GR(x:Sl)(row:aL)(h:Heap)(b:Rd h x 1 aw row):ac xa 54 #[vS none,x] h fun v h'=>v=vQ vW (if row.length≠64 then 1 else 5)/\h'=h:=by
 refine ld none x ?_;unfold jw;have a:=b.len;refine aU (ci (fun e=>⟨by rw[if_pos (by omega)],rfl⟩) fun e=>?_);exact aU (bq (fun _=>⟨by rw[if_neg (by omega)],rfl⟩) fun e=>by cases e)
theorem Rr(H:aa B h0 h (fq pw a d::bP 56 pw w::As)):
  ac xa 95 #[vS (some a)] h fun v h'=>v=vQ vW (d.sync w).1/\aa B h0 h' (fq pw a (d.sync w).2.2::bP 56 pw (d.sync w).2.1::As):=by
 refine mz (some a) ?_;unfold kp;obtain⟨ok,s,b,j⟩:=H.nF;have i:=j.box 0 rfl;refine aU (bq (fun e=>by cases e) fun _=>⟨a,rfl,d.lost,i.cell rfl,bq (fun e=>?_) fun c=>?_⟩)
 ·have:d.sync w=(5,w,d):=by unfold bf.sync;rw[if_pos e]
  rw[this];exact⟨rfl,H⟩
 refine⟨a,rfl,some pw,i.cell0 rfl,(AP (j.bj 4 [3,0,1,2])).mono ?_⟩;rintro _ m ⟨rfl,g⟩;have g:=g.bj 4 [1,2,3,0];have f:d.sync w=if w.step.1 then(0,w.step.2,{{d with wait:=0}with laid:=[],has:=false})else(14,w.step.2,d):=by
  unfold bf.sync;rw[if_neg (by simp[c])]
 rw[f];refine⟨_,rfl,aW (fun e=>?_) (fun e=>?_)⟩
 ·rw[e];exact⟨rfl,g.tv ok⟩
 ·rw[e];refine⟨a,rfl,g.store af 0 rfl rfl 3 [vQ vW 0] rfl rfl rfl (by simp[eK]) fun h3 k=>?_⟩;refine(AQ (d:={d with wait:=0}) s b _ k ⟨zo _,ok.len,ok.room,ok.cell,ok.laid,ok.cellL⟩ rfl).mono ?_;rintro _ n ⟨rfl,l⟩;exact⟨0,rfl,rfl,l⟩
theorem Lc(h:Heap):ac xa 95 #[vS none] h fun v h'=>v=vQ vW 5/\h'=h:=by
 refine mz none ?_;unfold kp;exact aU (bq (fun _=>⟨rfl,rfl⟩) fun e=>by cases e)
theorem fq.box(H:aa B h0 h (fq pw a d::As)):∃s b:Sl,bZ h a 70 (eK pw d s b)/\dU h s 1 aw d.l/\s.len=d.l.length:=by
 obtain⟨ok,s,b,c⟩:=H.nF;exact⟨s,b,c.box 0 rfl,(c.bj 3 [1]).yI fun _=>rfl,(aa.sj (c.bj 3 [1])).1⟩
theorem AR(s b:Sl)(c:bZ h a 70 (eK pw d s b)):ac xa 78 #[vS (some a)] h fun v h'=>v=vQ vW d.room/\h'=h:=by
 refine uJ (some a) ?_;unfold oc;exact bq (fun e=>by cases e) fun _=>⟨a,rfl,_,c.cell rfl,rfl,rfl⟩
theorem HZ(s b:Sl)(f:bZ h a 70 (eK pw d s b))(c:s.len=d.l.length):ac xa 119 #[vS (some a)] h fun v h'=>v=vQ vW (d.l.length:Int)/\h'=h:=by
 refine xH (some a) ?_;unfold oA;exact bq (fun e=>by cases e) fun _=>⟨a,rfl,_,f.cell rfl,by rw[c],rfl⟩
theorem ol(s b:Sl)(c:bZ h a 70 (eK pw d s b)):ac xa 39 #[vS (some a)] h fun v h'=>v=vU d.lost/\h'=h:=by
 refine uH (some a) ?_;unfold nX;exact bq (fun _=>⟨a,rfl,_,c.cell rfl,rfl,rfl⟩) fun e=>by cases e
theorem pU(l:Sl)(a:Cells)(h:Heap)(f:dU h l 1 aw a)(x:a.length<=2^20)(q:∀c∈a,c.length<=2^20):ac xa 28 #[l] h fun v h'=>∃r:Sl,v=r/\Sp h h' [cz r a]:=by
 refine IJ l ?_;unfold Cx;have g:=f.len;refine az (fun t:Sl×Nat=>(t.1,(t.2:Int))) (fun t h'=>t.2<=a.length/\Sp h h' [cz t.1 (a.take t.2)]) (fun t=>a.length-t.2) (⟨none,0,0⟩,0) rfl ⟨by simp,by simpa using(Sp.refl h).Di 38 5 1 aw⟩ ?_;rintro⟨s,i⟩ p ⟨w,d⟩;dsimp only at*;refine al (fun e=>?_) (fun e=>?_)
 ·have b:i<a.length:=by omega
  refine(f.up d.ah).get i rfl b fun r k=>?_;have:=q _ (qn b);refine(jQ r _ p k).mono ?_;rintro _ u ⟨m,rfl,n⟩;refine⟨m,rfl,?_⟩;refine aa.Ep af (d.comp n) jy (by simp;omega) fun o h3 j=>?_;refine⟨(o,i+1),by dsimp only;rw[an _];rfl,⟨by dsimp only;omega,?_⟩,by dsimp only;omega⟩;dsimp only;rw[aK _ _ b];exact j
 ·rw[qi (by omega)]at d;exact⟨s,rfl,d⟩
theorem uP(s b:Sl)(j:bZ h a 70 (eK pw d s b))(i:dU h s 1 aw d.l)(ok:dc d):ac xa 42 #[vS (some a)] h fun v h'=>∃r:Sl,v=r/\Sp h h' [cz r d.l]:=by
 refine xF (some a) ?_;unfold oy;have:=ok.len;have:=ok.room;refine bq (fun e=>by cases e) fun _=>⟨a,rfl,s,j.cell rfl,(pU s d.l h i (by omega) fun c g=>by rw[ok.cell c g];decide).mono ?_⟩
 rintro _ k ⟨r,rfl,f⟩;exact⟨r,rfl,r,rfl,f⟩
end
theorem TP(b:Sl)(l:aL)(h:Heap)(q:Rd h b 1 aw l)(E:l.length<=2^40):ac xa 123 #[b] h fun v h'=>v=vQ vY (sN l).toNat/\h'=h:=by
 refine MF b ?_;unfold HS;have A:=q.len;refine az (fun t:Nat=>(((oG (l.take t)).toNat:Int),(t:Int))) (fun t h'=>t<=l.length/\h'=h) (fun t=>l.length-t) 0 rfl ⟨by omega,rfl⟩ ?_;rintro i x ⟨D,rfl⟩;refine al (fun e=>?_) (fun e=>?_)
 ·have d:i<l.length:=by
   have r:(i:Int)<(b.len:Int):=e;omega
  refine q.cK i rfl d (l[i].toNat:Int) rfl ?_;have u:qc vY (l[i].toNat:Int)=((vB 32 l[i].toNat).toNat:Int):=by rw[QJ,wH]
  rw[u,OI];refine az (fun k:Nat=>(((sM k (oG (l.take i)^^^vB 32 l[i].toNat)).toNat:Int),(k:Int))) (fun k h'=>k<=8/\h'=x) (fun k=>8-k) 0 rfl ⟨by omega,rfl⟩ ?_;rintro k p ⟨B,rfl⟩;obtain⟨c,m⟩:∃c,c=sM k (oG (l.take i)^^^vB 32 l[i].toNat):=⟨_,rfl⟩
  dsimp only;rw[<-m];refine al (fun e2=>⟨by decide,?_⟩) (fun e2=>?_)
  ·have a:∀n:nP,n=Eu c->∃f:Nat,(((n.toNat:Nat):Int),qc vW ((k:Int)+1))=(((sM f (oG (l.take i)^^^vB 32 l[i].toNat)).toNat:Int),(f:Int))/\(f<=8/\p=p)/\8-f<8-k:=fun n z=>
    ⟨k+1,by rw[an _,z,m];rfl,⟨by omega,rfl⟩,by omega⟩
   have y:qc vY ((qy (qj vY) (c.toNat:Int)&&&qy (qj vY) (1:Int)).toNat:Nat)=((c&&&1#32).toNat:Int):=Yi c 1#32;have w:qc vY ((qy (qj vY) ((c>>>1).toNat:Int)^^^qy (qj vY) (3988292384:Int)).toNat:Nat)=(((c>>>1)^^^3988292384#32).toNat:Int):=OI (c>>>1) 3988292384#32;rw[y,VQ,w];refine dN (fun o=>a _ ?_) (fun o=>a _ ?_)
   ·unfold Eu;rw[if_pos ((NL c).1 o)]
   ·unfold Eu;rw[if_neg (fun s=>o ((NL c).2 s))]
  ·have g:k=8:=by omega
   subst g;refine⟨i+1,?_,⟨by omega,rfl⟩,by omega⟩;rw[an _,aK _ _ d,OH,m];rfl
 ·have j:i=l.length:=by
   have r:¬(i:Int)<(b.len:Int):=e;omega
  subst j;refine⟨?_,rfl⟩;rw[zc];exact congrArg (Value.int .u32) (OI 4294967295#32 (oG l))
theorem AS(a:Int)(d:Sl)(l:aL)(h:Heap)(z:Rd h d 1 aw l)(S:l.length<=2^40:=by omega):ac xa 92 #[vQ vW a,d] h fun v h'=>∃r:Sl,v=r/\Sp h h' [aj 5 r 1 aw (dt a l)]:=by
 refine KQ a d ?_;unfold EX;have M:=z.len;have g:¬(1<=a/\a<=255/\l.length<=55)->∃r:Sl,Value.slice none 0 0=vR r.ptr r.len r.cap/\Sp h h [aj 5 r 1 aw (dt a l)]:=fun e=>by
  unfold dt;rw[if_neg e];exact⟨⟨none,0,0⟩,rfl,(Sp.refl h).nil 5 1 aw⟩
 refine aU (al (fun e=>g (by omega)) fun O=>al (fun e=>g (by omega)) fun e2=>al (fun e=>g (by omega)) fun P=>?_);refine(Sp.refl h).make af aw iA (by decide) 0 rfl rfl 64 64 rfl rfl (qp _) (by decide) fun o y s q L=>?_;rw[df];refine L.lit af aw iA rfl [87,115,1,b8 a] rfl (show 4*1<=2^20 by decide) rfl fun v3 h3 x=>?_;refine x.El af 0 rfl iA (fun _=>rfl) (x.seq 1 rfl fun _=>rfl) fX fun _ u k=>⟨⟨by decide,by rw[s];decide⟩,?_⟩
 have k:Sp h u [aj 5 o 1 aw ([87,115,1,b8 a]++qh 60 0)]:=by
  have:=k.ca [0];simpa using this
 refine k.Kf af 0 rfl iA (fun _=>rfl) (Seq.up z k.ah) fX 4 (by simp) rfl rfl fun _ B m=>⟨⟨by decide,by rw[q];decide⟩,?_⟩
 have E:([87,115,1,b8 a]++qh 60 0).take 4++(l.take (([87,115,1,b8 a]++qh 60 (0:UInt8)).length-4)++([87,115,1,b8 a]++qh 60 0).drop (4+l.length))=cY a l++qh 5 0:=by
  have K:([87,115,1,b8 a]++qh 60 (0:UInt8)).length=64:=by simp
  rw[K,qi (l:=l) (by omega),<-zq];have y:([87,115,1,b8 a]++qh 60 (0:UInt8)).drop 4=qh 60 0:=rfl;have h3:([87,115,1,b8 a]++qh 60 (0:UInt8)).take 4=[87,115,1,b8 a]:=rfl;rw[y,h3,List.drop_replicate];unfold cY;have u:qh (60-l.length) (0:UInt8)=qh (55-l.length) 0++qh 5 0:=by rw[List.replicate_append_replicate];congr 1;omega
  rw[u];simp[qm]
 rw[E]at m;have b:(cY a l).length=59:=Aa (by omega);have H:Rd B ⟨o.ptr,59,o.cap⟩ 1 aw (cY a l):=by
  have:=(m.seq 0 rfl fun _=>rfl).take 59 (by simp[b]);rw[yy (by omega),qi (by omega)]at this;exact this
 refine(TP ⟨o.ptr,59,o.cap⟩ (cY a l) B H (by omega)).mono ?_;rintro _ N ⟨rfl,rfl⟩;obtain⟨c,A⟩:∃c,c=sN (cY a l):=⟨_,rfl⟩
 rw[<-A];refine⟨_,rfl,?_⟩;refine az (fun i:Nat=>(i:Int)) (fun i h'=>i<=4/\Sp h h' [aj 5 o 1 aw (cY a l++((lD c).take i++qh (5-i) 0))]) (fun i=>4-i) 0 rfl ⟨by omega,by simpa using m⟩ ?_;rintro i Q ⟨R,w⟩;have f:=Kh c;refine al (fun e=>?_) (fun e=>?_)
 ·have J:i<4:=by
   have D:(i:Int)<4:=e;omega
  rw[an ((8:Int)*i),an ((59:Int)+i)];refine⟨by omega,?_⟩;have I:((8:Int)*(i:Int)).toNat=8*i:=by omega
  have F:min (8*i) (qj vY)=8*i:=by
   have:qj vY=32:=rfl;omega
  rw[I,F,df];have G:b8 (qL (c.toNat:Int) (2^(8*i)))=(lD c)[i]'(by omega):=by simp[lD]
  rw[G];refine w.set af 0 rfl (fun _=>rfl) rfl (59+i) (by omega) (by simp[b];omega) ((lD c)[i]'(by omega)) rfl rfl rfl fun h8 j=>?_;refine⟨i+1,by rw[an _];rfl,⟨by omega,?_⟩,by omega⟩;have p:(cY a l++((lD c).take i++qh (5-i) 0)).set (59+i) ((lD c)[i]'(by omega))=cY a l++((lD c).take (i+1)++qh (5-(i+1)) 0):=by
   rw[q9 _ _ (by omega),b,zg,q9 _ _ (by simp;omega),aK _ _];have:5-i=(5-(i+1))+1:=by omega
   rw[this,yU];simp[f,Nat.min_eq_left (show i<=4 by omega)];rw[aK _ _ (show i<(lD c).length by omega),qm];rfl
  rw[p]at j;exact j
 ·have t:i=4:=by
   have D:¬(i:Int)<4:=e;omega
  subst t;refine w.set af 0 rfl (fun _=>rfl) rfl 63 rfl (by simp[b,f]) 165 rfl rfl rfl fun h8 j=>⟨o,rfl,?_⟩
  have n:(cY a l++((lD c).take 4++qh (5-4) 0)).set 63 165=dt a l:=by
   unfold dt;rw[if_pos ⟨by omega,by omega,by omega⟩,<-A,qi (by omega),q9 _ _ (by omega),b,q9 _ _ (by simp[f])];simp[f]
  rw[n]at j;exact j
end Go.Qw
namespace Go.Vc
open Go Wl
abbrev dh:=ByteArray×Int×Int×Sl
abbrev bn:=Int×Int×Int×Int×Int×Int×Sl×Sl
abbrev bv(x:dh):aQ:=[vT x.1,vQ vW x.2.1,vQ vW x.2.2.1,x.2.2.2]
abbrev aq(x:bn):aQ:=[vQ vW x.1,vQ vW x.2.1,vQ vW x.2.2.1,vQ vW x.2.2.2.1,vQ vW x.2.2.2.2.1,vQ vW x.2.2.2.2.2.1,x.2.2.2.2.2.2.1,x.2.2.2.2.2.2.2]
abbrev cN(x:bn):Value:=vV #[vQ vW x.1,vQ vW x.2.1,vQ vW x.2.2.1,vQ vW x.2.2.2.1,vQ vW x.2.2.2.2.1,vQ vW x.2.2.2.2.2.1,x.2.2.2.2.2.2.1,x.2.2.2.2.2.2.2]
def fE:jf dh Wl.cE:=⟨fun h q a b=>(a.1=b.name/\a.2.1=b.object/\a.2.2.1=b.length)/\Seq h q a.2.2.2 1 aE b.tries,fun a d=>⟨a.1,a.2.ah d⟩,fun a c=>⟨a.1,a.2.mono c⟩⟩
abbrev nh:jf Sl (List Wl.cE):=cS fE 4 bv
structure nG (h:Heap) (q:ap) (x:bn) (m:ar):Prop where
 seq:x.1=m.seq
 next:x.2.1=m.next
 p:(x.2.2.1,x.2.2.2.1,x.2.2.2.2.1)=m.p
 extra:x.2.2.2.2.2.1=m.extra
 drives:Seq h q x.2.2.2.2.2.2.1 1 aE m.drives
 aH:nh.p h q x.2.2.2.2.2.2.2 m.aH
 dcap:x.2.2.2.2.2.2.1.len<=x.2.2.2.2.2.2.1.cap
 ocap:x.2.2.2.2.2.2.2.len<=x.2.2.2.2.2.2.2.cap
abbrev eS(h:Heap)(x:bn)(m:ar):Prop:=nG h (fun b=>b<h.size) x m
theorem nG.ah{h b:Heap}{q:ap}{x:bn}{m:ar}(a:nG h q x m)(c:aG q h b):nG b q x m:=⟨a.seq,a.next,a.p,a.extra,a.drives.ah c,nh.loc a.aH c,a.dcap,a.ocap⟩
theorem nG.mono{h:Heap}{q q':ap}{x:bn}{m:ar}(a:nG h q x m)(c:∀b,q b->q' b):nG h q' x m:=⟨a.seq,a.next,a.p,a.extra,a.drives.mono c,nh.mono a.aH c,a.dcap,a.ocap⟩
theorem eS.up{h c:Heap}{x:bn}{m:ar}(a:eS h x m)(d:aG (fun b=>b<h.size) h c):eS c x m:=(nG.ah a d).mono fun _ e=>qQ e d.1
def bt(x:bn)(m:ar):HP:=⟨fun h q=>nG h q x m,fun a c=>a.ah c,fun a b=>a.mono b⟩
theorem GS:∀x,∀c∈bv x,c.oneCell'=true:=by intro x c a;simp[bv]at a;rcases a with rfl|rfl|rfl|rfl<;>rfl
end Go.Vc
namespace Go.Qw
open Go Go.Vc Go.Proofs Wl
theorem ni(n a b:Int)(h:Heap):ac xa 85 #[vQ vW n,vQ vW a,vQ vW b] h fun v h'=>v=vU (dC n a b)/\h'=h:=by
 refine EV n a b ?_;unfold xi dC;refine al (fun e=>⟨?_,rfl⟩) (fun e=>⟨?_,rfl⟩)
 ·rw[decide_eq_true (show a<=n from e)];rfl
 ·rw[decide_eq_false (show¬a<=n from e)];rfl
theorem Ia(s:ByteArray)(h:Heap)(F:s.size<=2^40):ac xa 58 #[vT s] h fun v h'=>v=vU (gC s)/\Sp h h' []:=by
 refine IM s ?_;unfold CA;refine VR af ⟨_,rfl,rfl⟩ ⟨_,rfl,rfl⟩ ⟨_,rfl,rfl⟩ s fun r D o=>?_;have w:=o.rd 0 rfl;have B:=w.len;have A:=uo s;refine az (fun i:Nat=>(i:Int)) (fun i h'=>i<=s.size/\h'=D/\∀c∈(go s).take i,ke c=true) (fun i=>s.size-i) 0 rfl ⟨by omega,rfl,by simp⟩ ?_;rintro i q ⟨G,rfl,d⟩;refine al (fun e=>?_) (fun e=>?_)
 ·have j:i<(go s).length:=by
   have z:(i:Int)<(r.len:Int):=e;omega
  refine w.cK i rfl j ((go s)[i].toNat:Int) rfl ?_;obtain⟨c,u⟩:∃c,c=(go s)[i]:=⟨_,rfl⟩
  rw[<-u];have a:ke c=true->∃n:Nat,qc vW ((i:Int)+1)=(n:Int)/\(n<=s.size/\q=q/\∀c∈(go s).take n,ke c=true)/\s.size-n<s.size-i:=fun p=>
   ⟨i+1,by rw[an _];rfl,⟨by omega,rfl,fun x k=>by
    rw[aK _ _ j]at k;rcases qH.1 k with k|k
    ·exact d x k
    ·rw[qB.1 k,<-u];exact p⟩,by omega⟩
  have g:ke c=false->Value.bool false=vU (gC s)/\Sp h q []:=fun p=>by
   refine⟨?_,o.ca []⟩;unfold gC;have:s.data.toList.all ke=false:=yJ.2 ⟨c,by rw[u];exact qn j,by rw[p];simp⟩;rw[this];rfl
  have b:ke c=true↔((97<=(c.toNat:Int)/\(c.toNat:Int)<=122)∨(48<=(c.toNat:Int)/\(c.toNat:Int)<=57)∨(c.toNat:Int)=45):=by
   unfold ke;simp[or_assoc];omega
  have f:ke c=false↔¬((97<=(c.toNat:Int)/\(c.toNat:Int)<=122)∨(48<=(c.toNat:Int)/\(c.toNat:Int)<=57)∨(c.toNat:Int)=45):=by
   rw[<-b];cases ke c<;>simp
  refine al (fun t=>al (fun e2=>ci (fun m=>g (f.2 (by omega))) fun m=>a (b.2 (by omega))) fun e2=>al (fun m=>ci (fun l=>g (f.2 (by omega))) fun l=>a (b.2 (by omega))) fun m=>a (b.2 (by omega))) fun t=>al (fun e2=>al (fun m=>ci (fun l=>g (f.2 (by omega))) fun l=>a (b.2 (by omega))) fun m=>al (fun l=>ci (fun E=>g (f.2 (by omega))) fun E=>a (b.2 (by omega))) fun l=>a (b.2 (by omega))) fun e2=>a (b.2 (by omega))
 ·have z:¬(i:Int)<(r.len:Int):=e;rw[qi (by omega)]at d;have y:s.data.toList.all ke=true:=qU.2 d;refine al (fun t=>⟨?_,o.ca []⟩) (fun t=>⟨?_,o.ca []⟩)
  ·unfold gC;rw[y,decide_eq_true (show 1<=s.size by omega)];congr 1;simp;omega
  ·unfold gC;rw[y,decide_eq_false (show¬1<=s.size by omega)];rfl
theorem Rs(s:Sl)(l:aD)(a:Int)(h:Heap)(r:Rd h s 1 aE l)(y:l.length<=2^40):ac xa 86 #[s,vQ vW a] h fun v h'=>v=vU (md l a)/\h'=h:=by
 refine IR s a ?_;unfold CE;have u:=r.len;refine az (fun i:Nat=>(i:Int)) (fun i h'=>i<=l.length/\h'=h/\∀j,j<i->gZ l a j=true) (fun i=>l.length-i) 0 rfl ⟨by omega,rfl,by omega⟩ ?_;rintro i k ⟨z,rfl,c⟩;refine al (fun e=>?_) (fun e=>?_)
 ·have d:i<l.length:=by
   have t:(i:Int)<(s.len:Int):=e;omega
  refine r.cK i rfl d l[i] rfl ?_;have n:l.getD i 0=l[i]:=getD_lt d;have m:gZ l a i=false->Value.bool false=vU (md l a)/\k=k:=fun q=>⟨by unfold md;rw[Ab d q],rfl⟩
  have b:gZ l a i=true->∃o:Nat,qc vW ((i:Int)+1)=(o:Int)/\(o<=l.length/\k=k/\∀j,j<o->gZ l a j=true)/\l.length-o<l.length-i:=fun q=>
   ⟨i+1,by rw[an _];rfl,⟨by omega,rfl,fun j x=>by
    by_cases p:j=i
    ·rw[p];exact q
    ·exact c j (by omega)⟩,by omega⟩
  refine(ni l[i] 0 a k).mono ?_;rintro _ _ ⟨rfl,rfl⟩;refine⟨_,rfl,aW (fun g=>m (by unfold gZ;rw[n,g];rfl)) fun g=>al (fun e2=>?_) fun e2=>b (by unfold gZ;rw[n,g,decide_eq_true (show i=0 by omega)];rfl)⟩;rw[an ((i:Int)-1)];refine r.cK (i-1) (by omega) (by omega) (l[i-1]'(by omega)) rfl ?_;have f:l.getD (i-1) 0=l[i-1]'(by omega):=getD_lt (by omega);refine al (fun w=>m ?_) (fun w=>b ?_)
  ·unfold gZ;rw[n,f,g,decide_eq_false (show¬i=0 by omega),decide_eq_false (by omega)];rfl
  ·unfold gZ;rw[n,f,g,decide_eq_true (show l[i-1]'(by omega)<l[i]by omega)];simp
 ·have t:¬(i:Int)<(s.len:Int):=e;exact⟨by unfold md;rw[oq fun j x=>c j (by omega)],rfl⟩
theorem oQ(p:Pm)(n:Int)(h:Heap)(o:n<=2^40:=by omega):ac xa 31 #[kP p,vQ vW n] h fun v h'=>v=vQ vW (countP p n)/\Sp h h' []:=by
 refine EJ p n ?_;unfold wt;refine(Sp.refl h).boxed fun r d f=>?_;refine aU ⟨p,(f.box 0 rfl).aF _ rfl,(dR p d).mono ?_⟩;rintro _ j ⟨rfl,k⟩;have b:=f.up k.ah;refine⟨_,rfl,aW (fun e=>⟨?_,b.ca []⟩) fun g=>al (fun e=>⟨?_,b.ca []⟩) fun e=>?_⟩
 ·unfold countP;rw[e];rfl
 ·unfold countP;rw[decide_eq_false (show¬0<n by omega),Bool.and_false];rfl
 ·have i:=(cb p).1 g;refine⟨p,(b.box 0 rfl).aF _ rfl,?_⟩;refine(sY p (R:=fun v h'=>v=vQ vW (p.1*p.2.2)/\Sp h h' []) ?_).mono ?_
  ·unfold pL;refine b.boxed fun m h3 c=>⟨p.1,(c.box 1 rfl).cell0 rfl,p.2.2,(c.box 1 rfl).cell rfl,?_,c.ca []⟩
   have q:p.1*p.2.2<=16*24:=yc (by omega) (by omega) (by omega) (by omega);have a:0<=p.1*p.2.2:=vk (by omega) (by omega);rw[an _]
  ·rintro _ h3 ⟨rfl,l⟩;have a:0<p.1*p.2.2:=vI (by omega) (by omega);refine⟨_,rfl,Int.ne_of_gt a,?_,l⟩;have d:(n-1)/(p.1*p.2.2)<=n-1:=vr _ (by omega);have j:0<=(n-1)/(p.1*p.2.2):=Int.ediv_nonneg (by omega) (by omega);rw[an (n-1),Int.tdiv_eq_ediv_of_nonneg (by omega),an ((n-1)/(p.1*p.2.2)),an _];unfold countP;rw[g,decide_eq_true (show 0<n by omega)];rfl
theorem ML(s:Sl)(l:aD)(h:Heap)(f:Rd h s 1 aE l)(k:l.length<=2^40):ac xa 72 #[s,.func (.func 122) #[] #[]] h fun v h'=>v=vU (!l.all (dC · 0 15))/\h'=h:=by
 refine im s (122,#[],#[]) ?_;unfold fP;have j:=f.len;refine(iZ s (122,#[],#[]) (R:=fun v h'=>(∃i:Int,v=vQ vW i/\(decide (i>=0)=!l.all (dC · 0 15)))/\h'=h) ?_).mono ?_
 ·unfold gp;refine az (fun i:Nat=>(i:Int)) (fun i h'=>i<=l.length/\(l.take i).all (dC · 0 15)=true/\h'=h) (fun i=>l.length-i) 0 rfl ⟨by omega,by simp,rfl⟩ ?_;rintro i c ⟨d,a,rfl⟩;refine al (fun e=>?_) (fun e=>?_)
  ·have b:i<l.length:=by
    have g:(i:Int)<(s.len:Int):=e;omega
   refine f.cK i rfl b l[i] rfl (eZ (by rfl) ?_);refine(DE l[i] (R:=fun v h'=>v=vU (!dC l[i] 0 15)/\h'=c) ?_).mono ?_
   ·unfold tf;refine(ni l[i] 0 15 c).mono ?_;rintro _ _ ⟨rfl,rfl⟩;exact⟨_,rfl,rfl,rfl⟩
   ·rintro _ _ ⟨rfl,rfl⟩;refine⟨_,rfl,aW (fun e2=>?_) (fun e2=>?_)⟩
    ·refine⟨⟨i,rfl,?_⟩,rfl⟩;rw[decide_eq_true (show(i:Int)>=0 by omega)];have:l.all (dC · 0 15)=false:=yJ.2 ⟨_,qn b,by rw[e2];simp⟩;rw[this];rfl
    ·refine⟨i+1,by rw[an _];rfl,⟨by omega,?_,rfl⟩,by omega⟩;rw[aK _ _ b,List.all_append,a];simp[e2]
  ·have g:¬(i:Int)<(s.len:Int):=e;refine⟨⟨-1,rfl,?_⟩,rfl⟩;rw[qi (by omega)]at a;rw[a];rfl
 ·rintro _ c ⟨⟨i,rfl,d⟩,rfl⟩;exact⟨i,rfl,by rw[d],rfl⟩
end Go.Qw
namespace Wl
structure cn (m:ar):Prop where
 dr:m.drives.length<=2^30
 ob:m.aH.length<=2^30
 nm:∀e∈m.aH,e.name.size<=2^30/\e.tries.length<=2^30
end Wl
namespace Go.Vc
open Go
theorem addr_add(a:Addr)(i j:Nat):(a.add i).add j=a.add (i+j):=by
 unfold Addr.add;by_cases c:i=0<;>by_cases b:j=0<;>simp[c,b,w7]
theorem bZ.rN{h:Heap}{a:Addr}{e:TypeId}{b:aQ}{v:Value}(d:bZ h a e b)(i j:Nat)(c:b[i+j]?=some v):cellOf h ((a.add i).add j)=some v:=by
 rw[addr_add];exact d.cell c
theorem bZ.rO{h:Heap}{a:Addr}{e:TypeId}{b:aQ}{u v w:Value}(c:bZ h a e b)(i:Nat)(g:b[i]?=some u)(f:b[i+1]?=some v)(d:b[i+2]?=some w):ai h (a.add i) 0 [u,v,w]:=
 ⟨c.rN i 0 g,c.rN i 1 f,c.rN i 2 d,trivial⟩
end Go.Vc
namespace Go.Qw
open Go Go.Vc Go.Proofs Wl
abbrev TQ:bN C.tosH 45 73 4 [vT ⟨#[]⟩,vQ vW 0,vQ vW 0,vR none 0 0] 56:=⟨_,_,rfl,rfl,rfl,rfl,rfl,rfl⟩
theorem Pe(x:bn)(m:ar)(e:dh)(E:Wl.cE)(h:Heap)(j:eS h x m)(H:nN fE h e E)(z:iQ m=true)(R:E.name.size<=2^30)(M:E.tries.length<=2^30):
  ac xa 87 #[cN x,vV #[vT e.1,vQ vW e.2.1,vQ vW e.2.2.1,e.2.2.2]] h fun v h'=>v=vU (fe m E)/\Sp h h' []:=by
 refine GG x e ?_;unfold Az;obtain⟨_,B,c,_⟩:=Ki z;have y:=(cb m.p).1 c;obtain⟨⟨G,e2,t⟩,s⟩:=H;have d:x.2.2.1=m.p.1:=congrArg (·.1) j.p;have o:x.2.2.2.1=m.p.2.1:=congrArg (·.2.1) j.p;have g:x.2.2.2.2.1=m.p.2.2:=congrArg (·.2.2) j.p;have O:m.p.1*m.p.2.2<=16*24:=yc (by omega) (by omega) (by omega) (by omega);have F:0<=m.p.1*m.p.2.2:=vk (by omega) (by omega);refine(Sp.refl h).boxed fun P N K=>?_;refine K.boxed fun L D u=>?_;have i:∀{h':Heap} {As:List HP},Sp h h' As->fe m E=false->Value.bool false=vU (fe m E)/\Sp h h' []:=fun{h' As} H' f=>⟨by rw[f],.zip H'.ah⟩
 refine aU ⟨E.name,by rw[<-G];exact(u.box 1 rfl).cell0 rfl,(Ia E.name D (by omega)).mono ?_⟩;rintro _ h3 ⟨rfl,J⟩;have a:=u.up J.ah;refine⟨_,rfl,aW (fun b=>i a (by unfold fe;rw[b];rfl)) fun k=>?_⟩;refine⟨E.object,by rw[<-e2];exact(a.box 1 rfl).cell rfl,m.next,by rw[<-j.next];exact(a.box 0 rfl).cell rfl,?_⟩;rw[an (m.next-1)];refine(ni E.object 0 (m.next-1) h3).mono ?_;rintro _ _ ⟨rfl,rfl⟩;refine⟨_,rfl,aW (fun b=>i a (by unfold fe;rw[k,b];rfl)) fun n=>?_⟩;have f:=a.box 0 rfl;refine⟨E.length,by rw[<-t];exact(a.box 1 rfl).cell rfl,m.p.1,by rw[<-d];exact f.cell rfl,m.p.2.2,by rw[<-g];exact f.rN 2 2 rfl,?_⟩;rw[an (m.p.1*m.p.2.2),an (m.p.1*m.p.2.2*8)];refine(ni E.length 0 (m.p.1*m.p.2.2*8) _).mono ?_;rintro _ _ ⟨rfl,rfl⟩;refine⟨_,rfl,aW (fun b=>i a (by unfold fe;rw[k,n,b];rfl)) fun l=>?_⟩;have w:0<=E.length/\E.length<=m.p.1*m.p.2.2*8:=by unfold dC at l;simpa using l
 refine⟨e.2.2.2,(a.box 1 rfl).cell rfl,?_⟩;refine(ML e.2.2.2 E.tries _ (Seq.up s a.ah) (by omega)).mono ?_;rintro _ _ ⟨rfl,rfl⟩;refine⟨_,rfl,aW (fun b=>?_) (fun b=>⟨trivial,i a ?_⟩)⟩
 ·have q:E.tries.all (dC · 0 15)=true:=by simpa using b
  refine⟨e.2.2.2,(a.box 1 rfl).cell rfl,m.p,?_,E.length,by rw[<-t];exact(a.box 1 rfl).cell rfl,?_⟩
  ·rw[<-d,<-o,<-g];exact f.rO 2 rfl rfl rfl
  ·refine(oQ m.p E.length _).mono ?_;rintro _ Q ⟨rfl,A⟩;have r:=a.up A.ah;refine⟨_,rfl,⟨(r.box 1 rfl).cell rfl,trivial⟩,?_,.zip r.ah⟩;unfold fe;have I:=s.len;rw[k,n,l,q,I];simp;rfl
 ·have q:E.tries.all (dC · 0 15)=false:=by simpa using b
  unfold fe;rw[k,n,l,q];rfl
theorem MM(a:Addr)(e:dh)(l:Sl)(b:List Wl.cE)(h:Heap)(p:bZ h a 73 (bv e))(o:nN nh h l b)(F:b.length<=2^30):
  ac xa 88 #[l,.func (.func 89) #[] #[vS (some a)]] h fun v h'=>v=vU (b.any fun y=>decide (y.object=e.2.1))/\Sp h h' []:=by
 refine fb l (89,#[],#[vS (some a)]) ?_;unfold dq;refine(fC l (89,#[],#[vS (some a)]) (R:=fun v h'=>(∃i:Int,v=vQ vW i/\(decide (i>=0)=b.any fun y=>decide (y.object=e.2.1)))/\Sp h h' []) ?_).mono ?_
 ·unfold dH;obtain⟨r,w,D,A⟩:=cS.Em o;have s:=cS.len o;refine az (fun i:Nat=>(i:Int)) (fun i h'=>i<=b.length/\(b.take i).any (fun y=>decide (y.object=e.2.1))=false/\Sp h h' []) (fun i=>b.length-i) 0 rfl ⟨by omega,by simp,Sp.refl h⟩ ?_;rintro i m ⟨q,c,j⟩;refine al (fun k=>?_) (fun k=>?_)
  ·have d:i<b.length:=by
    have t:(i:Int)<(l.len:Int):=k;omega
   obtain⟨⟨_,B,_⟩,_⟩:=A i (by omega) d;refine(Seq.up w j.ah).dE (g:=bv) i rfl (by omega) (r[i]'(by omega)) rfl (eZ (by rfl) ?_);refine(GH (r[i]'(by omega)) a (R:=fun v h'=>v=vU (b[i].object==e.2.1)/\Sp m h' []) ?_).mono ?_
   ·unfold AA;refine(Sp.refl m).boxed fun E u f=>?_;have n:=p.ah (up j.ah f.ah) p.lt;exact⟨b[i].object,by rw[<-B];exact(f.box 0 rfl).cell rfl,e.2.1,n.cell rfl,rfl,.zip f.ah⟩
   ·rintro _ u ⟨rfl,x⟩;have f:=j.up x.ah;refine⟨_,rfl,dN (fun e2=>?_) (fun e2=>?_)⟩
    ·refine⟨⟨i,rfl,?_⟩,f⟩;rw[decide_eq_true (show(i:Int)>=0 by omega)];exact(yu.2 ⟨_,qn d,by simpa using e2⟩).symm
    ·refine⟨i+1,by rw[an _];rfl,⟨by omega,?_,f⟩,by omega⟩;rw[aK _ _ d,vx,c];simpa using e2
  ·have t:¬(i:Int)<(l.len:Int):=k;refine⟨⟨-1,rfl,?_⟩,j⟩;rw[qi (by omega)]at c;rw[c];rfl
 ·rintro _ m ⟨⟨i,rfl,q⟩,z⟩;exact⟨i,rfl,by rw[q],z⟩
theorem DN(x:bn)(m:ar)(h:Heap)(d:eS h x m)(U:cn m):ac xa 48 #[cN x] h fun v h'=>v=vU (bB m)/\Sp h h' []:=by
 refine KL x ?_;unfold EN;refine(Sp.refl h).boxed fun R h1 G=>?_;have w:=G.box 0 rfl;have J:x.2.2.1=m.p.1:=congrArg (·.1) d.p;have T:x.2.2.2.1=m.p.2.1:=congrArg (·.2.1) d.p;have Q:x.2.2.2.2.1=m.p.2.2:=congrArg (·.2.2) d.p;have A:∀{h':Heap} {As:List HP},Sp h h' As->bB m=false->Value.bool false=vU (bB m)/\Sp h h' []:=fun{h' As} H' w=>⟨by rw[w],.zip H'.ah⟩
 refine aU ⟨m.seq,by rw[<-d.seq];exact w.cell0 rfl,(ni m.seq 1 2147483647 h1).mono ?_⟩;rintro _ _ ⟨rfl,rfl⟩;refine⟨_,rfl,aW (fun b=>A G (by unfold bB iQ;rw[b];rfl)) fun E=>?_⟩;refine⟨m.next,by rw[<-d.next];exact w.cell rfl,(ni m.next 0 16777216 _).mono ?_⟩;rintro _ _ ⟨rfl,rfl⟩;refine⟨_,rfl,aW (fun b=>A G (by unfold bB iQ;rw[E,b];rfl)) fun N=>?_⟩;refine⟨m.p,by rw[<-J,<-T,<-Q];exact w.rO 2 rfl rfl rfl,(dR m.p _).mono ?_⟩;rintro _ h2 ⟨rfl,R2⟩;have q:=G.up R2.ah;refine⟨_,rfl,aW (fun b=>A q (by unfold bB iQ;rw[E,N,b];rfl)) fun W=>?_⟩;refine⟨m.extra,by rw[<-d.extra];exact(q.box 0 rfl).cell rfl,(ni m.extra 0 16 _).mono ?_⟩;rintro _ _ ⟨rfl,rfl⟩;refine⟨_,rfl,aW (fun b=>A q (by unfold bB iQ;rw[E,N,W,b];rfl)) fun b4=>?_⟩;have H:iQ m=true:=by unfold iQ;rw[E,N,W,b4];rfl
 have M:=d.up q.ah;have y:=q.box 0 rfl;have ax:=U.dr;have ay:=U.ob;refine aU ⟨_,y.cell rfl,(Rs _ m.drives 63 _ M.drives (by omega)).mono ?_⟩;rintro _ _ ⟨rfl,rfl⟩;refine⟨_,rfl,aW (fun b=>A q (by unfold bB;rw[H,b];rfl)) fun Y=>?_⟩;have Z:=cS.len d.aH;refine⟨x.2.2.2.2.2.2.2,y.cell rfl,al (fun e=>A q ?_) fun am=>?_⟩
 ·unfold bB;rw[H,Y,decide_eq_false (by omega)];rfl
 have I:m.aH.length<=12:=by omega
 refine⟨x.2.2.2.2.2.2.2,y.cell rfl,?_⟩;obtain⟨l,B⟩:=cS.fix d.aH;have ad:=B.2.1;refine az (fun i:Nat=>(i:Int)) (fun i h'=>i<=m.aH.length/\(∀j,j<i->me m j=true)/\Sp h h' [ag R 47 (aq x)]) (fun i=>m.aH.length-i) 0 rfl ⟨by omega,by omega,q⟩ ?_;rintro i h3 ⟨hi,n,P⟩;refine al (fun e=>?_) (fun e=>?_)
 ·have c:i<m.aH.length:=by
   have e':(i:Int)<(x.2.2.2.2.2.2.2.len:Int):=e;omega
  have D:=U.nm _ (qn c);have k:mb m.aH i=m.aH[i]:=lE c;have z:∀{h':Heap} {As:List HP},Sp h h' As->me m i=false->Value.bool false=vU (bB m)/\Sp h h' []:=fun{h' As} H' w=>A H' (by unfold bB;rw[Ab c w];simp);have F3:=mO.up B P.ah;refine F3.1.dE (g:=bv) i rfl (by omega) (l[i]'(by omega)) rfl ?_;refine P.alloc af rfl fun r h4 H4=>?_;refine H4.storeAll af 1 rfl rfl (bv (l[i]'(by omega))) rfl rfl rfl rfl fun h5 u=>?_;have u:Sp h h5 [ag R 47 (aq x),ag r 73 (bv (l[i]'(by omega)))]:=u;have F5:=mO.up B u.ah;obtain⟨⟨y1,y2,y3⟩,y4⟩:=Fix.row F5 c;obtain⟨b6,f⟩:∃b,b=(decide (i=0)||dz (mb m.aH (i-1)).name (mb m.aH i).name):=⟨_,rfl⟩
  refine cv (fun _ h'=>fe m m.aH[i]=true/\b6=true/\Sp h h' [ag R 47 (aq x),ag r 73 (bv (l[i]'(by omega)))]) ?_ ?_
  ·refine⟨x,(u.box 0 rfl).aF _ rfl,l[i]'(by omega),(u.box 1 rfl).aF _ rfl,?_⟩;refine(Pe x m (l[i]'(by omega)) m.aH[i] h5 (d.up u.ah) (Fix.row F5 c) H D.1 D.2).mono ?_;rintro _ V ⟨rfl,R6⟩;have a:=u.up R6.ah;have F:=mO.up B a.ah;refine⟨_,rfl,trivial,aW (fun b=>z a (by unfold me;rw[k,b];rfl)) fun b=>al (fun e2=>?_) fun e2=>⟨b,by rw[f,decide_eq_true (show i=0 by omega)];rfl,a⟩⟩;rw[an ((i:Int)-1)];obtain⟨L,ha,zz,hc,rfl⟩:=F.1.dE (g:=bv) (i:=(i:Int)-1) (i-1) (by omega) (by omega) (l[i-1]'(by omega)) rfl (K:=fun t=>t=l[i-1]'(by omega)) rfl;refine⟨x.2.2.2.2.2.2.2,(a.box 0 rfl).cell rfl,L,ha,m.aH[i-1].name,?_,m.aH[i].name,?_,?_⟩
   ·rw[<-(Fix.row F (show i-1<m.aH.length by omega)).1.1];exact hc.1
   ·rw[<-y1];exact(a.box 1 rfl).cell0 rfl
   ·have o:mb m.aH (i-1)=m.aH[i-1]:=lE;rw[k,o]at f;refine aW (fun s=>z a ?_) (fun s=>⟨b,?_,a⟩)
    ·unfold me;rw[k,o,b,decide_eq_false (show¬i=0 by omega)];unfold dz;rw[s];rfl
    ·rw[f];unfold dz;rw[s];simp
  ·rintro _ V ⟨b,O,a⟩;have F:=mO.up B a.ah;refine⟨x.2.2.2.2.2.2.2,(a.box 0 rfl).cell rfl,⟨by omega,by have:=d.ocap;omega⟩,?_⟩;rw[qq];refine(MM r (l[i]'(by omega)) ⟨x.2.2.2.2.2.2.2.ptr,i,x.2.2.2.2.2.2.2.cap⟩ (m.aH.take i) V (a.box 1 rfl) (cS.take F.YK i (by omega)) (by simp;omega)).mono ?_;rintro _ h7 ⟨rfl,R7⟩;have X:=a.up R7.ah;rw[y2];refine⟨_,rfl,bq (fun s=>z X ?_) fun s=>?_⟩
   ·unfold me;rw[k,s];simp
   ·refine⟨i+1,by rw[an _];rfl,⟨by omega,fun j hj=>?_,X.ca [0]⟩,by omega⟩;by_cases S:j=i
    ·subst S;rw[O]at f;unfold me;rw[<-f,k,b,s];rfl
    ·exact n j (by omega)
 ·have e':¬(i:Int)<(x.2.2.2.2.2.2.2.len:Int):=e;refine⟨?_,.zip P.ah⟩;unfold bB;rw[H,Y,decide_eq_true I,oq fun j hj=>n j (by omega)];rfl
section
variable {B:ap} {h0 h:Heap} {As:List HP}
theorem nH(s:Sl)(l:aL)(n:Int)(k:Nat)(w:k<=4)(q:l.length<=2^20)(H:aa B h0 h (aj 5 s 1 aw l::As)):
  ac xa 91 #[s,vQ vW n,vQ vW k] h fun v h'=>∃b:Sl,v=b/\aa B h0 h' (aj 5 b 1 aw (l++bg n k)::As):=by
 refine EW s n k ?_;unfold xj;have p:=bM n k;refine az (fun t:Sl×Nat=>(t.1,(k:Int)-1-t.2)) (fun t h'=>t.2<=k/\aa B h0 h' (aj 5 t.1 1 aw (l++(bg n k).take t.2)::As)) (fun t=>k-t.2) (s,0) (by rw[an _];simp) ⟨by simp,by simpa using H⟩ ?_;rintro⟨o,j⟩ u ⟨x,a⟩;dsimp only at*;refine al (fun e=>?_) (fun e=>?_)
 ·have c:j<k:=by omega
  rw[an ((8:Int)*((k:Int)-1-j))];refine⟨by omega,?_⟩;have g:((8:Int)*((k:Int)-1-j)).toNat=8*(k-1-j):=by omega
  have d:min (8*(k-1-j)) (qj vW)=8*(k-1-j):=by
   have:qj vW=64:=rfl;omega
  rw[g,d,df];have f:b8 (qL n (2^(8*(k-1-j))))=(bg n k)[j]'(by omega):=by simp[bg]
  rw[f];refine a.push af 0 rfl iA rfl (by decide) (fun _=>rfl) fX ((bg n k)[j]'(by omega)) rfl (by decide) (by simp;omega) fun i r m=>?_;refine⟨(i,j+1),by dsimp only;rw[an _];congr 1;omega,⟨by dsimp only;omega,?_⟩,by dsimp only;omega⟩;dsimp only;rw[aK _ _ (show j<(bg n k).length by omega),<-qm];exact m
 ·rw[qi (by omega)]at a;exact⟨o,rfl,a⟩
theorem Fw(b:Sl)(l:aD)(o:Sl)(c:aL)(H:aa B h0 h (aj 5 o 1 aw c::As))(q:St B h0 As fun h=>Rd h b 1 aE l)(G:c.length<=2^30)(D:l.length<=2^30){K:Sl×Int->Heap->Prop}
  (y:∀r h',aa B h0 h' (aj 5 r 1 aw (c++l.map b8)::As)->K (r,(l.length:Int)) h'):
  aN (σ:=Sl×Int) (fun a v h8=>
 Br (decide (a.2<((b.len:Nat):Int)))
 (∃g:Addr,(b.ptr=some g/\0<=a.2/\a.2<((b.len:Nat):Int))/\
 ∃k:Int,cellOf h8 (g.add (a.2.toNat*1))=some (vQ vW k)/\
 av xa (Instr.buildSlice 38 1 #[(0,(vQ vX (qc vX k)))]) (.one (.sc .slc)) h8 fun f s=>
 av xa (Builtin.append_ #[38,38] 38 #[(vR a.1.ptr a.1.len a.1.cap),(vR f.ptr f.len f.cap)]) (.one (.sc .slc)) s fun d p=>
 v ((⟨d.ptr,d.len,d.cap⟩:Sl),qc vW (a.2+(1:Int))) p)
 (K a h8)) (o,(0:Int)) h:=by
 have w:b.len=l.length:=(q.at [_] H).len;refine az (fun t:Sl×Nat=>(t.1,(t.2:Int))) (fun t h'=>t.2<=l.length/\aa B h0 h' (aj 5 t.1 1 aw (c++(l.take t.2).map b8)::As)) (fun t=>l.length-t.2) (o,0) rfl ⟨by simp,by simpa using H⟩ ?_;rintro⟨u,i⟩ x ⟨F,m⟩;dsimp only at*;refine al (fun e=>?_) (fun e=>?_)
 ·have j:i<l.length:=by omega
  refine(q.at [_] m).cK i rfl j l[i] rfl ?_;rw[df];refine m.push af 0 rfl iA rfl (by decide) (fun _=>rfl) fX (b8 l[i]) rfl (by decide) (by simp;omega) fun A E z=>?_;refine⟨(A,i+1),by dsimp only;rw[an _];rfl,⟨by dsimp only;omega,?_⟩,by dsimp only;omega⟩;dsimp only;rw[aK _ _ j,za,<-qm];exact z
 ·have n:i=l.length:=by omega
  subst n;rw[zc]at m;exact y u x m
end
theorem Wi{m:ar}(a:bB m=true){i:Nat}(b:i<m.aH.length):fe m m.aH[i]=true:=by
 unfold bB at a;simp only[qz]at a;have:=qU.1 a.2.2.2 i (qF.2 b);unfold me at this;simp only[qz]at this;have c:=this.1
 rwa [lE b]at c
theorem Ru{m:ar}(d:bB m=true){i:Nat}(h:i<m.aH.length):m.aH[i].name.size<=12/\m.aH[i].tries.length<=3073:=by
 have b:=Wi d h;unfold fe gC at b;simp only[qz,decide_eq_true_eq]at b;obtain⟨⟨_,_,e⟩,_,h3,_,c⟩:=b;refine⟨e,?_⟩;obtain⟨_,_,a,_⟩:=Ki (QM d);have g:=(cb m.p).1 a;unfold dC at h3;simp only[qz,decide_eq_true_eq]at h3;have j:m.p.1*m.p.2.2<=16*24:=yc (by omega) (by omega) (by omega) (by omega);unfold countP at c;split at c
 ·have:(m.aH[i].length-1)/(m.p.1*m.p.2.2)<=m.aH[i].length-1:=vr _ (by rename_i f;simp at f;omega);omega
 ·omega
theorem Rv{m:ar}(b:bB m=true){i:Nat}(a:i<m.aH.length):(dW m.aH[i]).length<=4000:=by
 have:=Ru b a;unfold dW;simp[bM];have:m.aH[i].name.data.size=m.aH[i].name.size:=rfl;omega
theorem AT{m:ar}(a:bB m=true):∀n,n<=m.aH.length->((m.aH.take n).flatMap dW).length<=n*4000
 |0,_=>by simp
 |n+1,hn=>by
  rw[aK _ _ (show n<m.aH.length by omega),qY,qw];have c:=AT a n (by omega);have b:=Rv a (show n<m.aH.length by omega);have h3:([m.aH[n]].flatMap dW).length=(dW m.aH[n]).length:=by rw[zf,wx,qM]
  omega
theorem DO{m:ar}(a:bB m=true):m.aH.length<=12:=by
 unfold bB at a;simp only[qz,decide_eq_true_eq]at a;exact a.2.2.1
theorem DP(m:ar)(k:cn m):(bo m).length<=100000:=by
 unfold bo;split
 ·rename_i f;have c:=f;unfold bB at c;simp only[qz,decide_eq_true_eq]at c;have h:m.drives.length<=64:=by
   have a:=c.2.1;unfold md at a;rw[qU]at a;by_cases g:m.drives.length<=64
   ·exact g
   ·exfalso;have e:∀i,i<m.drives.length->(i:Int)<=m.drives.getD i 0:=fun i=>by
     induction i with
     |zero=>
      intro b;have:=a 0 (qF.2 b);unfold gZ dC at this;simp at this;simpa using this.1
     |succ i ih=>
      intro b;have:=a (i+1) (qF.2 b);have h3:=ih (by omega);unfold gZ dC at this;simp at this;have d:=this.2;simp only[qf]at h3⊢;omega
    have h3:=e 64 (by omega);have d:=a 64 (qF.2 (by omega));unfold gZ dC at d;simp at d;simp only[qf]at h3;omega
  have j:(m.aH.flatMap dW).length<=12*4000:=by
   have a:=AT f m.aH.length (qp _);rw[zc]at a;have:=zm 4000 (DO f);omega
  simp only[qw,zi,yE,qC,bM];omega
 ·simp
theorem AU(x:bn)(m:ar)(h:Heap)(d:eS h x m)(hz:cn m):ac xa 52 #[cN x] h fun v h'=>∃r:Sl,v=r/\Sp h h' [aj 5 r 1 aw (bo m)]:=by
 refine IL x ?_;unfold Cz;refine(Sp.refl h).boxed fun a1 h1 H1=>?_;refine⟨x,(H1.box 0 rfl).aF _ rfl,(DN x m h1 (d.up H1.ah) hz).mono ?_⟩;rintro _ h2 ⟨rfl,R2⟩;have H2:=H1.up R2.ah;refine⟨_,rfl,aW (fun e=>?_) fun z=>?_⟩
 ·unfold bo;rw[e];exact⟨⟨none,0,0⟩,rfl,((H2.nil 5 1 aw).ca [1])⟩
 have U:x.2.2.1=m.p.1:=congrArg (·.1) d.p;have a4:x.2.2.2.1=m.p.2.1:=congrArg (·.2.1) d.p;have a2:x.2.2.2.2.1=m.p.2.2:=congrArg (·.2.2) d.p;have J:=H2.box 0 rfl;have c:=DP m hz;unfold bo at c;rw[z,if_pos rfl]at c;have hM:∀{h':Heap} {As:List HP},Sp h h' As->eS h' x m:=fun{h' As} O=>d.up O.ah;refine aU ⟨m.seq,by rw[<-d.seq];exact J.cell0 rfl,m.next,by rw[<-d.next];exact J.cell rfl,?_⟩;have H3:=(H2.nil 5 1 aw).cl;refine(nH ⟨none,0,0⟩ [] m.seq 4 (by decide) (by simp) H3).mono ?_;rintro _ h4 ⟨s4,rfl,H4⟩;refine⟨s4,rfl,⟨by rw[<-d.next];exact(H4.box 1 rfl).cell rfl,trivial⟩,?_⟩;refine(nH s4 _ m.next 4 (by decide) (by simp[bM]) H4).mono ?_;rintro _ h5 ⟨s5,rfl,H5⟩;refine⟨s5,rfl,trivial,?_⟩;have k:=H5.box 1 rfl;refine⟨m.p.1,by rw[<-U];exact k.cell rfl,m.p.2.1,by rw[<-a4];exact k.rN 2 1 rfl,m.p.2.2,by rw[<-a2];exact k.rN 2 2 rfl,m.extra,by rw[<-d.extra];exact k.cell rfl,x.2.2.2.2.2.2.1,k.cell rfl,?_⟩;have ay:=d.drives.len;have a0:=cS.len d.aH;rw[df,df,df,df,df,ay];refine H5.lit af aw iA rfl [b8 m.p.1,b8 m.p.2.1,b8 m.p.2.2,b8 m.extra,b8 (m.drives.length:Nat)] rfl (show 5*1<=2^20 by decide) rfl fun a8 h6 H6=>?_;refine H6.append af 0 rfl iA ⟨_,_,rfl,rfl⟩ rfl (by decide) (fun _=>rfl) (H6.seq 2 rfl fun _=>rfl) fX (by simp[bM]) fun s7 h7 Q=>?_;have Q:=Q.ca [0,1];refine⟨x.2.2.2.2.2.2.1,(Q.box 1 rfl).cell rfl,?_⟩;have a6:(([]++bg m.seq 4)++bg m.next 4++[b8 m.p.1,b8 m.p.2.1,b8 m.p.2.2,b8 m.extra,b8 (m.drives.length:Nat)]).length=13:=by simp[bM]
 have a7:=hz.dr;refine Fw x.2.2.2.2.2.2.1 m.drives s7 _ Q (St.mk' fun h' O=>(hM O).drives) (by omega) (by omega) fun s8 h8 S=>?_;dsimp only;refine⟨x.2.2.2.2.2.2.2,(S.box 1 rfl).cell rfl,?_⟩;rw[df,a0];obtain⟨a,b⟩:∃a,a=([]++bg m.seq 4)++bg m.next 4++[b8 m.p.1,b8 m.p.2.1,b8 m.p.2.2,b8 m.extra,b8 (m.drives.length:Nat)]++m.drives.map b8:=⟨_,rfl⟩
 rw[<-b]at S;have X:a.length=13+m.drives.length:=by rw[b];simp[bM];omega
 simp only[qw,zi,yE,qC,bM]at c;refine S.push af 0 rfl iA rfl (by decide) (fun _=>rfl) fX (b8 (m.aH.length:Nat)) rfl (by decide) (by omega) fun s9 h9 P=>?_;have P:Sp h h9 [aj 5 s9 1 aw (a++[b8 (m.aH.length:Nat)]),ag a1 47 (aq x)]:=P;refine⟨x.2.2.2.2.2.2.2,(P.box 1 rfl).cell rfl,?_⟩;obtain⟨L,R⟩:=cS.fix d.aH;have bb:=R.2.1;refine az (fun t:Sl×Nat=>(t.1,(t.2:Int))) (fun t h'=>t.2<=m.aH.length/\Sp h h' [aj 5 t.1 1 aw (a++[b8 (m.aH.length:Nat)]++(m.aH.take t.2).flatMap dW),ag a1 47 (aq x)]) (fun t=>m.aH.length-t.2) (s9,0) rfl ⟨by simp,by simpa using P⟩ ?_;rintro⟨o,i⟩ bd ⟨hi,l⟩;dsimp only at*;refine al (fun e=>?_) (fun e=>?_)
 ·have n:i<m.aH.length:=by omega
  have ax:=mO.up R l.ah;have V:=Ru z n;have s:((m.aH.take i).flatMap dW).length<=50000:=by
   have h1:=AT z i hi;have:=DO z;have:i*4000<=12*4000:=zm _ (by omega);omega
  refine ax.1.dE (g:=bv) i rfl (by omega) (L[i]'(by omega)) rfl ?_;refine l.alloc af rfl fun W bl Z=>?_;refine Z.storeAll af 2 rfl rfl (bv (L[i]'(by omega))) rfl rfl rfl rfl fun T f=>?_;have Y:=mO.up R f.ah;obtain⟨⟨w,y2,y3⟩,y4⟩:=Fix.row Y n;obtain⟨E,hE⟩:∃E,E=m.aH[i]:=⟨_,rfl⟩
  rw[<-hE]at w y2 y3 y4 V;have u:=f.box 2 rfl;refine aU ⟨E.name,by rw[<-w];exact u.cell0 rfl,E.name,by rw[<-w];exact u.cell0 rfl,?_⟩;rw[df];refine f.sJ af aw iA rfl [b8 (E.name.size:Nat)] rfl (show 1*1<=2^20 by decide) rfl ⟨by rw[<-w];exact u.cell0 rfl,by rw[<-w];exact u.cell0 rfl,trivial⟩ ?_;have F:(a++[b8 (m.aH.length:Nat)]++(m.aH.take i).flatMap dW).length<=160000:=by rw[qw,qw,X];simp;simp at s;omega
  obtain⟨j,H⟩:∃j,j=a++[b8 (m.aH.length:Nat)]++(m.aH.take i).flatMap dW:=⟨_,rfl⟩
  rw[<-H]at f F;refine f.push af 0 rfl iA rfl (by decide) (fun _=>rfl) fX (b8 (E.name.size:Nat)) rfl (by decide) (by omega) fun b1 a9 G=>?_;have B:=G.box 2 rfl;refine⟨⟨by rw[<-w];exact B.cell0 rfl,by rw[<-w];exact B.cell0 rfl,trivial⟩,?_⟩;refine G.QL af 0 rfl iA ⟨_,rfl,rfl⟩ rfl (by decide) E.name (by simp;omega) fun M ad q=>?_;have y:=q.box 2 rfl;refine⟨⟨by rw[<-w];exact y.cell0 rfl,trivial⟩,?_⟩;have q:Sp h ad [aj 5 M 1 aw (j++[b8 (E.name.size:Nat)]++go E.name),ag a1 47 (aq x),ag W 73 (bv (L[i]'(by omega)))]:=q;refine aU ⟨E.object,by rw[<-y2];exact y.cell rfl,E.length,by rw[<-y3];exact y.cell rfl,?_⟩;have b0:=uo E.name;refine(nH M _ E.object 3 (by decide) (by simp;omega) q).mono ?_;rintro _ bw ⟨I,rfl,A⟩;have a5:=A.box 2 rfl;refine⟨I,rfl,⟨by rw[<-y3];exact a5.cell rfl,trivial⟩,?_⟩;refine(nH I _ E.length 2 (by decide) (by simp[bM];omega) A).mono ?_;rintro _ bk ⟨N,rfl,D⟩;have am:=D.box 2 rfl;refine⟨N,rfl,trivial,(L[i]'(by omega)).2.2.2,am.cell rfl,?_⟩;refine Fw (L[i]'(by omega)).2.2.2 E.tries N _ D (St.mk' fun h' O=>by rw[hE];exact(Fix.row (mO.up R O.ah) n).2) (by simp[bM];omega) (by omega) fun a3 br K=>?_;dsimp only;have T:=DO z;refine⟨(a3,i+1),by dsimp only;rw[an _];rfl,⟨by dsimp only;omega,?_⟩,by dsimp only;omega⟩;dsimp only;rw[aK _ _ n,qY,<-qm,<-H,zf,wx,qM,<-hE];have e3:j++[b8 (E.name.size:Nat)]++go E.name++bg E.object 3++bg E.length 2++E.tries.map b8=j++dW E:=by
   unfold dW go;simp[qm]
  rw[e3]at K;exact K.ca [0,1]
 ·rw[qi (by omega)]at l;refine⟨o,rfl,?_⟩;have e2:a++[b8 (m.aH.length:Nat)]++m.aH.flatMap dW=bo m:=by
   rw[b];unfold bo;rw[z,if_pos rfl];simp[qm]
  rw[e2]at l;exact l.ca [0]
end Go.Qw
namespace Go.Vc
open Go Wl
def cQ{α:Type}(k:Nat)(f:α->aQ)(L:List (Sl×List α)):HP:=⟨fun h q=>∀y∈L,Seq h q y.1 k f y.2,fun a d y b=>(a y b).ah d,fun a c y b=>(a y b).mono c⟩
section
variable {α:Type} {B:ap} {h0 h:Heap} {As:List HP} {k:Nat} {f:α->aQ} {L:List (Sl×List α)} {s:Sl} {l:List α}
theorem aa.NX(H:aa B h0 h As)(k:Nat)(f:α->aQ):aa B h0 h (cQ k f []::As):=
 (H.comp (.one (A:=cQ k f []) (aG.refl _ _) (fun y a=>by cases a))).cl
theorem aa.GU(H:aa B h0 h (cQ k f L::jo s k f l::As)):aa B h0 h (cQ k f ((s,l)::L)::As):=by
 have g:aa B h0 h ((jo s k f l).sep (cQ k f L)::As):=H.jX;refine g.gn 0 rfl fun q ⟨j,i,_,b,c,d,e⟩ y a=>?_;rcases zj.1 a with rfl|a
 ·exact d.mono b
 ·exact(e y a).mono c
theorem aa.Wj(H:aa B h0 h (cQ k f L::As)){y:Sl×List α}(a:y∈L):Rd h y.1 k f y.2:=H.at 0 rfl y a
end
end Go.Vc
namespace Go.Qw
open Go Go.Vc Go.Proofs Wl
theorem XC(n:Int):bg n 4=[b8 (qL n (2^24)),b8 (qL n (2^16)),b8 (qL n (2^8)),b8 n]:=by
 have e:qL n (2^0)=n:=by simp
 show[b8 (qL n (2^24)),b8 (qL n (2^16)),b8 (qL n (2^8)),b8 (qL n (2^0))]=_;rw[e]
theorem Rw(seq a c:Int)(b:Sl)(l:aL)(h:Heap)(o:Rd h b 1 aw l)(u:l.length<=2^20):ac xa 53 #[vQ vW seq,vQ vW a,vQ vW c,b] h fun v h'=>∃r:Sl,v=r/\Sp h h' [aj 5 r 1 aw (iq seq a c l)]:=by
 refine KN seq a c b ?_;unfold EP;refine⟨by decide,by decide,by decide,?_⟩;have j:min (24:Int).toNat (qj vW)=24:=rfl;have i:min (16:Int).toNat (qj vW)=16:=rfl;have s:min (8:Int).toNat (qj vW)=8:=rfl;rw[j,i,s,df,df,df,df,df,df,df];have d:=XC seq;generalize b8 (qL seq (2^24))=c1 at d⊢;generalize b8 (qL seq (2^16))=c2 at d⊢;generalize b8 (qL seq (2^8))=c3 at d⊢;generalize b8 seq=c4 at d⊢;have e:iq seq a c l=dt 2 ([c1,c2,c3,c4]++([b8 a,b8 c,b8 (b.len:Nat)]++l)):=by unfold iq;rw[d,o.len]
 generalize b8 a=c5 at e⊢;generalize b8 c=c6 at e⊢;generalize b8 (b.len:Nat)=c7 at e⊢;refine(Sp.refl h).lit af aw iA rfl [c1,c2,c3,c4,c5,c6,c7] rfl (show 7*1<=2^20 by decide) (by kernel_rfl) fun w x q=>?_;refine q.append af 0 rfl iA ⟨_,_,rfl,rfl⟩ rfl (by decide) (fun _=>rfl) (Seq.up o q.ah) fX (by simp;omega) fun n m p=>?_;have k:Rd m n 1 aw ([c1,c2,c3,c4,c5,c6,c7]++l):=p.seq 0 rfl fun _=>rfl;have f:([c1,c2,c3,c4,c5,c6,c7]++l).length<=2^40:=by simp;omega
 rw[e];have g:[c1,c2,c3,c4,c5,c6,c7]++l=[c1,c2,c3,c4]++([c5,c6,c7]++l):=rfl;rw[<-g];generalize [c1,c2,c3,c4,c5,c6,c7]++l=ll at k f⊢;refine(AS 2 n ll m k f).mono ?_;rintro _ h3 ⟨r,rfl,t⟩;exact⟨r,rfl,r,rfl,(aa.comp (Sp.zip p.ah) t)⟩
theorem kG(x:bn)(m:ar)(h:Heap)(w:eS h x m)(D:cn m):ac xa 25 #[cN x] h fun v h'=>∃r:Sl,v=r/\Sp h h' [cz r (aP m)]:=by
 refine GA x ?_;unfold Aq;refine(Sp.refl h).boxed fun E L u=>?_;refine⟨x,(u.box 0 rfl).aF _ rfl,(AU x m L (w.up u.ah) D).mono ?_⟩;rintro _ H ⟨b,rfl,I⟩;have j:=u.comp I;have q:=DP m D;obtain⟨l,k⟩:∃l,l=bo m:=⟨_,rfl⟩
 rw[<-k]at j q;have O:=(j.own 1 rfl).len;have n:=(j.own 1 rfl).cap;refine⟨b,rfl,by decide,?_⟩;have a:qc vW (w5 (qc vW ((qc vW (((b.len:Nat):Int)+(48:Int)))-(1:Int))) (48:Int))=(cD l:Int):=by
  rw[an ((b.len:Int)+48),an ((b.len:Int)+48-1),Int.tdiv_eq_ediv_of_nonneg (by omega)];unfold cD;rw[an (((b.len:Int)+48-1)/48)];omega
 have N:cD l<=3000:=by unfold cD;omega
 rw[a];obtain⟨g,d⟩:∃g:bR,g=aP m:=⟨_,rfl⟩
 have z:g.length=cD l:=by rw[d,k];simp[aP]
 have c:Sp h H [cz ⟨none,0,0⟩ (g.take 0),ag E 47 (aq x),aj 5 b 1 aw l]:=j.Di 38 5 1 aw;refine az (fun t:Sl×Nat=>(t.1,(t.2:Int))) (fun t h'=>t.2<=cD l/\Sp h h' [cz t.1 (g.take t.2),ag E 47 (aq x),aj 5 b 1 aw l]) (fun t=>cD l-t.2) (⟨none,0,0⟩,0) rfl ⟨by simp,c⟩ ?_;rintro⟨o,i⟩ h3 ⟨R,c⟩;dsimp only at*;refine al (fun e=>?_) (fun e=>?_)
 ·have s:i<cD l:=by omega
  have A:48*i<l.length:=by unfold cD at s;omega
  rw[an ((i:Int)*48),an ((i:Int)+1),an (((i:Int)+1)*48)];obtain⟨f,P⟩:∃f:Nat,f=min (48*i+48) l.length:=⟨_,rfl⟩
  have p:(if((i:Int)+1)*48<((b.len:Nat):Int)then((i:Int)+1)*48 else((b.len:Nat):Int))=(f:Int):=by
   split<;>omega
  rw[p];refine⟨m.seq,by rw[<-w.seq];exact(c.box 1 rfl).cell0 rfl,⟨by omega,by omega,by omega⟩,?_⟩;have J:((i:Int)*48).toNat=48*i:=by omega
  rw[J,qq];have B:=((c.seq 2 rfl fun _=>rfl).drop (48*i) n).take (f-48*i) (by rw[qV];omega);have e2:(l.drop (48*i)).take (f-48*i)=(l.drop (48*i)).take 48:=by
   by_cases Q:48*i+48<=l.length
   ·rw[show f-48*i=48 by omega]
   ·rw[qi (by rw[qV];omega),qi (by rw[qV];omega)]
  rw[e2,wO]at B;refine(Rw m.seq i (cD l) ⟨_,f-48*i,b.cap-48*i⟩ _ h3 (by rw[wO];exact B) (by simp;omega)).mono ?_;rintro _ S ⟨r,rfl,G⟩;have y:=(c.cM G).bj 4 [1,0,2,3];refine⟨r,rfl,trivial,?_⟩;refine y.sJ af cF jy rfl [r] rfl (show 1*1<=2^20 by decide) rfl trivial ?_;refine y.Ep af jy (by simp;omega) fun K T F=>⟨trivial,?_⟩
  refine⟨(K,i+1),rfl,⟨by dsimp only;omega,?_⟩,by dsimp only;omega⟩;dsimp only;rw[aK _ _ (show i<g.length by omega)];have M:g[i]'(by omega)=iq m.seq i (cD l) ((l.drop (48*i)).take 48):=by
   subst d;subst k;simp[aP]
  rw[M];exact F
 ·rw[qi (by omega),d]at c;exact⟨o,rfl,c.ca [0]⟩
theorem MN(s:Sl)(a:List dh)(h:Heap)(c:Rd h s 4 bv a)(f:a.length<=2^30):ac xa 84 #[s] h fun v h'=>∃r:Sl,v=r/\Sp h h' [aj 73 r 4 bv a]:=by
 refine ko s ?_;unfold gv;refine bq (fun e=>?_) (fun e=>?_)
 ·have:=c.isNil e;subst this;exact⟨⟨none,0,0⟩,rfl,(Sp.refl h).nil 73 4 bv⟩
 ·refine(Sp.refl h).lit af bv TQ rfl ([]:List dh) rfl (by decide) rfl fun k j b=>?_;refine b.append af 0 rfl TQ ⟨_,_,rfl,rfl⟩ rfl (by decide) (fun _=>rfl) (Seq.up c b.ah) GS (by simp;omega) fun g i d=>?_;exact⟨g,rfl,d⟩
def BY(pool:List (Sl×aD))(p:dh×Wl.cE):Prop:=(p.1.1=p.2.name/\p.1.2.1=p.2.object/\p.1.2.2.1=p.2.length)/\(p.1.2.2.2,p.2.tries)∈pool
theorem aa.Ld{B:ap}{l h:Heap}{As:List HP}{y:bn}{m:ar}{L:List (dh×Wl.cE)}{pool:List (Sl×aD)}(d:y.1=m.seq/\y.2.1=m.next/\(y.2.2.1,y.2.2.2.1,y.2.2.2.2.1)=m.p/\y.2.2.2.2.2.1=m.extra)(n:L.map ze=m.aH)(w:∀p∈L,BY pool p)
  (H:aa B l h (cQ 1 aE pool::aj 3 y.2.2.2.2.2.2.1 1 aE m.drives::aj 73 y.2.2.2.2.2.2.2 4 bv (L.map qx)::As)):aa B l h (bt y m::As):=by
 have i:=(H.own 2 rfl)
 have k:=(H.own 1 rfl)
 have o:=((H.freeze 1 rfl fun _=>rfl).freeze 2 rfl fun _=>rfl).jX.jX;refine o.gn 0 rfl fun q ⟨F,E,_,b,c,z,s⟩=>?_;obtain⟨G,I,_,D,A,z3,z4⟩:=s;refine⟨d.1,d.2.1,d.2.2.1,d.2.2.2,z3.mono fun x g=>c x (D x g),⟨L.map qx,z.mono b,by rw[<-n];simp,fun j r e a f=>?_⟩,k.cap,i.cap⟩;rw[<-n]at f;rw[qP]at a f;cases hj:L[j]? with
 |none=>rw[hj]at a;cases a
 |some p=>
  rw[hj]at a f;have v:=wG.inj (show some p.1=some r from a);have e2:=wG.inj (show some p.2=some e from f);subst v;subst e2;obtain⟨u,t⟩:=w p (wu hj);exact⟨u,(z4 _ t).mono fun x g=>c x (A x g)⟩
theorem tw(x:bn)(m:ar)(h:Heap)(z:eS h x m)(P:cn m):ac xa 47 #[cN x] h fun v h'=>∃(y:bn) (L:List (dh×Wl.cE)) (pool:List (Sl×aD)),v=cN y/\(y.1=m.seq/\y.2.1=m.next/\(y.2.2.1,y.2.2.2.1,y.2.2.2.2.1)=m.p/\y.2.2.2.2.2.1=m.extra)/\L.map ze=m.aH/\(∀p∈L,BY pool p)/\
  Sp h h' [cQ 1 aE pool,aj 3 y.2.2.2.2.2.2.1 1 aE m.drives,aj 73 y.2.2.2.2.2.2.2 4 bv (L.map qx)]:=by
 refine KK x ?_;unfold EM;refine(Sp.refl h).boxed fun R k H1=>?_;refine H1.alloc af rfl fun S u O=>?_;have E:=O.box 0 rfl;have hM:∀{h':Heap} {As:List HP},Sp h h' As->eS h' x m:=fun{h' As} H'=>z.up H'.ah;obtain⟨b,F⟩:=cS.fix z.aH;have ad:=F.2.1;have V:=P.dr;have am:=P.ob;refine aU ⟨x.2.2.2.2.2.2.1,E.cell rfl,x.2.2.2.2.2.2.2,E.cell rfl,?_⟩;refine(kF _ m.drives u (hM O).drives (by omega)).mono ?_;rintro _ h3 ⟨d,rfl,R3⟩;have J:=O.comp R3;refine⟨d,rfl,⟨(J.box 0 rfl).cell rfl,trivial⟩,?_⟩;refine(MN _ b h3 (mO.up F J.ah).1 (by omega)).mono ?_;rintro _ h4 ⟨o,rfl,R4⟩;have H4:=J.comp R4;refine⟨o,rfl,trivial,?_⟩;refine H4.store af 0 rfl rfl 6 [d] rfl rfl rfl (by simp[Value.cells]) fun h5 H5=>⟨trivial,?_⟩
 refine H5.store af 0 rfl rfl 7 [o] rfl rfl rfl (by simp[Value.cells]) fun U s=>⟨trivial,?_⟩
 obtain⟨y,n⟩:∃y:bn,y=(x.1,x.2.1,x.2.2.1,x.2.2.2.1,x.2.2.2.2.1,x.2.2.2.2.2.1,d,o):=⟨_,rfl⟩
 have s:Sp h U [ag R 47 (aq y),ag S 47 [vQ vW 0,vQ vW 0,vQ vW 0,vQ vW 0,vQ vW 0,vQ vW 0,vR none 0 0,vR none 0 0],aj 3 d 1 aE m.drives,aj 73 o 4 bv b]:=by rw[n];exact s
 have c:y.2.2.2.2.2.2.2=o:=by rw[n]
 have H:y.2.2.2.2.2.2.1=d:=by rw[n]
 refine⟨o,by rw[<-c];exact(s.box 0 rfl).cell rfl,?_⟩;have ay:=(s.own 3 rfl).len;have s:=s.NX 1 aE;refine az (fun t:List dh×List (Sl×aD)=>(t.1.length:Int)) (fun t h'=>t.1.length<=m.aH.length/\(∀(j:Nat) r e,t.1[j]?=some r->m.aH[j]?=some e->(r.1=e.name/\r.2.1=e.object/\r.2.2.1=e.length)/\(r.2.2.2,e.tries)∈t.2)/\Sp h h' [cQ 1 aE t.2,ag R 47 (aq y),ag S 47 [vQ vW 0,vQ vW 0,vQ vW 0,vQ vW 0,vQ vW 0,vQ vW 0,vR none 0 0,vR none 0 0],aj 3 d 1 aE m.drives,aj 73 o 4 bv (t.1++b.drop t.1.length)]) (fun t=>m.aH.length-t.1.length) ([],[]) rfl ⟨by simp,fun j r e k=>by simp at k,s⟩ ?_;rintro⟨a,pool⟩ Z ⟨hi,D,l⟩;dsimp only at*;refine al (fun e=>?_) (fun e=>?_)
 ·have q:a.length<m.aH.length:=by omega
  have F7:=mO.up F l.ah;obtain⟨⟨T,y2,y3⟩,y4⟩:=Fix.row F7 q;have f:(a++b.drop a.length)[a.length]'(by simp;omega)=b[a.length]'(by omega):=by simp
  obtain⟨N,ha,zz,Y,rfl⟩:=(l.seq 4 rfl fun _=>rfl).dE (g:=bv) (i:=(a.length:Int)) a.length rfl (by simp;omega) (b[a.length]'(by omega)) (by rw[f]) (K:=fun t=>t=b[a.length]'(by omega)) rfl;refine⟨o,by rw[<-c];exact(l.box 1 rfl).cell rfl,o,by rw[<-c];exact(l.box 1 rfl).cell rfl,N,ha,_,Y.2.2.2.1,?_⟩;have a0:=(P.nm _ (qn q)).2;refine(kF _ m.aH[a.length].tries Z y4 (by omega)).mono ?_;rintro _ h8 ⟨t,rfl,R8⟩;have w:=l.cM R8;refine⟨t,rfl,⟨by rw[<-c];exact(w.box 2 rfl).cell rfl,by rw[<-c];exact(w.box 2 rfl).cell rfl,trivial⟩,?_⟩;refine w.Tl af 5 rfl (fun _=>rfl) rfl a.length rfl (by simp;omega) 3 [t] (by simp) ((b[a.length]'(by omega)).1,(b[a.length]'(by omega)).2.1,(b[a.length]'(by omega)).2.2.1,t) rfl rfl rfl (by rw[f];simp[bv]) fun h9 A=>⟨trivial,?_⟩
  have A:=(A.freeze 0 rfl fun _=>rfl).bj 6 [1,0,2,3,4,5];have A:=A.GU;refine⟨(a++[((b[a.length]'(by omega)).1,(b[a.length]'(by omega)).2.1,(b[a.length]'(by omega)).2.2.1,t)],(t,m.aH[a.length].tries)::pool),by simp only[qw,List.length_singleton];rw[an _];rfl,⟨by simp;omega,fun j r e k u=>?_,?_⟩,by simp;omega⟩
  ·dsimp only at k⊢;by_cases M:j<a.length
   ·rw[ql M]at k;obtain⟨g1,g2⟩:=D j r e k u;exact⟨g1,List.mem_cons_of_mem _ g2⟩
   ·have G:j=a.length:=by
     have:=(qk.1 k).1;simp at this;omega
    subst G;rw[qg (qp _),qZ]at k;simp at k;rw[qd q]at u;injection u with u
    subst k;subst u;exact⟨⟨T,y2,y3⟩,List.mem_cons_self⟩
  ·dsimp only;have X:(a++b.drop a.length).set a.length ((b[a.length]'(by omega)).1,(b[a.length]'(by omega)).2.1,(b[a.length]'(by omega)).2.2.1,t)=a++[((b[a.length]'(by omega)).1,(b[a.length]'(by omega)).2.1,(b[a.length]'(by omega)).2.2.1,t)]++b.drop (a++[((b[a.length]'(by omega)).1,(b[a.length]'(by omega)).2.1,(b[a.length]'(by omega)).2.2.1,t)]).length:=by
    rw[q9 _ _ (qp _),qZ,qS (show a.length<b.length by omega),zR];simp
   rw[<-X];exact A
 ·have ax:a.length=m.aH.length:=by omega
  rw[zd (by omega),qM]at l;refine⟨y,(l.box 1 rfl).aF _ rfl,?_⟩;refine l.storeAll af 2 rfl rfl (aq y) rfl rfl rfl rfl fun h8 w=>?_;have I:(a.zip m.aH).map qx=a:=List.map_fst_zip (by omega);have Q:(a.zip m.aH).map ze=m.aH:=List.map_snd_zip (by omega);refine⟨y,(w.box 2 rfl).aF _ rfl,y,a.zip m.aH,pool,rfl,⟨by rw[n];exact z.seq,by rw[n];exact z.next,by rw[n];exact z.p,by rw[n];exact z.extra⟩,Q,fun p W=>?_,?_⟩
  ·obtain⟨j,M,rfl⟩:=qN W;have B:j<a.length/\j<m.aH.length:=by simp at M;omega
   have:=D j _ _ (qd B.1) (qd B.2);rw[List.getElem_zip];exact this
  ·rw[I,H,c];exact w.ca [0,3,4]
theorem oR(x:bn)(m:ar)(h:Heap)(d:eS h x m)(b:cn m):ac xa 47 #[cN x] h fun v h'=>∃y:bn,v=cN y/\Sp h h' [bt y m]:=by
 refine(tw x m h d b).mono ?_;rintro _ h' ⟨y,L,pool,rfl,a,e,c,H⟩;exact⟨y,rfl,aa.Ld a e c H⟩
end Go.Qw
namespace Go.Vc
open Go Wl
abbrev bi:=Int×Int×Int×Int×Int×Int×Int×Sl
abbrev bD(x:bi):aQ:=[vQ vW x.1,vQ vW x.2.1,vQ vW x.2.2.1,vQ vW x.2.2.2.1,vQ vW x.2.2.2.2.1,vQ vW x.2.2.2.2.2.1,vQ vY x.2.2.2.2.2.2.1,x.2.2.2.2.2.2.2]
abbrev recv(x:bi):Value:=vV #[vQ vW x.1,vQ vW x.2.1,vQ vW x.2.2.1,vQ vW x.2.2.2.1,vQ vW x.2.2.2.2.1,vQ vW x.2.2.2.2.2.1,vQ vY x.2.2.2.2.2.2.1,x.2.2.2.2.2.2.2]
theorem Wk:∀x,∀c∈bD x,c.oneCell'=true:=by intro x c a;simp[bD]at a;rcases a with rfl|rfl|rfl|rfl|rfl|rfl|rfl|rfl<;>rfl
def fF(x y:Int):Int:=if x<y then-1 else if x>y then 1 else 0
def jz(a b:bi):Int:=if fF a.1 b.1≠0 then fF a.1 b.1 else if fF a.2.1 b.2.1≠0 then fF a.2.1 b.2.1 else fF a.2.2.1 b.2.2.1
def bQ(a b:bi):Bool:=decide (jz a b<=0)
theorem gG(x y:Int):(x<y/\fF x y=-1)∨(x>y/\fF x y=1)∨(x=y/\fF x y=0):=by
 unfold fF;by_cases a:x<y
 ·exact .inl ⟨a,if_pos a⟩
 ·by_cases b:x>y
  ·exact .inr (.inl ⟨b,by rw[if_neg a,if_pos b]⟩)
  ·exact .inr (.inr ⟨by omega,by rw[if_neg a,if_neg b]⟩)
theorem tz(a b:bi):jz a b<=0↔a.1<b.1∨(a.1=b.1/\(a.2.1<b.2.1∨(a.2.1=b.2.1/\a.2.2.1<=b.2.2.1))):=by
 unfold jz;rcases gG a.1 b.1 with⟨h1,e1⟩|⟨h1,e1⟩|⟨h1,e1⟩
 ·rw[e1,if_pos (by decide)];omega
 ·rw[e1,if_pos (by decide)];omega
 ·rw[e1,if_neg (by decide)];rcases gG a.2.1 b.2.1 with⟨h2,e2⟩|⟨h2,e2⟩|⟨h2,e2⟩
  ·rw[e2,if_pos (by decide)];omega
  ·rw[e2,if_pos (by decide)];omega
  ·rw[e2,if_neg (by decide)];rcases gG a.2.2.1 b.2.2.1 with⟨h3,e3⟩|⟨h3,e3⟩|⟨h3,e3⟩<;>rw[e3]<;>omega
theorem nj(a b:bi):jz a b<0↔¬bQ b a=true:=by
 unfold bQ;rw[decide_eq_true_eq,tz];unfold jz;rcases gG a.1 b.1 with⟨h1,e1⟩|⟨h1,e1⟩|⟨h1,e1⟩
 ·rw[e1,if_pos (by decide)];omega
 ·rw[e1,if_pos (by decide)];omega
 ·rw[e1,if_neg (by decide)];rcases gG a.2.1 b.2.1 with⟨h2,e2⟩|⟨h2,e2⟩|⟨h2,e2⟩
  ·rw[e2,if_pos (by decide)];omega
  ·rw[e2,if_pos (by decide)];omega
  ·rw[e2,if_neg (by decide)];rcases gG a.2.2.1 b.2.2.1 with⟨h3,e3⟩|⟨h3,e3⟩|⟨h3,e3⟩<;>rw[e3]<;>omega
theorem Rx(a b:bi):jz a b=0↔(a.1=b.1/\a.2.1=b.2.1/\a.2.2.1=b.2.2.1):=by
 unfold jz;rcases gG a.1 b.1 with⟨h1,e1⟩|⟨h1,e1⟩|⟨h1,e1⟩
 ·rw[e1,if_pos (by decide)];omega
 ·rw[e1,if_pos (by decide)];omega
 ·rw[e1,if_neg (by decide)];rcases gG a.2.1 b.2.1 with⟨h2,e2⟩|⟨h2,e2⟩|⟨h2,e2⟩
  ·rw[e2,if_pos (by decide)];omega
  ·rw[e2,if_pos (by decide)];omega
  ·rw[e2,if_neg (by decide)];rcases gG a.2.2.1 b.2.2.1 with⟨h3,e3⟩|⟨h3,e3⟩|⟨h3,e3⟩<;>rw[e3]<;>omega
theorem cV:Ord bQ:=⟨fun a b c e d=>by
 unfold bQ at*;rw[decide_eq_true_eq,tz]at*;omega,fun a b=>by
 unfold bQ;rw[Bool.or_eq_true,decide_eq_true_eq,decide_eq_true_eq,tz,tz];omega⟩
theorem GV{α:Type}(A B C:List α)(x y:α){i j:Nat}(c:i=A.length)(b:j=A.length+1+B.length):
  (A++x::(B++y::C))[i]?=some x/\(A++x::(B++y::C))[j]?=some y/\((A++x::(B++y::C)).set i y).set j x=A++y::(B++x::C)/\((A++x::(B++y::C)).set j x).set i y=A++y::(B++x::C):=by
 subst c;subst b;have a:A.length+1+B.length-A.length=B.length+1:=by omega
 refine⟨by rw[qg (qp _),qZ];rfl,?_,?_,?_⟩
 ·rw[qg (by omega),a,qo,qg (qp _),qZ];rfl
 ·rw[q9 _ _ (qp _),qZ,zR,q9 _ _ (by omega),a,wF,q9 _ _ (qp _),qZ,zR]
 ·rw[q9 _ _ (show A.length<=A.length+1+B.length by omega),a,wF,q9 _ _ (qp _),qZ,zR,q9 _ _ (qp _),qZ,zR]
end Go.Vc
namespace Go.Qw
open Go Go.Vc Go.Proofs Wl
abbrev XD:bN C.tosH 172 119 8 [vQ vW 0,vQ vW 0,vQ vW 0,vQ vW 0,vQ vW 0,vQ vW 0,vQ vY 0,vR none 0 0] 80:=⟨_,_,rfl,rfl,rfl,rfl,rfl,rfl⟩
theorem lp(x y:Int)(h:Heap):ac xa 110 #[vQ vW x,vQ vW y] h fun v h'=>v=vQ vW (fF x y)/\h'=h:=by
 refine mT x y ?_;unfold kR;have a:∀z:Int,ac xa 140 #[vQ vW z] h fun v h'=>v=vU false/\h'=h:=fun z=>by
  refine oC z ?_;unfold mB;exact⟨by simp,rfl⟩
 refine(a x).mono ?_;rintro _ _ ⟨rfl,rfl⟩;refine⟨_,rfl,(a y).mono ?_⟩;rintro _ _ ⟨rfl,rfl⟩;refine⟨_,rfl,bq (fun e=>by cases e) fun _=>bq (fun e=>by cases e) fun _=>?_⟩;refine al (fun e=>⟨by rw[fF,if_pos e],rfl⟩) fun e=>al (fun e2=>⟨by rw[fF,if_neg e,if_pos e2],rfl⟩) fun e2=>⟨by rw[fF,if_neg e,if_neg e2],rfl⟩
theorem mE(a b:bi)(h:Heap):ac xa 165 #[recv a,recv b] h fun v h'=>v=vQ vW (jz a b)/\Sp h h' []:=by
 refine GL a b ?_;unfold AF;refine(Sp.refl h).boxed fun x I H=>H.boxed fun p f k=>?_;have k:Sp h f [ag x 119 (bD a),ag p 119 (bD b)]:=k;have q:=k.box 0 rfl;have t:=k.box 1 rfl;have A:cellOf f (x.add 1)=some (vQ vW a.2.1):=q.cell rfl;have z:cellOf f (p.add 1)=some (vQ vW b.2.1):=t.cell rfl;have c3:cellOf f (x.add 2)=some (vQ vW a.2.2.1):=q.cell rfl;have s:cellOf f (p.add 2)=some (vQ vW b.2.2.1):=t.cell rfl;refine⟨a.1,q.cell0 rfl,b.1,t.cell0 rfl,a.2.1,A,b.2.1,z,a.2.2.1,c3,b.2.2.1,s,(lp _ _ f).mono ?_⟩;rintro _ _ ⟨rfl,rfl⟩;refine⟨_,rfl,⟨s,c3,z,A,trivial⟩,(lp _ _ _).mono ?_⟩;rintro _ _ ⟨rfl,rfl⟩;refine⟨_,rfl,⟨s,c3,trivial⟩,(lp _ _ _).mono ?_⟩;rintro _ M ⟨rfl,rfl⟩;refine⟨_,rfl,trivial,?_⟩;refine k.sJ af aE ⟨_,_,rfl,rfl,rfl,rfl,rfl,rfl⟩ rfl [fF a.1 b.1,fF a.2.1 b.2.1,fF a.2.2.1 b.2.2.1] rfl (show 3*1<=2^20 by decide) rfl trivial ?_;refine k.lit af aE ⟨_,_,rfl,rfl,rfl,rfl,rfl,rfl⟩ rfl [fF a.1 b.1,fF a.2.1 b.2.1,fF a.2.2.1 b.2.2.1] rfl (show 3*1<=2^20 by decide) rfl fun c y w=>?_;refine(td c (R:=fun v h'=>v=vQ vW (jz a b)/\h'=y) ?_).mono ?_
 ·unfold pP;have B:=w.seq 2 rfl fun _=>rfl;have E:=(w.own 2 rfl).len;obtain⟨L,g⟩:∃L,L=[fF a.1 b.1,fF a.2.1 b.2.1,fF a.2.2.1 b.2.2.1]:=⟨_,rfl⟩
  rw[<-g]at B E;have F:L.length=3:=by rw[g];rfl
  refine az (fun i:Nat=>(i:Int)) (fun i h'=>i<=3/\(∀j,j<i->L[j]?=some 0)/\h'=y) (fun i=>3-i) 0 rfl ⟨by omega,by omega,rfl⟩ ?_;rintro i G ⟨K,n,rfl⟩;have d:0<i->fF a.1 b.1=0:=fun h0=>by have:=n 0 h0;rw[g]at this;simpa using this
  have l:1<i->fF a.2.1 b.2.1=0:=fun h0=>by have:=n 1 h0;rw[g]at this;simpa using this
  have u:2<i->fF a.2.2.1 b.2.2.1=0:=fun h0=>by have:=n 2 h0;rw[g]at this;simpa using this
  refine al (fun e=>?_) (fun e=>?_)
  ·have m:i<L.length:=by
    have D:(i:Int)<(c.len:Int):=e;omega
   refine B.cK i rfl m L[i] rfl ?_;refine ci (fun e2=>⟨?_,rfl⟩) (fun e2=>?_)
   ·congr 1;unfold jz;have:i=0∨i=1∨i=2:=by omega
    subst g;rcases this with rfl|rfl|rfl
    ·exact(if_pos (show fF a.1 b.1≠0 from e2)).symm
    ·rw[if_neg (by rw[d (by omega)];simp)];exact(if_pos (show fF a.2.1 b.2.1≠0 from e2)).symm
    ·rw[if_neg (by rw[d (by omega)];simp),if_neg (by rw[l (by omega)];simp)];rfl
   ·refine⟨i+1,by rw[an _];rfl,⟨by omega,fun j J=>?_,rfl⟩,by omega⟩;by_cases o:j=i
    ·subst o;rw[qd m,e2]
    ·exact n j (by omega)
  ·have r:i=3:=by
    have D:¬(i:Int)<(c.len:Int):=e;omega
   subst r;refine⟨?_,rfl⟩;unfold jz;rw[d (by omega),l (by omega),u (by omega)];rfl
 ·rintro _ G ⟨rfl,rfl⟩;exact⟨_,rfl,trivial,rfl,.zip w.ah⟩
abbrev ce(s:Sl)(d:List bi):HP:=aj 119 s 8 bD d
section
variable {B:ap} {h0 h h':Heap} {As:List HP} {s:Sl} {d:List bi}
theorem nk(X U M V Y:List bi)(n:Nat)(a b:Int)(P:U.length=n)(R:V.length=n)(L:a=(X.length:Int))(I:b=(X.length+n+M.length:Nat))(N:X.length+n+M.length+n+Y.length<=2^40)(H:aa B h0 h (ce s (X++(U++(M++(V++Y))))::As)):
  ac xa 253 #[s,vQ vW a,vQ vW b,vQ vW n,.func (.func 165) #[] #[]] h fun v h'=>v=.tuple #[]/\aa B h0 h' (ce s (X++(V++(M++(U++Y))))::As):=by
 refine jU s a b n (165,#[],#[]) ?_;unfold gb;subst L;subst I;refine az (fun k:Nat=>(k:Int)) (fun k h'=>k<=n/\aa B h0 h' (ce s (X++(V.take k++U.drop k++(M++(U.take k++V.drop k++Y))))::As)) (fun k=>n-k) 0 rfl ⟨by omega,by simpa using H⟩ ?_;rintro k S ⟨T,f⟩;refine al (fun e=>?_) (fun e=>?_)
 ·have F:k<n:=by omega
  have q:k<U.length:=by omega
  have p:k<V.length:=by omega
  have d:X++(V.take k++U.drop k++(M++(U.take k++V.drop k++Y)))=(X++V.take k)++U[k]::((U.drop (k+1)++(M++U.take k))++V[k]::(V.drop (k+1)++Y)):=by
   rw[qS q,qS p];simp only[qm,zk,zW]
  have c:X++(V.take (k+1)++U.drop (k+1)++(M++(U.take (k+1)++V.drop (k+1)++Y)))=(X++V.take k)++V[k]::((U.drop (k+1)++(M++U.take k))++U[k]::(V.drop (k+1)++Y)):=by
   rw[aK V k p,aK U k q];simp only[qm,zk,zW]
  rw[d]at f;obtain⟨y,x,z,K⟩:=GV (X++V.take k) (U.drop (k+1)++(M++U.take k)) (V.drop (k+1)++Y) U[k] V[k] (i:=X.length+k) (j:=X.length+n+M.length+k) (by simp;omega) (by simp;omega);obtain⟨D,E⟩:∃D,D=(X++V.take k)++U[k]::((U.drop (k+1)++(M++U.take k))++V[k]::(V.drop (k+1)++Y)):=⟨_,rfl⟩
  rw[<-E]at f y x z K;have u:=(qk.1 y)
  have t:=(qk.1 x)
  obtain⟨o,r⟩:=u;obtain⟨m,w⟩:=t;have G:qc vW ((X.length:Int)+k)=((X.length+k:Nat):Int):=by rw[an _];omega
  have O:qc vW (((X.length+n+M.length:Nat):Int)+k)=((X.length+n+M.length+k:Nat):Int):=by rw[an _];omega
  rw[G,O];refine(f.seq 0 rfl fun _=>rfl).dE (g:=bD) _ rfl m V[k] (by rw[w]) ?_;refine(f.seq 0 rfl fun _=>rfl).dE (g:=bD) _ rfl o U[k] (by rw[r]) ?_;refine f.set af 0 rfl (fun _=>rfl) rfl (X.length+k) rfl o V[k] rfl rfl rfl fun Q J=>⟨trivial,?_⟩
  refine J.set af 0 rfl (fun _=>rfl) rfl (X.length+n+M.length+k) rfl (by simpa using m) U[k] rfl rfl rfl fun h3 A=>⟨trivial,?_⟩
  refine⟨k+1,by rw[an _];rfl,⟨by omega,?_⟩,by omega⟩;rw[c,<-z];exact A
 ·have:k=n:=by omega
  subst this;rw[qi (l:=V) (by omega),zd (l:=U) (by omega),qi (l:=U) (by omega),zd (l:=V) (by omega)]at f;refine⟨rfl,?_⟩;simpa using f
theorem MO(X U V Y:List bi)(a m b:Int)(y:0<U.length)(E:0<V.length)(K:a=(X.length:Int))(x:m=(X.length+U.length:Nat))(J:b=(X.length+U.length+V.length:Nat))(z:X.length+U.length+V.length+Y.length<=2^40)(H:aa B h0 h (ce s (X++(U++(V++Y)))::As)):
  ac xa 249 #[s,vQ vW a,vQ vW m,vQ vW b,.func (.func 165) #[] #[]] h fun v h'=>v=.tuple #[]/\aa B h0 h' (ce s (X++(V++(U++Y)))::As):=by
 refine kE s a m b (165,#[],#[]) ?_;unfold gU;subst K;subst x;subst J;have F:qc vW (((X.length+U.length:Nat):Int)-X.length)=(U.length:Int):=by rw[an _];omega
 have e2:qc vW (((X.length+U.length+V.length:Nat):Int)-(X.length+U.length:Nat))=(V.length:Int):=by rw[an _];omega
 rw[F,e2];refine az (fun t:List bi×List bi×List bi×List bi=>((t.2.1.length:Int),(t.2.2.1.length:Int))) (fun t h'=>0<t.2.1.length/\0<t.2.2.1.length/\X.length+t.1.length+t.2.1.length=X.length+U.length/\V++U=t.1++((t.2.2.1++t.2.1)++t.2.2.2)/\aa B h0 h' (ce s (X++(t.1++(t.2.1++(t.2.2.1++(t.2.2.2++Y)))))::As)) (fun t=>t.2.1.length+t.2.2.1.length) ([],U,V,[]) rfl ⟨y,E,by simp,by simp,by simpa using H⟩ ?_;rintro⟨P,A,c,Q⟩ r ⟨N,M,x,o,u⟩;dsimp only at*;have n:=congrArg yw o;simp only[qw]at n;refine ci (fun e=>al (fun I=>?_) (fun I=>?_)) (fun e=>?_)
 ·--the left one is longer
  have p:c.length<A.length:=by omega
  have D:A=A.take c.length++A.drop c.length:=(qA _ _).symm;have g:(A.take c.length).length=c.length:=by simp;omega
  have k:qc vW (((X.length+U.length:Nat):Int)-A.length)=((X++P).length:Int):=by rw[an _];simp;omega
  rw[k];have d:aa B h0 r (ce s ((X++P)++(A.take c.length++(A.drop c.length++(c++(Q++Y)))))::As):=by
   have:(X++P)++(A.take c.length++(A.drop c.length++(c++(Q++Y))))=X++(P++(A++(c++(Q++Y)))):=by
    conv=>rhs;rw[D]
    simp only[qm,zk,zW]
   rw[this];exact u
  refine(nk (X++P) (A.take c.length) (A.drop c.length) c (Q++Y) c.length _ _ g rfl rfl (by simp;omega) (by simp;omega) d).mono ?_;rintro _ w ⟨rfl,l⟩;refine⟨(),rfl,(P++c,A.drop c.length,A.take c.length,Q),?_,⟨by dsimp only;simp;omega,by dsimp only;omega,by dsimp only;simp;omega,?_,?_⟩,by dsimp only;simp;omega⟩
  ·dsimp only;rw[g,an _];simp;omega
  ·dsimp only;rw[o,qA];simp
  ·dsimp only;have:X++((P++c)++(A.drop c.length++(A.take c.length++(Q++Y))))=(X++P)++(c++(A.drop c.length++(A.take c.length++(Q++Y)))):=by simp
   rw[this];exact l
 ·have p:A.length<c.length:=by omega
  obtain⟨j,O⟩:∃j,j=c.length-A.length:=⟨_,rfl⟩
  have G:c=c.take j++c.drop j:=(qA _ _).symm;have f:(c.drop j).length=A.length:=by simp;omega
  have i:(c.take j).length=j:=by simp;omega
  have k:qc vW (((X.length+U.length:Nat):Int)-A.length)=((X++P).length:Int):=by rw[an _];simp;omega
  have L:qc vW ((qc vW (((X.length+U.length:Nat):Int)+c.length))-A.length)=(((X++P).length+A.length+(c.take j).length:Nat):Int):=by
   rw[an (((X.length+U.length:Nat):Int)+c.length),an _,i];simp;omega
  rw[k,L];have d:aa B h0 r (ce s ((X++P)++(A++(c.take j++(c.drop j++(Q++Y)))))::As):=by
   have:(X++P)++(A++(c.take j++(c.drop j++(Q++Y))))=X++(P++(A++(c++(Q++Y)))):=by
    conv=>rhs;rw[G]
    simp only[qm,zk,zW]
   rw[this];exact u
  refine(nk (X++P) A (c.take j) (c.drop j) (Q++Y) A.length _ _ rfl f rfl rfl (by simp;omega) d).mono ?_;rintro _ w ⟨rfl,l⟩;refine⟨(),rfl,(P,c.drop j,c.take j,A++Q),?_,⟨by dsimp only;omega,by dsimp only;omega,by dsimp only;omega,?_,?_⟩,by dsimp only;omega⟩
  ·dsimp only;rw[i,f,an _];congr 1;omega
  ·dsimp only;rw[o,qA];simp
  ·dsimp only;have:X++(P++(c.drop j++(c.take j++((A++Q)++Y))))=(X++P)++(c.drop j++(c.take j++(A++(Q++Y)))):=by simp
   rw[this];exact l
 ·have q:A.length=c.length:=by omega
  have k:qc vW (((X.length+U.length:Nat):Int)-A.length)=((X++P).length:Int):=by rw[an _];simp;omega
  rw[k];have d:aa B h0 r (ce s ((X++P)++(A++([]++(c++(Q++Y)))))::As):=by
   have:(X++P)++(A++([]++(c++(Q++Y))))=X++(P++(A++(c++(Q++Y)))):=by simp
   rw[this];exact u
  refine(nk (X++P) A [] c (Q++Y) A.length _ _ rfl q.symm rfl (by simp;omega) (by simp;omega) d).mono ?_;rintro _ w ⟨rfl,l⟩;refine⟨(),rfl,rfl,?_⟩;have:X++(V++(U++Y))=(X++P)++(c++([]++(A++(Q++Y)))):=by
   have:V++(U++Y)=(V++U)++Y:=by simp
   rw[this,o];simp
  rw[this];exact l
end
end Go.Qw
namespace Wl
open Go
theorem Pf(l:aL)(x:UInt8):cy (l++[x])=cy l*256+x.toNat:=by unfold cy;rw[List.foldl_append];rfl
theorem uQ:∀l:aL,l.length<=4->0<=cy l/\cy l<4294967296/\(l.length<=3->cy l<16777216)
 |[],_=>by simp[cy]
 |[a],_=>by have:=a.toNat_lt;simp only[cy,zA,wD];omega
 |[a,b],_=>by have:=a.toNat_lt;have:=b.toNat_lt;simp only[cy,zA,wD];omega
 |[a,b,c],_=>by have:=a.toNat_lt;have:=b.toNat_lt;have:=c.toNat_lt;simp only[cy,zA,wD];omega
 |[a,b,c,d],_=>by have:=a.toNat_lt;have:=b.toNat_lt;have:=c.toNat_lt;have:=d.toNat_lt;simp only[cy,zA,wD,zi,yE];omega
 |_::_::_::_::_::_,h=>by simp at h
theorem Le(n x:Nat)(f:n<2^32)(e:x<256):qc vW (((qy (qj vW) (qc vW ((n:Int)*2^min (8:Int).toNat (qj vW)))|||qy (qj vW) (qc vW (x:Int))).toNat:Nat):Int)=(n:Int)*256+x:=by
 have c:min (8:Int).toNat (qj vW)=8:=rfl;rw[c];have a:qc vW ((n:Int)*2^8)=((n*256:Nat):Int):=by rw[Go.Vc.an _];omega
 have e2:qc vW (x:Int)=((x:Nat):Int):=Go.Vc.an _;rw[a,e2];have d:(qy (qj vW) ((n*256:Nat):Int)|||qy (qj vW) ((x:Nat):Int)).toNat=n*256+x:=by
  show((qy 64 ((n*256:Nat):Int)|||qy 64 ((x:Nat):Int):BitVec 64)).toNat=n*256+x;rw[BitVec.toNat_or,wH,wH,BitVec.toNat_ofNat,BitVec.toNat_ofNat,yP (by omega),yP (by omega)];have:=Nat.shiftLeft_add_eq_or_of_lt (b:=x) (i:=8) (by omega) n;rw[Nat.shiftLeft_eq,show(2:Nat)^8=256 from rfl]at this;omega
 rw[d,Go.Vc.an _];omega
end Wl
namespace Go.Vc
open Go Wl
def ey:jf bi di:=⟨fun h q a b=>(a.1=b.object/\a.2.1=b.block/\a.2.2.1=b.id/\(a.2.2.2.1,a.2.2.2.2.1,a.2.2.2.2.2.1)=b.p/\a.2.2.2.2.2.2.1=b.seed/\0<=b.seed/\b.seed<4294967296)/\Seq h q a.2.2.2.2.2.2.2 1 aw b.data,fun a d=>⟨a.1,a.2.ah d⟩,fun a c=>⟨a.1,a.2.mono c⟩⟩
end Go.Vc
namespace Go.Qw
open Go Go.Vc Go.Proofs Wl
theorem jb{p q:ap}(a b:Sl)(d c:aL)(h:Heap)(e:Seq h p a 1 aw d)(f:Seq h q b 1 aw c):
  ac xa 43 #[a,b] h fun v h'=>v=vU (decide (d=c))/\h'=h:=by
 refine EL a b ?_;unfold xb;refine BN af ⟨_,rfl,rfl⟩ ⟨_,rfl,rfl⟩ ⟨_,rfl,rfl⟩ e (BN af ⟨_,rfl,rfl⟩ ⟨_,rfl,rfl⟩ ⟨_,rfl,rfl⟩ f ⟨?_,rfl⟩);rw[ByteArray.toList_mk,ByteArray.toList_mk];have:(d==c)=decide (d=c):=by rw[Bool.eq_iff_iff];simp
 rw[this]
theorem Fx(b:Sl)(c:aL)(h:Heap)(i:Rd h b 1 aw c)(z:c.length<=2^30)(d:b.len<=b.cap):
  ac xa 204 #[b] h fun v h'=>(gD c=none->v=.tuple #[vQ vW 0,vR none 0 0,vU false]/\Sp h h' [])/\
   ∀k x,gD c=some (k,x)->∃r:Sl,v=.tuple #[vQ vW k,r,vU true]/\Sp h h' [aj 5 r 1 aw x]:=by
 refine IZ b ?_;unfold CM;have w:=i.len;refine ci (fun e=>?_) (fun e=>?_)
 ·have:gD c=none:=by unfold gD;rw[if_neg (fun a=>e (by omega))]
  rw[this];exact⟨fun _=>⟨rfl,Sp.refl h⟩,fun k x h=>(by cases h)⟩
 have j:c.length=64:=by omega
 have h3:3<c.length:=by omega
 refine i.kA 3 rfl h3 ((c.getD 3 0).toNat:Int) (by rw[getD_lt h3];rfl) fun A l=>⟨⟨by decide,by decide,by omega⟩,?_⟩
 have f:=(i.drop 4 d).take 55 (by simp;omega);have q:((c.drop 4).take 55).length=55:=by simp;omega
 refine(jQ ⟨_,55,b.cap-4⟩ ((c.drop 4).take 55) h f).mono ?_;rintro _ u ⟨r,rfl,m⟩;refine⟨r,rfl,yx m.ah ⟨l,trivial⟩,?_⟩;have y:=(c.getD 3 0).toNat_lt;rw[an ((c.getD 3 0).toNat:Int)];refine(AS ((c.getD 3 0).toNat:Int) r ((c.drop 4).take 55) u (m.seq 0 rfl fun _=>rfl)).mono ?_;rintro _ t ⟨p,rfl,s⟩;have g:=m.comp s;refine⟨p,rfl,(jb b p c _ t (i.up g.ah) (g.seq 1 rfl fun _=>rfl)).mono ?_⟩;rintro _ h3 ⟨rfl,rfl⟩;refine⟨_,rfl,aW (fun e2=>?_) (fun e2=>?_)⟩
 ·have n:c≠dt ((c.getD 3 0).toNat:Int) ((c.drop 4).take 55):=of_decide_eq_false e2;have:gD c=none:=by unfold gD;rw[if_neg (fun a=>n a.2.symm)]
  rw[this];exact⟨fun _=>⟨rfl,.zip g.ah⟩,fun k x h=>(by cases h)⟩
 ·have o:c=dt ((c.getD 3 0).toNat:Int) ((c.drop 4).take 55):=of_decide_eq_true e2;have:gD c=some (((c.getD 3 0).toNat:Int),(c.drop 4).take 55):=by unfold gD;rw[if_pos ⟨j,o.symm⟩]
  rw[this];refine⟨fun h=>(by cases h),fun k x a=>?_⟩;injection a with a
  injection a with hh1 hh2
  subst hh1;subst hh2;exact⟨r,rfl,g.ca [0]⟩
theorem Ib(b:Sl)(l:aL)(h:Heap)(d:Rd h b 1 aw l)(m:l.length<=4):ac xa 212 #[b] h fun v h'=>v=vQ vW (cy l)/\h'=h:=by
 refine Fq b ?_;unfold xv;have g:=d.len;refine az (fun i:Nat=>(cy (l.take i),(i:Int))) (fun i h'=>i<=l.length/\h'=h) (fun i=>l.length-i) 0 rfl ⟨by omega,rfl⟩ ?_;rintro i o ⟨p,rfl⟩;dsimp only;refine al (fun e=>?_) (fun e=>?_)
 ·have a:i<l.length:=by omega
  refine d.cK i rfl a (l[i].toNat:Int) rfl ⟨by decide,?_⟩;have c:=(uQ (l.take i) (by simp;omega))
  have f:=c.2.2 (by simp;omega);have k:=l[i].toNat_lt;obtain⟨n,j⟩:∃n:Nat,cy (l.take i)=(n:Int):=⟨(cy (l.take i)).toNat,by omega⟩
  refine⟨i+1,?_,⟨by omega,rfl⟩,by omega⟩;rw[aK _ _ a,Pf,j,Le n _ (by omega) (by omega),an ((i:Int)+1)];rfl
 ·rw[qi (by omega)];exact⟨rfl,rfl⟩
theorem CN(x:bi)(r:di)(h:Heap)(z:nN ey h x r):ac xa 112 #[recv x] h fun v h'=>v=vU (hF r)/\Sp h h' []:=by
 refine GI x ?_;unfold AB;obtain⟨⟨B,e2,F,q,J,_⟩,D⟩:=z;have o:x.2.2.2.1=r.p.1:=congrArg (·.1) q;have s:x.2.2.2.2.1=r.p.2.1:=congrArg (·.2.1) q;have i:x.2.2.2.2.2.1=r.p.2.2:=congrArg (·.2.2) q;have e:=Seq.len D;refine(Sp.refl h).boxed fun a f j=>?_;have j:Sp h f [ag a 119 (bD x)]:=j;have k:=j.box 0 rfl;have y:cellOf f a=some (vQ vW r.object):=by rw[<-B];exact k.cell0 rfl
 have w:cellOf f (a.add 1)=some (vQ vW r.block):=by rw[<-e2];exact k.cell rfl
 have u:cellOf f (a.add 2)=some (vQ vW r.id):=by rw[<-F];exact k.cell rfl
 have t:∀{h':Heap},Sp h h' [ag a 119 (bD x)]->(hF r=true->False)->Value.bool false=vU (hF r)/\Sp h h' []:=fun{h'} H' hn=>⟨by cases hq:hF r with|false=>rfl|true=>exact absurd hq hn,.zip H'.ah⟩
 refine cv (fun b h'=>b=decide ((0<=r.object/\r.object<=16777215)/\(0<=r.block/\r.block<=7)/\(0<=r.id/\r.id<=65535))/\h'=f) ?_ ?_
 ·refine⟨_,y,al (fun A=>⟨_,y,al (fun d=>⟨_,w,al (fun I=>⟨_,w,al (fun E=>⟨_,u,al (fun G=>⟨_,u,?_,rfl⟩) fun G=>⟨?_,rfl⟩⟩) fun E=>⟨?_,rfl⟩⟩) fun I=>⟨?_,rfl⟩⟩) fun d=>⟨?_,rfl⟩⟩) fun A=>⟨?_,rfl⟩⟩
  ·rw[decide_eq_decide];omega
  all_goals (symm;rw[decide_eq_false_iff_not];omega)
 ·rintro _ _ ⟨rfl,rfl⟩;refine al (fun g=>?_) fun g=>t j fun m=>g (by have:=(jr r).1 m;omega);refine⟨r.p,by rw[<-o,<-s,<-i];exact k.rO 3 rfl rfl rfl,(dR r.p _).mono ?_⟩;rintro _ h3 ⟨rfl,H⟩;have n:Sp h h3 [ag a 119 (bD x)]:=j.up H.ah;have c:=n.box 0 rfl;refine⟨_,rfl,bq (fun d=>?_) fun d=>t n fun m=>by have:=((jr r).1 m).2.2.2.1;rw[d]at this;cases this⟩;refine⟨x.2.2.2.2.2.2.2,c.cell rfl,r.p.2.2,by rw[<-i];exact c.rN 3 2 rfl,?_,.zip n.ah⟩;congr 1;by_cases l:(r.data.length:Int)=r.p.2.2
  ·have:hF r=true:=(jr r).2 ⟨by omega,by omega,by omega,d,l⟩;rw[this,e];simpa using l
  ·have:hF r=false:=by
    cases hq:hF r with
    |false=>rfl
    |true=>exact absurd ((jr r).1 hq).2.2.2.2 l
   rw[this,e];simpa using l
section
variable {B:ap} {h0 h h':Heap} {As:List HP}
theorem kH(s:Sl)(l:aL)(n:Int)(k:Nat)(q:k<=4)(j:l.length<=2^30)(H:aa B h0 h (aj 5 s 1 aw l::As)):
  ac xa 113 #[s,vQ vW n,vQ vW k] h fun v h'=>∃r:Sl,v=r/\aa B h0 h' (aj 5 r 1 aw (l++bg n k)::As):=by
 refine Cd s n k ?_;unfold rI;rw[an ((k:Int)-1)];refine az (fun t:Sl×Nat=>(t.1,(k:Int)-1-t.2)) (fun t h'=>t.2<=k/\aa B h0 h' (aj 5 t.1 1 aw (l++(bg n k).take t.2)::As)) (fun t=>k-t.2) (s,0) (by simp) ⟨by simp,by simpa using H⟩ ?_;rintro⟨r,t⟩ p ⟨o,b⟩;dsimp only at*;refine al (fun e=>?_) (fun e=>?_)
 ·have a:t<k:=by omega
  have c:qc vW ((8:Int)*((k:Int)-1-t))=((8*(k-1-t):Nat):Int):=by
   rw[an _];omega
  rw[c,qq];have e2:min (8*(k-1-t)) (qj vW)=8*(k-1-t):=by
   have:qj vW=64:=rfl;omega
  rw[e2,df];refine⟨by omega,?_⟩;refine b.push af 0 rfl iA rfl (by decide) (fun _=>rfl) fX (b8 (qL n (2^(8*(k-1-t))))) rfl (by decide) (by simp[bM];omega) fun f m i=>?_;refine⟨(f,t+1),?_,⟨by dsimp only;omega,?_⟩,by dsimp only;omega⟩
  ·dsimp only;have g:qc vW ((k:Int)-1-t-1)=(k:Int)-1-((t+1:Nat):Int):=by
    rw[an _];omega
   rw[g]
  ·dsimp only;have d:(bg n k).take t++[b8 (qL n (2^(8*(k-1-t))))]=(bg n k).take (t+1):=by
    rw[aK _ _ (by rw[bM];exact a)];congr 2;simp[bg]
   rw[<-d,<-qm];exact i
 ·have:t=k:=by omega
  subst this;rw[qi (by rw[bM];omega)]at b;exact⟨r,rfl,b⟩
end
theorem sA(x:bi)(r:di)(h:Heap)(B:nN ey h x r):ac xa 68 #[recv x] h fun v h'=>∃s:Sl,v=s/\Sp h h' [aj 5 s 1 aw (dp r)]:=by
 refine GD x ?_;unfold Av;obtain⟨⟨P,e2,T,l,X,e7,e8⟩,Q⟩:=id B;have k:x.2.2.2.1=r.p.1:=congrArg (·.1) l;have t:x.2.2.2.2.1=r.p.2.1:=congrArg (·.2.1) l;have q:x.2.2.2.2.2.1=r.p.2.2:=congrArg (·.2.2) l;refine(Sp.refl h).boxed fun f I b=>?_;have b:Sp h I [ag f 119 (bD x)]:=b;refine⟨x,(b.box 0 rfl).aF _ rfl,(CN x r I (ey.mono (ey.loc B b.ah) fun _ V=>qQ V b.ah.1)).mono ?_⟩;rintro _ L ⟨rfl,O⟩;have u:Sp h L [ag f 119 (bD x)]:=b.up O.ah;refine⟨_,rfl,aW (fun g=>?_) (fun g=>?_)⟩
 ·unfold dp;rw[g];exact⟨⟨none,0,0⟩,rfl,(u.nil 5 1 aw).ca [1]⟩
 have S:=lM g;have o:=u.box 0 rfl;refine⟨r.object,by rw[<-P];exact o.cell0 rfl,(kH ⟨none,0,0⟩ [] r.object 3 (by decide) (by simp) (u.nil 5 1 aw).cl).mono ?_⟩;rintro _ h3 ⟨K,rfl,F⟩;have j:=F.box 1 rfl;refine⟨K,rfl,r.block,by rw[<-e2];exact j.cell rfl,(kH K _ r.block 1 (by decide) (by simp[bM]) F).mono ?_⟩;rintro _ h4 ⟨D,rfl,G⟩;have w:=G.box 1 rfl;refine⟨D,rfl,r.id,by rw[<-T];exact w.cell rfl,(kH D _ r.id 2 (by decide) (by simp[bM]) G).mono ?_⟩;rintro _ h5 ⟨R,rfl,z⟩;have a:=z.box 1 rfl;refine⟨R,rfl,r.p.1,by rw[<-k];exact a.cell rfl,r.p.2.1,by rw[<-t];exact a.rN 3 1 rfl,r.p.2.2,by rw[<-q];exact a.rN 3 2 rfl,?_⟩;rw[df,df,df];refine z.lit af aw iA rfl [b8 r.p.1,b8 r.p.2.1,b8 r.p.2.2] rfl (show 3*1<=2^20 by decide) rfl fun Y Z J=>?_;refine J.append af 0 rfl iA ⟨_,_,rfl,rfl⟩ rfl (by decide) (fun _=>rfl) (J.seq 2 rfl fun _=>rfl) fX (by simp[bM]) fun E W d=>?_;have d:Sp h W [aj 5 E 1 aw ([]++bg r.object 3++bg r.block 1++bg r.id 2++[b8 r.p.1,b8 r.p.2.1,b8 r.p.2.2]),ag f 119 (bD x)]:=d.ca [0,1];have y:=d.box 1 rfl;refine⟨r.seed,by rw[<-X];exact y.cell rfl,?_⟩;rw[an r.seed];refine(kH E _ r.seed 4 (by decide) (by simp[bM]) d).mono ?_;rintro _ h8 ⟨N,rfl,i⟩;have n:=i.box 1 rfl;refine⟨N,rfl,x.2.2.2.2.2.2.2,n.cell rfl,?_⟩;refine i.append af 0 rfl iA ⟨_,_,rfl,rfl⟩ rfl (by decide) (fun _=>rfl) (Seq.up Q i.ah) fX (by simp[bM];omega) fun H A e=>?_;have M:[]++bg r.object 3++bg r.block 1++bg r.id 2++[b8 r.p.1,b8 r.p.2.1,b8 r.p.2.2]++bg r.seed 4++r.data=gf r:=by unfold gf;simp[qm]
 have e:Sp h A [aj 5 H 1 aw (gf r),ag f 119 (bD x)]:=by rw[<-M];exact e
 refine(AS 1 H (gf r) A (e.seq 0 rfl fun _=>rfl)).mono ?_;rintro _ U ⟨c,rfl,m⟩;refine⟨c,rfl,c,rfl,?_⟩;unfold dp;rw[g,if_pos rfl];exact(e.comp m).ca [2]
theorem Lf(b:Sl)(c:aL)(h:Heap)(hb:Rd h b 1 aw c)(hc:c.length<=2^30)(S:b.len<=b.cap):
  ac xa 162 #[b] h fun v h'=>∃x:bi,v=.tuple #[recv x,vU (dJ c).isSome]/\(dJ c=none->Sp h h' [])/\∀r,dJ c=some r->Sp h h' [EA ey x r]:=by
 refine Fk b ?_;unfold xr;refine(Sp.refl h).alloc af rfl fun f h1 T=>?_;have T:Sp h h1 [ag f 119 (bD (0,0,0,0,0,0,0,⟨none,0,0⟩))]:=T;have z:∀{h':Heap} {Bs:List HP},Sp h h' (ag f 119 (bD (0,0,0,0,0,0,0,⟨none,0,0⟩))::Bs)->dJ c=none->
   ab xa (qe 119 (vS (some f)) (recv (0,0,0,0,0,0,0,⟨none,0,0⟩))) h' fun _ F=>∃V:bi,ai F f 0 (bD V)/\∃x:bi,Value.tuple #[recv V,vU false]=.tuple #[recv x,vU (dJ c).isSome]/\(dJ c=none->Sp h F [])/\∀r,dJ c=some r->Sp h F [EA ey x r]:=fun{h' Bs} H' E=>by
  refine H'.storeAll af 0 rfl rfl (bD (0,0,0,0,0,0,0,⟨none,0,0⟩)) rfl rfl rfl rfl fun F H4=>?_;exact⟨(0,0,0,0,0,0,0,⟨none,0,0⟩),(H4.box 0 rfl).aF _ rfl,(0,0,0,0,0,0,0,⟨none,0,0⟩),by rw[E];rfl,fun _=>.zip H4.ah,fun r O=>by rw[E]at O;cases O⟩
 refine(Fx b c h1 (hb.up T.ah) hc S).mono ?_;rintro _ h2 ⟨Q0,Q1⟩;cases htc:gD c with
 |none=>
  obtain⟨rfl,R2⟩:=Q0 htc;have E:dJ c=none:=by unfold dJ;rw[htc]
  exact⟨(0,⟨none,0,0⟩,false),rfl,aU (aW (fun _=>z (T.up R2.ah) E) fun e=>by cases e)⟩
 |some kx=>
  obtain⟨k,x⟩:=kx;obtain⟨r,rfl,R2⟩:=Q1 k x htc;have t:Sp h h2 [ag f 119 (bD (0,0,0,0,0,0,0,⟨none,0,0⟩)),aj 5 r 1 aw x]:=T.comp R2;have a7:x.length=55:=by
   unfold gD at htc;split at htc
   ·rename_i m;injection htc with htc
    injection htc with _ htc
    rw[<-htc];simp;omega
   ·cases htc
  have br:=(t.own 1 rfl).len;have P:=(t.own 1 rfl).cap;refine⟨(k,r,true),rfl,aU (aW (fun e=>by cases e) fun _=>ci (fun e=>z t ?_) fun M=>?_)⟩
  ·unfold dJ;rw[htc];exact if_neg fun m=>e m.1
  dsimp only;have M:k=1:=M;obtain⟨R,s⟩:∃R,R=oH x:=⟨_,rfl⟩
  have L:dJ c=if bV R.p=true/\dp R=c then some R else none:=by
   unfold dJ;rw[htc];dsimp only;rw[<-s];by_cases m:bV R.p=true/\dp R=c
   ·rw[if_pos m];exact if_pos ⟨M,m⟩
   ·rw[if_neg m];exact if_neg fun h=>m h.2
  have tA:∀{h':Heap},Rd h' r 1 aw x->ac xa 212 #[vR r.ptr 3 r.cap] h' fun v J=>v=vQ vW R.object/\J=h':=fun{h'} O=>by
   rw[s];exact Ib ⟨r.ptr,3,r.cap⟩ (x.take 3) h' (O.take 3 (by omega)) (by simp;omega)
  have N:∀{h':Heap} (j n:Nat),j+n<=55->n<=4->Rd h' r 1 aw x->ac xa 212 #[.slice (if r.cap=j then r.ptr else r.ptr.map (·.add (j*1))) n (r.cap-j)] h' fun v J=>v=vQ vW (cy ((x.drop j).take n))/\J=h':=fun{h'} j n hjn E O=>
   Ib ⟨if r.cap=j then r.ptr else r.ptr.map (·.add (j*1)),n,r.cap-j⟩ ((x.drop j).take n) h' ((O.drop j P).take n (by rw[qV];omega)) (by simp;omega)
  have rd:∀{h':Heap} {A:HP} {Bs:List HP},Sp h h' (A::aj 5 r 1 aw x::Bs)->Rd h' r 1 aw x:=fun{h' A Bs} H'=>H'.seq 1 rfl fun _=>rfl;have Ek:∀{h':Heap} {A A2:HP} {Bs:List HP},Sp h h' (A::A2::aj 5 r 1 aw x::Bs)->Rd h' r 1 aw x:=fun{h' A A2 Bs} H'=>H'.seq 2 rfl fun _=>rfl;refine cv (fun(a:Addr) h'=>Sp h h' [ag a 119 (bD (R.object,R.block,R.id,0,0,0,0,⟨none,0,0⟩)),ag f 119 (bD (0,0,0,0,0,0,0,⟨none,0,0⟩)),aj 5 r 1 aw x]) ?_ ?_
  ·have eb:cy ((x.drop 3).take 1)=R.block:=by rw[s];rfl
   have ei:cy ((x.drop 4).take 2)=R.id:=by rw[s];rfl
   have fin:∀{h':Heap} {a:Addr},Sp h h' [ag f 119 (bD (0,0,0,0,0,0,0,⟨none,0,0⟩)),aj 5 r 1 aw x,ag a 119 (bD (0,0,0,0,0,0,0,⟨none,0,0⟩))]->
     ab xa (qe 119 (vS (some a)) (recv (R.object,R.block,R.id,0,0,0,0,⟨none,0,0⟩))) h' fun _ F=>aB.ok [] F/\Sp h F [ag a 119 (bD (R.object,R.block,R.id,0,0,0,0,⟨none,0,0⟩)),ag f 119 (bD (0,0,0,0,0,0,0,⟨none,0,0⟩)),aj 5 r 1 aw x]:=fun{h' a} H'=>
    H'.storeAll af 2 rfl rfl (bD (R.object,R.block,R.id,0,0,0,0,⟨none,0,0⟩)) rfl rfl rfl rfl fun F H4=>⟨trivial,H4.ca [2,0,1]⟩
   have A_:∀{h':Heap} {Bs:List HP} {K:Int->Heap->Prop},Sp h h' (ag f 119 (bD (0,0,0,0,0,0,0,⟨none,0,0⟩))::aj 5 r 1 aw x::Bs)->K R.object h'->ae xa 212 #[vR r.ptr 3 r.cap] (.one (.sc (.int .i64))) h' K:=fun{h' Bs K} H' hK=>by
    refine(tA (rd H')).mono ?_;rintro _ _ ⟨rfl,rfl⟩;exact⟨_,rfl,hK⟩
   have B_:∀{h':Heap} {Bs:List HP} {K:Int->Heap->Prop},Sp h h' (ag f 119 (bD (0,0,0,0,0,0,0,⟨none,0,0⟩))::aj 5 r 1 aw x::Bs)->K R.block h'->ae xa 212 #[.slice (if r.cap=3 then r.ptr else r.ptr.map (·.add (3*1))) 1 (r.cap-3)] (.one (.sc (.int .i64))) h' K:=fun{h' Bs K} H' hK=>by
    refine(N 3 1 (by decide) (by decide) (rd H')).mono ?_;rintro _ _ ⟨rfl,rfl⟩;exact⟨_,rfl,by rw[eb];exact hK⟩
   have C_:∀{h':Heap} {Bs:List HP} {K:Int->Heap->Prop},Sp h h' (ag f 119 (bD (0,0,0,0,0,0,0,⟨none,0,0⟩))::aj 5 r 1 aw x::Bs)->K R.id h'->ae xa 212 #[.slice (if r.cap=4 then r.ptr else r.ptr.map (·.add (4*1))) 2 (r.cap-4)] (.one (.sc (.int .i64))) h' K:=fun{h' Bs K} H' hK=>by
    refine(N 4 2 (by decide) (by decide) (rd H')).mono ?_;rintro _ _ ⟨rfl,rfl⟩;exact⟨_,rfl,by rw[ei];exact hK⟩
   refine⟨⟨by decide,by omega⟩,⟨by decide,by decide,by omega⟩,⟨by decide,by decide,by omega⟩,A_ t ⟨trivial,B_ t ⟨trivial,C_ t ⟨trivial,?_⟩,?_⟩,?_⟩,?_⟩
   ·refine t.alloc af rfl fun a9 h9 i=>⟨trivial,?_⟩
    exact fin i
   ·refine t.alloc af rfl fun a9 h9 i=>⟨trivial,?_⟩
    exact C_ i ⟨trivial,fin i⟩
   ·refine t.alloc af rfl fun a9 h9 i=>⟨trivial,?_⟩
    exact B_ i ⟨trivial,C_ i ⟨trivial,fin i⟩⟩
   ·refine t.alloc af rfl fun a9 h9 i=>⟨trivial,?_⟩
    exact A_ i ⟨trivial,B_ i ⟨trivial,C_ i ⟨trivial,fin i⟩⟩⟩
  ·rintro a9 h5 H5;have I:0<=R.seed/\R.seed<4294967296:=by
    have:=uQ ((x.drop 9).take 4) (by simp;omega);rw[s];exact⟨this.1,this.2.1⟩
   have e6:cy ((x.drop 6).take 1)=R.p.1:=by rw[s];rfl
   have e7:cy ((x.drop 7).take 1)=R.p.2.1:=by rw[s];rfl
   have e8:cy ((x.drop 8).take 1)=R.p.2.2:=by rw[s];rfl
   have e9:cy ((x.drop 9).take 4)=R.seed:=by rw[s];rfl
   refine aU ⟨⟨by decide,by decide,by omega⟩,⟨by decide,by decide,by omega⟩,⟨by decide,by decide,by omega⟩,(N 6 1 (by decide) (by decide) (Ek H5)).mono ?_⟩;rintro _ _ ⟨rfl,rfl⟩;refine⟨_,rfl,trivial,(N 7 1 (by decide) (by decide) (Ek H5)).mono ?_⟩;rintro _ _ ⟨rfl,rfl⟩;refine⟨_,rfl,trivial,(N 8 1 (by decide) (by decide) (Ek H5)).mono ?_⟩;rintro _ bk ⟨rfl,rfl⟩;refine⟨_,rfl,trivial,?_⟩;dsimp only;rw[e6,e7,e8];refine H5.store af 0 rfl rfl 3 [vQ vW R.p.1,vQ vW R.p.2.1,vQ vW R.p.2.2] rfl rfl rfl (by simp) fun a3 y=>⟨trivial,?_⟩
   have y:Sp h a3 [ag a9 119 (bD (R.object,R.block,R.id,R.p.1,R.p.2.1,R.p.2.2,0,⟨none,0,0⟩)),ag f 119 (bD (0,0,0,0,0,0,0,⟨none,0,0⟩)),aj 5 r 1 aw x]:=y;refine⟨⟨by decide,by decide,by omega⟩,(N 9 4 (by decide) (by decide) (Ek y)).mono ?_⟩;rintro _ bb ⟨rfl,rfl⟩;refine⟨_,rfl,?_⟩;dsimp only;have ew:qc vY (cy ((x.drop 9).take 4))=R.seed:=by
    rw[e9];unfold qc;simp[qj,yp];omega
   rw[ew];refine y.store af 0 rfl rfl 6 [vQ vY R.seed] rfl rfl rfl (by simp) fun ad w=>?_;have w:Sp h ad [ag a9 119 (bD (R.object,R.block,R.id,R.p.1,R.p.2.1,R.p.2.2,R.seed,⟨none,0,0⟩)),ag f 119 (bD (0,0,0,0,0,0,0,⟨none,0,0⟩)),aj 5 r 1 aw x]:=w;refine⟨R.p,(w.box 0 rfl).rO 3 rfl rfl rfl,(dR R.p ad).mono ?_⟩;rintro _ Y ⟨rfl,a2⟩;have D:Sp h Y [ag a9 119 (bD (R.object,R.block,R.id,R.p.1,R.p.2.1,R.p.2.2,R.seed,⟨none,0,0⟩)),ag f 119 (bD (0,0,0,0,0,0,0,⟨none,0,0⟩)),aj 5 r 1 aw x]:=w.up a2.ah;refine⟨_,rfl,aW (fun g=>z (D.bj 2 [1,0]) (by rw[L,if_neg (fun m=>by rw[g]at m;cases m.1)])) fun g=>?_⟩;have bd:=(cb R.p).1 g;refine⟨R.p.2.2,(D.box 0 rfl).rN 3 2 rfl,?_⟩;rw[an ((13:Int)+R.p.2.2)];refine⟨⟨by decide,by omega,by omega⟩,?_⟩;have a4:((13:Int)+R.p.2.2).toNat-(13:Int).toNat=R.p.2.2.toNat:=by omega
   rw[a4];have H:(x.drop 13).take R.p.2.2.toNat=R.data:=by rw[s];rfl
   have G:=((Ek D).drop 13 P).take R.p.2.2.toNat (by rw[qV];omega);rw[H]at G;have bl:R.data.length=R.p.2.2.toNat:=by rw[<-H];simp;omega
   refine(jQ ⟨if r.cap=13 then r.ptr else r.ptr.map (·.add (13*1)),R.p.2.2.toNat,r.cap-13⟩ R.data Y G).mono ?_;rintro _ a8 ⟨u,rfl,a5⟩;have ax:=D.comp a5;refine⟨u,rfl,?_⟩;refine ax.store af 0 rfl rfl 7 [u] rfl rfl rfl (by simp) fun W l=>?_;have l:Sp h W [ag a9 119 (bD (R.object,R.block,R.id,R.p.1,R.p.2.1,R.p.2.2,R.seed,u)),ag f 119 (bD (0,0,0,0,0,0,0,⟨none,0,0⟩)),aj 5 r 1 aw x,aj 5 u 1 aw R.data]:=l;obtain⟨X,hX⟩:∃X:bi,X=(R.object,R.block,R.id,R.p.1,R.p.2.1,R.p.2.2,R.seed,u):=⟨_,rfl⟩
   rw[<-hX]at l;have U:∀{h':Heap} {q:ap},Seq h' q u 1 aw R.data->ey.p h' q X R:=fun{h' q} hs=>by rw[hX];exact⟨⟨rfl,rfl,rfl,rfl,rfl,I⟩,hs⟩
   refine⟨X,(l.box 0 rfl).aF _ rfl,(sA X R W (U (l.seq 3 rfl fun _=>rfl))).mono ?_⟩;rintro _ a6 ⟨s5,rfl,a0⟩;have o:=l.comp a0;refine⟨s5,rfl,(jb b s5 c (dp R) a6 (hb.up o.ah) (o.seq 4 rfl fun _=>rfl)).mono ?_⟩;rintro _ bw ⟨rfl,rfl⟩;refine⟨_,rfl,aW (fun Q=>z (o.bj 2 [1,0]) (by rw[L,if_neg (fun m=>(of_decide_eq_false Q) m.2.symm)])) fun Q=>?_⟩;have Q:c=dp R:=of_decide_eq_true Q;refine⟨X,(o.box 0 rfl).aF _ rfl,?_⟩;refine o.storeAll af 1 rfl rfl (bD X) rfl rfl rfl rfl fun am Z=>?_;have d:dJ c=some R:=by rw[L,if_pos ⟨g,Q.symm⟩]
   refine⟨X,(Z.box 1 rfl).aF _ rfl,X,by rw[d];rfl,fun E=>(by rw[d]at E;cases E),fun r' B=>?_⟩;rw[d]at B;injection B with B
   subst B;have ay:Sp h am [aj 5 u 1 aw R.data]:=Z.ca [3];exact ay.gn 0 rfl fun q hq=>U (hq.1.seq (fun _=>rfl) hq.2)
end Go.Qw
namespace Go.Vc
open Go Wl Go.Qw
section
variable {B:ap} {h0 h h':Heap} {As L:List HP} {X Y Z:HP}
theorem aa.Yq(H:aa B h0 h (X::Y::(L++As))):aa B h0 h (L++(X::Y::As)):=
 H.pick (fun i=>if i<L.length then i+2 else if i=L.length then 0 else if i=L.length+1 then 1 else i) (fun a b c=>by(try dsimp only at c);split at c<;>split at c<;>(try split at c)<;>(try split at c)<;>(try split at c)<;>(try split at c)<;>omega) fun i A d=>by
  try dsimp only
  by_cases g:i<L.length
  ·rw[ql g]at d;rw[if_pos g,qo,qo,ql g];exact d
  ·rw[qg (by omega)]at d;rw[if_neg g];by_cases e:i=L.length
   ·subst e;rw[if_pos rfl];rw[qZ]at d;exact d
   ·rw[if_neg e];by_cases f:i=L.length+1
    ·subst f;rw[if_pos rfl];rw[show L.length+1-L.length=1 by omega]at d;exact d
    ·rw[if_neg f];obtain⟨j,rfl⟩:∃j,i=L.length+(j+2):=⟨i-L.length-2,by omega⟩
     rw[zg,qo,qo]at d;rw[show L.length+(j+2)=(L.length+j)+1+1 by omega,qo,qo,qg (by omega),zg];exact d
theorem aa.Wm(n:Nat)(c:L[n]?=some X)(H:aa B h0 h (Y::Z::(L++As))):aa B h0 h (X::Z::Y::(L.set n emp++As)):=by
 have a:=(qk.1 c).1;have b:=H.cons (n+2) (A:=X) (by rw[qo,qo,ql a];exact c);have e:(Y::Z::(L++As)).set (n+2) emp=Y::Z::(L.set n emp++As):=by
  rw[wF,wF,List.set_append_left _ _ a]
 rw[e]at b;exact b.bj 3 [0,2,1]
theorem aa.NY(n:Nat)(g:n<L.length)(H:aa B h0 h (X::Z::Y::(L.set n emp++As))):aa B h0 h (Y::Z::(L.set n X++As)):=
 H.pick (fun i=>if i=0 then 2 else if i=1 then 1 else if i=n+2 then 0 else i+1) (fun a b c=>by(try dsimp only at c);split at c<;>split at c<;>(try split at c)<;>(try split at c)<;>(try split at c)<;>(try split at c)<;>omega) fun i A d=>by
  try dsimp only
  match i,d with
  |0,d=>exact d
  |1,d=>exact d
  |i+2,d=>
   rw[if_neg (by omega),if_neg (by omega)];rw[qo,qo]at d;by_cases e:i=n
   ·subst e;rw[ql (by simpa using g),zO g]at d;rw[if_pos rfl];exact d
   ·rw[if_neg (by omega),qo,qo,qo];by_cases f:i<L.length
    ·rw[ql (by simpa using f),zN (by omega)]at d;rw[ql (by simpa using f),zN (by omega)];exact d
    ·rw[qg (by simp;omega),zy]at d;rw[qg (by simp;omega),zy];exact d
end
structure Kit where
 tS:Nat
 tP:Nat
 tD:Nat
 f:Addr->bf->Sl->Sl->aQ
def TR(k:Kit)(pw:Addr)(a:aM)(d:Option bf):HP:=match a,d with
 |some a,some d=>gF k.tD (k.f pw) a d
 |_,_=>emp
abbrev bL(b:aQ)(pw:Addr)(offs:Int)(a:List aM):aQ:=b++(vS (some pw)::vQ vW offs::a.map .pointer)
structure fG (mc:aQ) (da:List aM) (ds:aS):Prop where
 l8:mc.length=8
 la:da.length=64
 ls:ds.length=64
 same:∀i:Nat,(da.getD i none).isSome=(ds.getD i none).isSome
abbrev cW(k:Kit)(pw:Addr)(a:List aM)(ds:aS):List HP:=List.zipWith (TR k pw) a ds
def bm(k:Kit)(a pw:Addr)(c:aQ)(offs:Int)(b:List aM)(w:Pow)(ds:aS):HP:=
 (HP.all (ag a k.tS (bL c pw offs b)::bP k.tP pw w::cW k pw b ds)).and (fG c b ds)
section
variable {k:Kit} {B:ap} {h0 h h':Heap} {As:List HP} {a pw:Addr} {mc:aQ} {offs:Int} {da:List aM} {w w':Pow} {ds:aS} {d d':bf} {n:Nat}
theorem Lg(ok:fG mc da ds):(cW k pw da ds).length=64:=by simp[cW,ok.la,ok.ls]
theorem aa.pV(H:aa B h0 h (bm k a pw mc offs da w ds::As)):fG mc da ds/\aa B h0 h (ag a k.tS (bL mc pw offs da)::bP k.tP pw w::(cW k pw da ds++As)):=by
 obtain⟨H,ok⟩:=H.lA;exact⟨ok,H.lL⟩
theorem aa.rP(ok:fG mc da ds)(H:aa B h0 h (ag a k.tS (bL mc pw offs da)::bP k.tP pw w::(cW k pw da ds++As))):aa B h0 h (bm k a pw mc offs da w ds::As):=
 (aa.closeAll (ag a k.tS (bL mc pw offs da)::bP k.tP pw w::cW k pw da ds) H).tolA ok
theorem fG.addr(ok:fG mc da ds)(c:ds[n]?=some (some d)):∃b,da[n]?=some (some b):=by
 have f:n<64:=by have:=(qk.1 c).1;rw[ok.ls]at this;exact this
 have a:=ok.same n;rw[qf,qf,c]at a;have e:n<da.length:=by rw[ok.la];exact f
 rw[qd e]at a⊢;simp at a;obtain⟨b,g⟩:=wE.1 a;exact⟨b,by rw[g]⟩
theorem fG.AV(ok:fG mc da ds)(d:n<64)(c:ds[n]?=some none):da[n]?=some none:=by
 have a:=ok.same n;rw[qf,qf,c]at a;have b:n<da.length:=by rw[ok.la];exact d
 rw[qd b]at a⊢;simp at a;rw[a]
theorem fG.set(ok:fG mc da ds){b:Addr}(c:da[n]?=some (some b)):fG mc da (ds.set n (some d')):=by
 refine⟨ok.l8,ok.la,by rw[zy];exact ok.ls,fun i=>?_⟩;by_cases a:n=i
 ·subst a;have d:n<ds.length:=by have:=(qk.1 c).1;rw[ok.la]at this;rw[ok.ls];exact this
  rw[qf,c,qf,zO d];rfl
 ·rw[qf (l:=ds.set n _),zN a,<-qf];exact ok.same i
theorem TS{b:Addr}(c:da[n]?=some (some b))(d:n<ds.length):(cW k pw da ds).set n (gF k.tD (k.f pw) b d')=cW k pw da (ds.set n (some d')):=by
 apply zr;intro j;have e:n<da.length:=(qk.1 c).1;simp only[cW,qW,zB,yW];by_cases a:n=j
 ·subst a;rw[if_pos rfl,if_pos (by omega),if_pos rfl,if_pos d,c];rfl
 ·simp[a]
def Jw(k:Kit)(a pw:Addr)(c:aQ)(offs:Int)(b:List aM)(ds:aS)(n:Nat):HP:=
 (HP.all (ag a k.tS (bL c pw offs b)::(cW k pw b ds).set n emp)).and (fG c b ds)
theorem aa.kq(H:aa B h0 h (bm k a pw mc offs da w ds::As))(c:ds[n]?=some (some d)):∃b,da[n]?=some (some b)/\aa B h0 h (gF k.tD (k.f pw) b d::bP k.tP pw w::Jw k a pw mc offs da ds n::As):=by
 obtain⟨ok,j⟩:=H.pV;obtain⟨b,e⟩:=ok.addr c;refine⟨b,e,?_⟩;have i:(cW k pw da ds)[n]?=some (gF k.tD (k.f pw) b d):=by
  simp only[cW,zB,e,c];rfl
 have g:=j.Wm n i;have l:aa B h0 h (gF k.tD (k.f pw) b d::bP k.tP pw w::((ag a k.tS (bL mc pw offs da)::(cW k pw da ds).set n emp)++As)):=g;exact(((aa.closeAll _ l.Yq).tolA ok).bj 3 [1,2,0]:aa B h0 h (gF k.tD (k.f pw) b d::bP k.tP pw w::Jw k a pw mc offs da ds n::As))
theorem aa.DQ{b:Addr}(j:da[n]?=some (some b))(H:aa B h0 h (gF k.tD (k.f pw) b d'::bP k.tP pw w'::Jw k a pw mc offs da ds n::As)):aa B h0 h (bm k a pw mc offs da w' (ds.set n (some d'))::As):=by
 have m:aa B h0 h (Jw k a pw mc offs da ds n::bP k.tP pw w'::gF k.tD (k.f pw) b d'::As):=H.bj 3 [2,1,0];obtain⟨m,ok⟩:=m.lA;have q:=m.lL;have r:n<ds.length:=by have:=(qk.1 j).1;rw[ok.la]at this;rw[ok.ls];exact this
 have s:=Lg (k:=k) (pw:=pw) ok;have g:n<(cW k pw da ds).length:=by rw[s,<-ok.ls];exact r
 obtain⟨L,p⟩:∃L,L=cW k pw da ds:=⟨_,rfl⟩
 rw[<-p]at q g;have t:aa B h0 h (gF k.tD (k.f pw) b d'::bP k.tP pw w'::ag a k.tS (bL mc pw offs da)::(L.set n emp++As)):=by
  refine q.pick (fun i=>if i=0 then 1+L.length+1 else if i=1 then 1+L.length else if i=2 then 0 else if i<3+L.length then i-2 else i) (fun x y c=>by(try dsimp only at c);split at c<;>split at c<;>(try split at c)<;>(try split at c)<;>(try split at c)<;>(try split at c)<;>(try split at c)<;>(try split at c)<;>omega) fun i A e=>?_
  try dsimp only
  have d:(ag a k.tS (bL mc pw offs da)::L.set n emp).length=1+L.length:=by simp;omega
  match i,e with
  |0,e=>rw[if_pos rfl,qg (by omega),d,show 1+L.length+1-(1+L.length)=1 by omega];exact e
  |1,e=>rw[if_neg (by omega),if_pos rfl,qg (by omega),d,qZ];exact e
  |2,e=>rw[if_neg (by omega),if_neg (by omega),if_pos rfl];exact e
  |i+3,e=>
   rw[if_neg (by omega),if_neg (by omega),if_neg (by omega)];rw[qo,qo,qo]at e;by_cases l:i<L.length
   ·rw[if_pos (by omega),show i+3-2=i+1 by omega,ql (by rw[d];omega),qo];rw[ql (by simpa using l)]at e;exact e
   ·rw[if_neg (by omega),qg (by rw[d];omega),d,show i+3-(1+L.length)=(i-L.length)+2 by omega,qo,qo];rw[qg (by simp;omega),zy]at e;exact e
 have o:=aa.NY n g t;rw[p,TS j r]at o;exact o.rP (ok.set j)
end
def jV:jf (Int×Sl) (Int×aL):=⟨fun h q a b=>a.1=b.1/\Seq h q a.2 1 aw b.2,fun a d=>⟨a.1,a.2.ah d⟩,fun a c=>⟨a.1,a.2.mono c⟩⟩
def piv(x:Int×Sl):aQ:=[vQ vW x.1,x.2]
theorem NZ:∀x,∀c∈piv x,c.oneCell'=true:=by intro x c a;simp[piv]at a;rcases a with rfl|rfl<;>rfl
def gH(b:List aM)(a:Int):aM:=if 0<=a/\a<64 then(b[a.toNat]?).join else none
theorem lH{i:aQ}{e:List aM}{ds:aS}(ok:fG i e ds)(a:Int):
  (bs ds a=none/\gH e a=none)∨∃(n:Nat) (d:bf) (b:Addr),a=n/\n<64/\ds[n]?=some (some d)/\bs ds a=some d/\e[n]?=some (some b)/\gH e a=some b:=by
 unfold bs gH;by_cases h:0<=a/\a<64
 ·rw[if_pos h,if_pos h];have f:a.toNat<ds.length:=by rw[ok.ls];omega
  cases hd:ds[a.toNat]with
  |none=>
   have c:ds[a.toNat]?=some none:=by rw[qd f,hd]
   exact .inl ⟨by rw[c];rfl,by rw[ok.AV (by omega) c];rfl⟩
  |some d=>
   have c:ds[a.toNat]?=some (some d):=by rw[qd f,hd]
   obtain⟨b,g⟩:=ok.addr c;exact .inr ⟨a.toNat,d,b,by omega,by omega,c,by rw[c];rfl,g,by rw[g];rfl⟩
 ·rw[if_neg h,if_neg h];exact .inl ⟨rfl,rfl⟩
theorem rQ{a:aQ}{pw:Addr}{offs:Int}{b:List aM}(h8:a.length=8)(n:Nat):(bL a pw offs b)[10+n]?=(b[n]?).map .pointer:=by
 unfold bL;rw[qg (by omega),h8,show 10+n-8=n+1+1 by omega,qo,qo,qP]
theorem TT{a:aQ}{pw:Addr}{offs:Int}{b:List aM}(h8:a.length=8):(bL a pw offs b)[8]?=some (vS (some pw)):=by
 unfold bL;rw[qg (by omega),h8];rfl
theorem Ph{a:aQ}{pw:Addr}{offs:Int}{b:List aM}(h8:a.length=8):(bL a pw offs b)[9]?=some (vQ vW offs):=by
 unfold bL;rw[qg (by omega),h8];rfl
end Go.Vc
namespace Go.Qw
open Go Go.Vc Go.Proofs Wl
abbrev bh:Go.Vc.Kit:=⟨63,56,70,fun pw=>eK pw⟩
theorem Lh{e:TypeId}(s:Sl)(l:aD)(h:Heap)(c:Own h e s 1 aE l)(a:l.length<2^40):ac xa 94 #[s] h fun v h'=>v=vR s.ptr (Lib.compact l).length s.cap/\Own h' e ⟨s.ptr,(Lib.compact l).length,s.cap⟩ 1 aE (Lib.compact l)/\aG (fun b=>¬s.on b) h h':=
 Ew Tryz.slices_Compact_int Tryz.slices_Compact_int_empty c a
section
variable {B:ap} {h0 h h':Heap} {As:List HP} {a pw:Addr} {mc:aQ} {offs:Int} {da:List aM} {w:Pow} {ds:aS}
theorem lj(b:Int)(ok:fG mc da ds)(f:bZ h a 63 (bL mc pw offs da)):ac xa 8 #[vS (some a),vQ vW b] h fun v h'=>v=.pointer (gH da b)/\h'=h:=by
 refine sQ (some a) b ?_;unfold mP;have c:¬(0<=b/\b<64)->Value.pointer none=.pointer (gH da b)/\h=h:=fun e=>by unfold gH;rw[if_neg e];exact⟨rfl,rfl⟩
 refine aU (bq (fun e=>by cases e) fun _=>al (fun e=>c (by omega)) fun g=>al (fun e=>c (by omega)) fun e2=>?_);have d:b.toNat<da.length:=by rw[ok.la];omega
 refine⟨a,rfl,⟨by omega,by omega⟩,da[b.toNat],?_,?_,rfl⟩
 ·rw[wO];refine f.rN 10 b.toNat ?_;rw[rQ ok.l8,qd d];rfl
 ·unfold gH;rw[if_pos (by omega),qd d];rfl
theorem aa.db(H:aa B h0 h (bm bh a pw mc offs da w ds::As)):fG mc da ds/\bZ h a 63 (bL mc pw offs da):=by
 obtain⟨ok,b⟩:=Go.Vc.aa.pV H;exact⟨ok,b.box 0 rfl⟩
theorem Pj(s:Sl)(l:aD)(u:Rd h s 1 aE l)(G:l.length<=2^30)(H:aa B h0 h (bm bh a pw mc offs da w ds::As)):
  ac xa 51 #[.func (.func 8) #[vS (some a)] #[],s] h fun v h'=>∃r:Sl,v=r/\Sp h h' [aj 3 r 1 aE (bS ds l)]:=by
 refine KM (8,#[vS (some a)],#[]) s ?_;unfold EO;have A:=u.len;obtain⟨ok,x⟩:=aa.db H;refine az (fun t:Sl×Nat=>(t.1,(t.2:Int))) (fun t h'=>t.2<=l.length/\Sp h h' [aj 3 t.1 1 aE (bS ds (l.take t.2))]) (fun t=>l.length-t.2) (⟨none,0,0⟩,0) rfl ⟨by simp,by simpa[bS]using(Sp.refl h).nil 3 1 aE⟩ ?_;rintro⟨o,i⟩ J ⟨K,j⟩;dsimp only at*;refine al (fun e=>?_) (fun e=>?_)
 ·have p:i<l.length:=by omega
  have c:bS ds (l.take (i+1))=bS ds (l.take i)++(if isLive ds l[i]then[l[i]]else[]):=by
   unfold bS;rw[aK _ _ p,zn,zx,vy]
  have y:(bS ds (l.take i)).length<=l.length:=by
   have:=zJ (isLive ds) (l.take i);unfold bS;simp at this⊢;omega
  have next:∀{h':Heap} {k:Sl},Sp h h' [aj 3 k 1 aE (bS ds (l.take (i+1)))]->∃m:Sl×Nat,((⟨k.ptr,k.len,k.cap⟩:Sl),qc vW ((i:Int)+1))=(m.1,(m.2:Int))/\(m.2<=l.length/\Sp h h' [aj 3 m.1 1 aE (bS ds (l.take m.2))])/\l.length-m.2<l.length-i:=fun{h' k} H'=>
   ⟨(k,i+1),by dsimp only;rw[an _];rfl,⟨by dsimp only;omega,H'⟩,by dsimp only;omega⟩
  refine(Seq.up u j.ah).cK i rfl p l[i] rfl (eZ (by rfl) ?_);refine(lj l[i] ok (x.ah j.ah x.lt)).mono ?_;rintro _ I ⟨rfl,rfl⟩;refine⟨_,rfl,?_⟩;rcases lH ok l[i]with⟨c1,c2⟩|⟨n,d,b,c0,c1,c2,c3,c4,c5⟩
  ·rw[c2];have g:isLive ds l[i]=false:=by unfold isLive;rw[c1]
   rw[g]at c;refine aW (fun e=>by cases e) fun _=>next (by rw[c];simpa using j)
  ·rw[c5];have g:isLive ds l[i]=!d.lost:=by unfold isLive;rw[c3]
   refine aW (fun _=>?_) fun e=>by cases e
   obtain⟨M,f,E⟩:=Go.Vc.aa.kq (aa.up H j.ah) c2;rw[c4]at f;injection f with f
   injection f with f
   subst f;obtain⟨D,F,q,_,_⟩:=fq.box E;refine(ol D F q).mono ?_;rintro _ h3 ⟨rfl,rfl⟩;refine⟨_,rfl,aW (fun e=>?_) (fun e=>?_)⟩
   ·rw[g,e]at c;refine j.push af 0 rfl kS rfl (by decide) (fun _=>rfl) iU l[i] rfl (by decide) (by omega) fun k L z=>next ?_
    rw[c];exact z
   ·rw[g,e]at c;exact next (by rw[c];simpa using j)
 ·rw[qi (by omega)]at j;exact⟨o,rfl,j⟩
theorem Pk(s:Sl)(l:aD)(U:St B h0 As fun h=>Rd h s 1 aE l)(Z:l.length<=2^30)(A:∀x∈l,0<=x/\x<64)(H:aa B h0 h (bm bh a pw mc offs da w ds::As)):
  ac xa 55 #[.func (.func 8) #[vS (some a)] #[],s] h fun v h'=>v=vQ vW (iO (eX l) w ds).1/\aa B h0 h' (bm bh a pw mc offs da (iO (eX l) w ds).2.1 (iO (eX l) w ds).2.2::As):=by
 refine KO (8,#[vS (some a)],#[]) s ?_;unfold EQ;refine(kF s l h (U.at [_] H) (by omega)).mono ?_;rintro _ V ⟨r,rfl,T⟩;have L:=H.cM T;refine⟨r,rfl,(HY r l V (L.own 0 rfl) (by omega)).mono ?_⟩;rintro _ P ⟨rfl,K,Q⟩;have X:=L.jN 0 rfl Q K;refine⟨(),rfl,(Lh r (iP l) P K (by rw[Hw];omega)).mono ?_⟩;rintro _ h3 ⟨rfl,R,J⟩;have o:=X.step (D:=aj 3 ⟨r.ptr,(Lib.compact (iP l)).length,r.cap⟩ 1 aE (Lib.compact (iP l))) 0 rfl fun q E z=>⟨J.mono fun b _ m G=>m (E.2 b G),R,fun b m=>⟨qQ (z b (E.2 b m)) J.1,.inl (E.2 b m)⟩⟩
 rw[ON l A]at o⊢;obtain⟨u,M⟩:∃u,u=eX l:=⟨_,rfl⟩
 rw[<-M]at o⊢;have o:aa B h0 h3 (aj 3 ⟨r.ptr,u.length,r.cap⟩ 1 aE u::bm bh a pw mc offs da w ds::As):=o;have S:u.length<=64:=by
  have:=zJ (fun i=>decide (i∈l)) ((qD 64).map fun i:Nat=>(i:Int));rw[M];unfold eX;simpa using this
 refine⟨⟨r.ptr,u.length,r.cap⟩,rfl,?_⟩;refine az (fun t:Nat×Pow×aS=>(t.1:Int)) (fun t h'=>t.1<=u.length/\iO u w ds=iO (u.drop t.1) t.2.1 t.2.2/\aa B h0 h' (aj 3 ⟨r.ptr,u.length,r.cap⟩ 1 aE u::bm bh a pw mc offs da t.2.1 t.2.2::As)) (fun t=>u.length-t.1) (0,w,ds) rfl ⟨by simp,rfl,o⟩ ?_;rintro⟨i,j,f⟩ h4 ⟨hi,c,p⟩;dsimp only at*;refine al (fun e=>?_) (fun e=>?_)
 ·have y:i<u.length:=by omega
  obtain⟨ok,m⟩:=aa.db p.rest;rw[qS y,um]at c;refine(p.seq 0 rfl fun _=>rfl).cK i rfl y u[i] rfl (eZ (by rfl) ?_);refine(lj u[i] ok m).mono ?_;rintro _ Y ⟨rfl,rfl⟩;refine⟨_,rfl,?_⟩;rcases lH ok u[i]with⟨c1,c2⟩|⟨n,d,b,c0,c1,c2,c3,c4,c5⟩
  ·rw[c2];refine(Lc Y).mono ?_;rintro _ O ⟨rfl,rfl⟩;have F:fd j f u[i]=(5,j,f):=by unfold fd;rw[c1]
   rw[F]at c;refine⟨5,rfl,ci (fun _=>?_) fun e=>absurd e (by decide)⟩;have:iO u w ds=(5,j,f):=c;rw[this];exact⟨rfl,p.rest⟩
  ·rw[c5];obtain⟨b',g,N⟩:=Go.Vc.aa.kq (p.bj 2 [1,0]) c2;rw[c4]at g;injection g with g
   injection g with g
   subst g;refine(Rr N).mono ?_;rintro _ O ⟨rfl,W⟩;have I:=Go.Vc.aa.DQ (k:=bh) (n:=n) c4 W;have F:fd j f u[i]=((d.sync j).1,(d.sync j).2.1,f.set n (some (d.sync j).2.2)):=by
    unfold fd;rw[c3];simp only[fO,c0,qq]
   rw[F]at c;refine⟨_,rfl,ci (fun e2=>?_) fun e2=>?_⟩
   ·have:iO u w ds=((d.sync j).1,(d.sync j).2.1,f.set n (some (d.sync j).2.2)):=by rw[c];exact if_neg e2
    rw[this];exact⟨rfl,I.BI⟩
   ·refine⟨(i+1,(d.sync j).2.1,f.set n (some (d.sync j).2.2)),by dsimp only;rw[an _];rfl,⟨by dsimp only;omega,?_,I.bj 2 [1,0]⟩,by dsimp only;omega⟩;rw[c];exact if_pos e2
 ·rw[zd (by omega)]at c;rw[c];exact⟨rfl,p.rest⟩
end
end Go.Qw
namespace Go.Vc
open Go Wl
theorem HP.tC{h:Heap}:∀{L:List HP} {q:ap} {i:Nat} {A:HP},(HP.all L).p h q->L[i]?=some A->A.p h q
 |A::L,q,0,A',⟨q1,q2,_,b,_,d,_⟩,hi=>by simp at hi;subst hi;exact A.mono d b
 |A::L,q,i+1,A',⟨q1,q2,_,_,c,_,e⟩,hi=>A'.mono (HP.tC e (by simpa using hi)) c
 |[],_,i,_,_,hi=>by simp at hi
section
variable {α β:Type} {B:ap} {h0 h:Heap} {As:List HP} {e e2 k:Nat} {s:Sl} {f:α->aQ} {ll:List (List α)}
theorem aa.Pn(H:aa B h0 h (iw e s e2 k f ll::As))(m:∀x,(f x).length=k):∃rs,aa B h0 h (eG (Gr k f) 1 cF s rs ll::As):=by
 obtain⟨rs,H⟩:=H.uk;obtain⟨H,c⟩:=H.lA;refine⟨rs,H.gn 0 rfl fun q b=>⟨?_,c,fun i r l d a=>?_⟩⟩
 ·have:=HP.tC (i:=0) b rfl;exact this.1.seq (fun _=>rfl) this.2
 ·have g:i<ll.length:=(qk.1 a).1;have j:=gO (e:=e2) (k:=k) (f:=f) c i g;have:=HP.tC (i:=i+1) b (by simpa using j);have n:rs[i]'(by omega)=r:=by rw[qd (by omega)]at d;simpa using d
  have e2:ll[i]=l:=by rw[qd g]at a;simpa using a
  rw[n,e2]at this;exact this.1.seq m this.2
end
end Go.Vc
namespace Wl
def bF(m:ar)(a:aD):List (Int×aL):=a.flatMap fun n=>(aP m).map fun c=>(n,c)
theorem jR{m:ar}{a:aD}{x:Int×aL}(h:x∈bF m a):x.1∈a/\x.2.length=64:=by
 unfold bF at h;obtain⟨n,e,d⟩:=zL.1 h;obtain⟨c,b,rfl⟩:=qE.1 d;exact⟨e,uq b⟩
end Wl
namespace Go.Qw
open Go Go.Vc Go.Proofs Wl
theorem jk(m:ar)(a:cn m):(aP m).length<=3000:=by
 have:=DP m a;unfold aP cD;simp;omega
abbrev Li:bN C.tosH 67 80 2 [vQ vW 0,vR none 0 0] 32:=⟨_,_,rfl,rfl,rfl,rfl,rfl,rfl⟩
section
variable {B:ap} {h0 h h':Heap} {As:List HP} {a pw:Addr} {mc:aQ} {offs:Int} {da:List aM} {w:Pow} {ds:aS}
theorem AW(s:Sl)(q:List (Int×Sl))(P:List (Int×aL))(G:St B h0 As fun h=>mO jV 2 piv h s q P)(hl:P.length<=2^30)(z:∀x∈P,(0<=x.1/\x.1<64)/\x.2.length<=2^20)(H:aa B h0 h (bm bh a pw mc offs da w ds::As)):
  ac xa 26 #[.func (.func 8) #[vS (some a)] #[],s] h fun v h'=>v=vQ vW (layAll P w ds).1/\aa B h0 h' (bm bh a pw mc offs da (layAll P w ds).2.1 (layAll P w ds).2.2::As):=by
 refine MD (8,#[vS (some a)],#[]) s ?_;unfold HQ;have X:=(G.at [_] H).1.len;have ad:=(G.at [_] H).2.1;have W:=(H.nil 3 1 aE).cl;refine az (fun t:Sl×Nat×Pow×aS=>(t.1,(t.2.1:Int))) (fun t h'=>t.2.1<=P.length/\iV P w ds=iV (P.drop t.2.1) t.2.2.1 t.2.2.2/\aa B h0 h' (aj 3 t.1 1 aE ((P.take t.2.1).map qx)::bm bh a pw mc offs da t.2.2.1 t.2.2.2::As)) (fun t=>P.length-t.2.1) (⟨none,0,0⟩,0,w,ds) rfl ⟨by simp,rfl,by simpa using W⟩ ?_;rintro⟨o,i,u,p⟩ h1 ⟨hi,f,I⟩;dsimp only at*;refine al (fun e=>?_) (fun e=>?_)
 ·have r:i<P.length:=by omega
  rw[qS r,pv]at f;have Q:=G.at [_,_] I;have K:=z _ (qn r);refine Q.1.dE (g:=piv) i rfl (by omega) (q[i]'(by omega)) rfl ?_;refine I.alloc af rfl fun a4 U F=>?_;have F:=F.cl;refine F.storeAll af 0 rfl rfl (piv (q[i]'(by omega))) rfl rfl rfl rfl fun h3 j=>?_;obtain⟨N,O⟩:=Fix.row (G.at [_,_,_] j) r;have j:aa B h0 h3 (ag a4 80 (piv (q[i]'(by omega)))::aj 3 o 1 aE ((P.take i).map qx)::bm bh a pw mc offs da u p::As):=j;have j:=j.bj 3 [2,0,1];obtain⟨ok,hb⟩:=aa.db j;obtain⟨c,m⟩:∃c,c=du u p P[i].1 P[i].2:=⟨_,rfl⟩
  rw[<-m]at f;refine cv (fun _ h'=>c.1=0/\aa B h0 h' (bm bh a pw mc offs da c.2.1 c.2.2::ag a4 80 (piv (q[i]'(by omega)))::aj 3 o 1 aE ((P.take i).map qx)::As)) ?_ ?_
  ·refine cv (fun e h'=>e=c.1/\aa B h0 h' (bm bh a pw mc offs da c.2.1 c.2.2::ag a4 80 (piv (q[i]'(by omega)))::aj 3 o 1 aE ((P.take i).map qx)::As)) ?_ ?_
   ·refine⟨P[i].1,by rw[<-N];exact(j.box 1 rfl).cell0 rfl,(q[i]'(by omega)).2,(j.box 1 rfl).cell rfl,eZ (by rfl) ?_⟩;refine(lj P[i].1 ok hb).mono ?_;rintro _ M ⟨rfl,rfl⟩;refine⟨_,rfl,⟨(j.box 1 rfl).cell rfl,trivial⟩,?_⟩;rcases lH ok P[i].1 with⟨c1,c2⟩|⟨n,d,b,c0,c1,c2,c3,c4,c5⟩
    ·rw[c2];refine(GR (q[i]'(by omega)).2 P[i].2 M O).mono ?_;rintro _ h5 ⟨rfl,rfl⟩;have E:c=(if P[i].2.length≠64 then 1 else 5,u,p):=by rw[m];unfold du;rw[c1]
     refine⟨_,rfl,trivial,by rw[E],?_⟩;rw[E];exact j
    ·rw[c5];obtain⟨b',l,J⟩:=Go.Vc.aa.kq j c2;rw[c4]at l;injection l with l
     injection l with l
     subst l;refine(MK (q[i]'(by omega)).2 P[i].2 J O K.2).mono ?_;rintro _ h6 ⟨rfl,Z⟩;have R:=Go.Vc.aa.DQ (k:=bh) (n:=n) c4 Z;have E:c=((d.append u P[i].2).1,(d.append u P[i].2).2.1,p.set n (some (d.append u P[i].2).2.2)):=by
      rw[m];unfold du;rw[c3];simp only[fO,c0,qq]
     refine⟨_,rfl,trivial,by rw[E],?_⟩;rw[E];exact R
   ·rintro e4 M ⟨rfl,D⟩;refine ci (fun e2=>?_) fun e2=>⟨e2,D⟩
    rw[if_neg e2]at f;have:layAll P w ds=c:=by unfold layAll;rw[f];exact if_neg e2
    rw[this];exact⟨rfl,D.BI.BI⟩
  ·rintro _ M ⟨e2,D⟩;rw[if_pos e2]at f;refine⟨P[i].1,by rw[<-N];exact(D.box 1 rfl).cell0 rfl,?_⟩;refine D.push af 2 rfl kS rfl (by decide) (fun _=>rfl) iU P[i].1 rfl (by decide) (by simp;omega) fun Y h5 J=>?_;refine⟨(Y,i+1,c.2.1,c.2.2),by dsimp only;rw[an _];rfl,⟨by dsimp only;omega,f,?_⟩,by dsimp only;omega⟩;dsimp only;rw[aK _ _ r,za];exact J.bj 3 [2,0]
 ·have L:i=P.length:=by omega
  subst L;rw[List.drop_length]at f;rw[zc]at I;have F:=(I.freeze 0 rfl fun _=>rfl).bj 2 [1,0];have A:layAll P w ds=iO (eX (P.map qx)) u p:=by unfold layAll;rw[f];rfl
  refine(Pk o (P.map qx) (St.iv 0 rfl fun h' S=>S) (by simp;omega) (fun x T=>?_) F).mono ?_
  ·obtain⟨y,V,rfl⟩:=qE.1 T;exact(z y V).1
  ·rintro _ U ⟨rfl,j⟩;refine⟨_,rfl,by rw[A],?_⟩;rw[A];exact j.BI
theorem CO(x:bn)(m:ar)(s:Sl)(a:aD)(h:Heap)(hx:eS h x m)(I:cn m)(S:Rd h s 1 aE a)(ad:a.length<=2^10):
  ac xa 27 #[cN x,s] h fun v h'=>∃(r:Sl) (ys:List (Int×Sl)),v=r/\Sp h h' [eG jV 2 piv r ys (bF m a)]:=by
 refine II x s ?_;unfold Cw;refine(Sp.refl h).boxed fun a1 X L=>?_;refine⟨x,(L.box 0 rfl).aF _ rfl,(kG x m X (hx.up L.ah) I).mono ?_⟩;rintro _ W ⟨r,rfl,R2⟩;have F:=L.cM R2;refine⟨r,rfl,?_⟩;obtain⟨rs,F⟩:=F.Pn fun _=>rfl;have M:=jk m I;obtain⟨d,E⟩:∃d,d=aP m:=⟨_,rfl⟩
 rw[<-E]at F M;have R:=F.jY 0 rfl;have am:=R.1.len;have ax:=R.2.1;have Y:=S.len;obtain⟨T,G⟩:∃T:Int->List ((Int×Sl)×(Int×aL)),T=fun n=>(rs.zip d).map fun z=>((n,z.1),(n,z.2)):=⟨_,rfl⟩
 have f:∀n,(T n).length=d.length:=fun n=>by rw[G];simp;omega
 have J:∀n,(T n).map ze=d.map fun c=>(n,c):=fun n=>by
  have I:=List.map_snd_zip (l₁:=rs) (l₂:=d) (by omega)
  conv=>rhs;rw[<-I]
  rw[G];simp[we,Function.comp_def]
 have O:∀n j (P:j<d.length),(T n)[j]'(by rw[f];exact P)=((n,rs[j]'(by omega)),(n,d[j])):=fun n j P=>by subst G;simp
 have g:Sp h W [aj 80 ⟨none,0,0⟩ 2 piv (((a.take 0).flatMap T).map qx),eG (Gr 1 aw) 1 cF r rs d]:=(F.nil 80 2 piv).ca [2,0];have y:∀i,i<=a.length->((a.take i).flatMap T).length<=i*3000:=fun i=>by
  induction i with
  |zero=>simp
  |succ i ih=>
   intro V;rw[aK _ _ (show i<a.length by omega),qY,qw];have X:=ih (by omega);have W:([a[i]].flatMap T).length=d.length:=by rw[zf,wx,qM,f]
   omega
 refine az (fun t:Sl×Nat=>(t.1,(t.2:Int))) (fun t h'=>t.2<=a.length/\Sp h h' [aj 80 t.1 2 piv (((a.take t.2).flatMap T).map qx),eG (Gr 1 aw) 1 cF r rs d]) (fun t=>a.length-t.2) (⟨none,0,0⟩,0) rfl ⟨by simp,g⟩ ?_;rintro⟨o,i⟩ h3 ⟨V,g⟩;dsimp only at*;refine al (fun e=>?_) (fun e=>?_)
 ·have A:i<a.length:=by omega
  have ht:=y i V;have hb:i*3000<=2^10*3000:=zm _ (by omega);refine(Seq.up S g.ah).cK i rfl A a[i] rfl ?_;refine az (fun t:Sl×Nat=>(t.1,(t.2:Int))) (fun t h'=>t.2<=d.length/\Sp h h' [aj 80 t.1 2 piv (((a.take i).flatMap T).map qx++((T a[i]).take t.2).map qx),eG (Gr 1 aw) 1 cF r rs d]) (fun t=>d.length-t.2) (o,0) rfl ⟨by simp,by simpa using g⟩ ?_;rintro⟨u,j⟩ h4 ⟨P,p⟩;dsimp only at*;refine al (fun e2=>?_) (fun e2=>?_)
  ·have D:j<d.length:=by omega
   refine(p.jY 1 rfl).1.Tk j rfl (by omega) ?_;refine p.push af 0 rfl Li rfl (by decide) (fun _=>rfl) NZ (a[i],rs[j]'(by omega)) rfl (by decide) (by simp only[qw,qC,qR,f];omega) fun u' h5 Z=>?_;refine⟨(u',j+1),by dsimp only;rw[an _];rfl,⟨by dsimp only;omega,?_⟩,by dsimp only;omega⟩;dsimp only;rw[aK (T a[i]) j (by rw[f];exact D),za,O _ _ D,<-qm];exact Z
  ·have K:j=d.length:=by omega
   subst K;rw[qi (l:=T a[i]) (by rw[f];exact qp _)]at p;refine⟨(u,i+1),by dsimp only;rw[an _];rfl,⟨by dsimp only;omega,?_⟩,by dsimp only;omega⟩;dsimp only;rw[aK _ _ A,qY,za,zf,wx,qM];exact p
 ·have Q:i=a.length:=by omega
  subst Q;rw[zc]at g;refine⟨o,(a.flatMap T).map qx,rfl,?_⟩;have p:=(g.freeze 0 rfl fun _=>rfl).jX;refine p.gn 0 rfl fun q ⟨q1,q2,_,b,c,z1,z2⟩=>?_;have B:(a.flatMap T).map ze=bF m a:=by
   unfold bF;rw[List.map_flatMap,<-E];congr 1;funext n;exact J n
  rw[<-B];refine⟨z2.mono c,by simp,fun j r' l' w H=>?_⟩;rw[qP]at w H;cases g3:(a.flatMap T)[j]? with
  |none=>rw[g3]at w;cases w
  |some t=>
   rw[g3]at w H;simp at w H;subst w;subst H;obtain⟨n,_,U⟩:=zL.1 (wu g3);rw[G]at U;obtain⟨z,N,rfl⟩:=qE.1 U;obtain⟨k,hk,rfl⟩:=List.mem_iff_getElem.1 N;rw[List.getElem_zip];exact⟨rfl,(z1.2.2 k _ _ (qd _) (qd _)).mono b⟩
end
section
variable {B:ap} {h0 h h':Heap} {As:List HP} {s:Sl} {d:List bi}
theorem Po{c b:List bi}{y:bi}(d:Sd bQ (c++b))(g:∀z∈c,bQ z y=true)(f:∀z∈b,¬bQ z y=true):Sd bQ (c++y::b):=
 Sd.app cV d.left (zF.2 ⟨fun z a=>cV.sO (f z a),d.right⟩) fun x e z a=>by
  rcases zj.1 a with rfl|a
  ·exact g x e
  ·exact d.rB x e z a
theorem tE(X M Y:List bi)(a b:Int)(ha:a=(X.length:Int))(hb:b=(X.length+M.length:Nat))(am:X.length+M.length+Y.length<=2^40)(H:aa B h0 h (ce s (X++(M++Y))::As)):
  ac xa 238 #[s,vQ vW a,vQ vW b,.func (.func 165) #[] #[]] h fun v h'=>v=.tuple #[]/\∃W,Sd bQ W/\bG bQ M W/\aa B h0 h' (ce s (X++(W++Y))::As):=by
 refine ja s a b (165,#[],#[]) ?_;unfold fD;subst ha;subst hb;rw[an ((X.length:Int)+1)];refine az (fun t:Nat×List bi=>((X.length+1+t.1:Nat):Int)) (fun t h'=>(t.1+1<=M.length∨t.1=0)/\Sd bQ t.2/\bG bQ (M.take (t.1+1)) t.2/\t.2.length=(M.take (t.1+1)).length/\aa B h0 h' (ce s (X++(t.2++(M.drop (t.1+1)++Y)))::As)) (fun t=>M.length-t.1) (0,M.take 1) rfl ?_ ?_
 ·refine⟨.inr rfl,?_,bG.refl _,rfl,?_⟩
  ·cases M with
   |nil=>exact List.Pairwise.nil
   |cons x M=>exact zF.2 ⟨fun _ h=>by simp at h,by simp⟩
  ·rw[<-qm (M.take (0+1)),qA];exact H
 rintro⟨t,P⟩ h1 ⟨ht,p,E,U,R⟩;dsimp only at*;refine al (fun e=>?_) (fun e=>?_)
 ·have K:t+1<M.length:=by omega
  obtain⟨y,hy⟩:∃y,y=M[t+1]:=⟨_,rfl⟩
  have G:P.length=t+1:=by rw[U];simp;omega
  have eD:M.drop (t+1)=y::M.drop (t+1+1):=by rw[qS K,hy]
  rw[eD]at R;refine az (fun u:List bi×List bi=>((X.length+u.1.length:Nat):Int)) (fun u h'=>u.1++u.2=P/\(∀z∈u.2,¬bQ z y=true)/\aa B h0 h' (ce s (X++(u.1++(y::(u.2++(M.drop (t+1+1)++Y)))))::As)) (fun u=>u.1.length) (P,[]) (by dsimp only;rw[G];congr 1;omega) ⟨by simp,by simp,by simpa using R⟩ ?_;rintro⟨c,d⟩ h2 ⟨J,f,L⟩;dsimp only at*;have ax:c.length+d.length=t+1:=by rw[<-G,<-J,qw]
  have k:∀{h':Heap},(∀z∈c,bQ z y=true)->aa B h0 h' (ce s (X++(c++(y::(d++(M.drop (t+1+1)++Y)))))::As)->
    ∃l:Nat×List bi,qc vW (((X.length+1+t:Nat):Int)+1)=((X.length+1+l.1:Nat):Int)/\((l.1+1<=M.length∨l.1=0)/\Sd bQ l.2/\bG bQ (M.take (l.1+1)) l.2/\l.2.length=(M.take (l.1+1)).length/\aa B h0 h' (ce s (X++(l.2++(M.drop (l.1+1)++Y)))::As))/\M.length-l.1<M.length-t:=fun{h'} hle H'=>by
   refine⟨(t+1,c++y::d),by dsimp only;rw[an _];omega,⟨.inl (by dsimp only;omega),?_,?_,?_,?_⟩,by dsimp only;omega⟩
   ·exact Po (by rw[J];exact p) hle f
   ·dsimp only;rw[aK M (t+1) K,<-hy];have h1:bG bQ (M.take (t+1)++[y]) (P++[y]):=E.app (bG.refl _);refine h1.trans ?_;rw[<-J,qm];have h2:bG bQ (d++[y]) ([y]++d):=bG.NM cV fun x hx z T=>by rw[qB.1 T];exact f x hx
    exact(bG.refl _).app h2
   ·dsimp only;simp;omega
   ·dsimp only;have:X++((c++y::d)++(M.drop (t+1+1)++Y))=X++(c++(y::(d++(M.drop (t+1+1)++Y)))):=by simp
    rw[this];exact H'
  obtain⟨D,O⟩:∃D,D=X++(c++(y::(d++(M.drop (t+1+1)++Y)))):=⟨_,rfl⟩
  refine cv (fun _ h'=>∃(Q:List bi) (z:bi),c=Q++[z]/\¬bQ z y=true/\aa B h0 h' (ce s D::As)) ?_ ?_
  ·rw[<-O]at L k;refine al (fun e2=>?_) (fun e2=>⟨trivial,k (fun z T=>?_) L⟩)
   ·have I:c≠[]:=fun h=>by rw[h]at e2;simp at e2
    obtain⟨Q,z,n⟩:∃(Q:List bi) (z:bi),c=Q++[z]:=⟨c.dropLast,c.getLast I,(List.dropLast_concat_getLast I).symm⟩
    have ad:c.length=Q.length+1:=by rw[n];simp
    have g1:D[X.length+c.length]?=some y:=by
     rw[O,qg (by omega),show X.length+c.length-X.length=c.length by omega,qg (by omega),qZ];rfl
    have g2:D[X.length+c.length-1]?=some z:=by
     rw[O,qg (by omega),show X.length+c.length-1-X.length=Q.length by omega,n,qm,qg (qp _),qZ];rfl
    obtain⟨N,A⟩:=qk.1 g1;obtain⟨S,q⟩:=qk.1 g2;refine(L.seq 0 rfl fun _=>rfl).dE (g:=bD) _ rfl N y (by rw[A]) ?_;have Z:qc vW (((X.length+c.length:Nat):Int)-1)=((X.length+c.length-1:Nat):Int):=by rw[an _];omega
    rw[Z];refine(L.seq 0 rfl fun _=>rfl).dE (g:=bD) _ rfl S z (by rw[q]) (eZ (by rfl) ?_);refine(mE y z h2).mono ?_;rintro _ h3 ⟨rfl,R3⟩;have F:=L.up R3.ah;refine⟨_,rfl,trivial,al (fun V=>⟨Q,z,n,(nj y z).1 V,F⟩) fun V=>k (fun w m=>?_) F⟩;have o:bQ z y=true:=by
     by_cases hc:bQ z y=true
     ·exact hc
     ·exact absurd ((nj y z).2 hc) V
    rw[n]at m;rcases qH.1 m with m|m
    ·refine cV.trans _ _ _ ?_ o;have:Sd bQ (Q++[z]):=by rw[<-n];exact Sd.left (v:=d) (by rw[J];exact p)
     exact this.rB w m z (by simp)
    ·rw[qB.1 m];exact o
   ·have:c=[]:=by
     cases c with
     |nil=>rfl
     |cons x P=>exfalso;simp only[zi]at e2;omega
    rw[this]at T;cases T
  ·rintro _ h3 ⟨Q,z,n,o,F⟩;have ad:c.length=Q.length+1:=by rw[n];simp
   have r:D=(X++Q)++z::([]++y::(d++(M.drop (t+1+1)++Y))):=by rw[O,n];simp
   obtain⟨q1,q2,q3,q4⟩:=GV (X++Q) [] (d++(M.drop (t+1+1)++Y)) z y (i:=X.length+c.length-1) (j:=X.length+c.length) (by simp;omega) (by simp;omega);rw[<-r]at q1 q2 q3 q4;obtain⟨S,q⟩:=qk.1 q1;obtain⟨N,A⟩:=qk.1 q2;have Z:qc vW (((X.length+c.length:Nat):Int)-1)=((X.length+c.length-1:Nat):Int):=by rw[an _];omega
   rw[Z];refine(F.seq 0 rfl fun _=>rfl).dE (g:=bD) _ rfl S z (by rw[q]) ?_;refine(F.seq 0 rfl fun _=>rfl).dE (g:=bD) _ rfl N y (by rw[A]) ?_;refine F.set af 0 rfl (fun _=>rfl) rfl (X.length+c.length) rfl N z rfl rfl rfl fun h4 H4=>⟨trivial,?_⟩
   refine H4.set af 0 rfl (fun _=>rfl) rfl (X.length+c.length-1) rfl (by simpa using S) y rfl rfl rfl fun h5 H5=>⟨trivial,?_⟩
   refine⟨(Q,z::d),by dsimp only;congr 1;omega,⟨by dsimp only;rw[<-J,n];simp,?_,?_⟩,by dsimp only;omega⟩
   ·dsimp only;intro w m;rcases zj.1 m with rfl|m
    ·exact o
    ·exact f w m
   ·dsimp only;have:X++(Q++(y::(z::d++(M.drop (t+1+1)++Y))))=(X++Q)++y::([]++z::(d++(M.drop (t+1+1)++Y))):=by simp
    rw[this,<-q4];exact H5
 ·refine⟨rfl,P,p,?_,?_⟩
  ·rw[qi (by omega)]at E;exact E
  ·rw[zd (by omega)]at R;simpa using R
end
theorem BZ(x y:Nat)(h:x+y<=2^62:=by omega):qc vW (qL (qc vZ (qc vW ((x:Int)+(y:Int)))) (2^min (1:Int).toNat (qj vZ)))=(((x+y)/2:Nat):Int):=by
 rw[an ((x:Int)+y)];have e:qc vZ ((x:Int)+(y:Int))=(x:Int)+y:=by
  unfold qc;simp[qj,yp];omega
 rw[e,show min (1:Int).toNat (qj vZ)=1 from rfl,Int.fdiv_eq_ediv_of_nonneg _ (by decide),an _];omega
section
variable {B:ap} {h0 h h':Heap} {As:List HP} {s:Sl} {d:List bi}
theorem sB{x y:bi}(h:¬jz x y<0):bQ y x=true:=by
 by_cases a:bQ y x=true
 ·exact a
 ·exact absurd ((nj x y).2 a) h
theorem ir{K:bi->Prop}(H:aa B h0 h (ce s d::As)){i:Int}(n:Nat)(e:i=n){x:bi}(f:d[n]?=some x)(c:K x):
  ∃a:Addr,(s.ptr=some a/\0<=i/\i<((s.len:Nat):Int))/\∃x:bi,ai h (a.add (i.toNat*8)) 0 (bD x)/\K x:=by
 obtain⟨j,b⟩:=qk.1 f;exact(H.seq 0 rfl fun _=>rfl).dE (g:=bD) n e j x (by rw[b]) c
theorem GW(x:bi)(X R Y:List bi)(ad:X.length+1+R.length+Y.length<=2^40)(y:Sd bQ R)(H:aa B h0 h (ce s (X++(x::(R++Y)))::As)){K:ug}
  (f:∀h',(∃M,Sd bQ M/\bG bQ (x::R) M/\aa B h0 h' (ce s (X++(M++Y))::As))->K (.tuple #[]) h') (a m b:Int) (ha:a=(X.length:Int)) (hm:m=(X.length+1:Nat)) (hb:b=(X.length+1+R.length:Nat)):
  aN (σ:=Int×Int) (fun c K1 g=>
   Br (decide (c.1<c.2))
   ((0<=(1:Int))/\
   ∃a2:Addr,(s.ptr=some a2/\0<=(qc vW (qL (qc vZ (qc vW (c.1+c.2))) (2^min (1:Int).toNat (qj vZ))))/\(qc vW (qL (qc vZ (qc vW (c.1+c.2))) (2^min (1:Int).toNat (qj vZ))))<((s.len:Nat):Int))/\
   ∃x3:bi,ai g (a2.add ((qc vW (qL (qc vZ (qc vW (c.1+c.2))) (2^min (1:Int).toNat (qj vZ)))).toNat*8)) 0 (bD x3)/\
   ∃a4:Addr,(s.ptr=some a4/\0<=a/\a<((s.len:Nat):Int))/\
   ∃x5:bi,ai g (a4.add (a.toNat*8)) 0 (bD x5)/\
   gy C 165 ((#[]:Array Value).toList++[recv x3,recv x5]++(#[]:Array Value).toList) (.one (.sc (.int .i64))) g fun r6 n=>
   (aB.ok [] n)/\
   Br (decide (r6<(0:Int)))
   (K1 (qc vW ((qc vW (qL (qc vZ (qc vW (c.1+c.2))) (2^min (1:Int).toNat (qj vZ))))+(1:Int)),c.2) n)
   (K1 (c.1,qc vW (qL (qc vZ (qc vW (c.1+c.2))) (2^min (1:Int).toNat (qj vZ)))) n))
   (aN (σ:=Int) (fun d K2 h3=>
   Br (decide (d<(qc vW (c.1-(1:Int)))))
   (∃a8:Addr,(s.ptr=some a8/\0<=(qc vW (d+(1:Int)))/\(qc vW (d+(1:Int)))<((s.len:Nat):Int))/\
   ∃x9:bi,ai h3 (a8.add ((qc vW (d+(1:Int))).toNat*8)) 0 (bD x9)/\
   ∃r:Addr,(s.ptr=some r/\0<=d/\d<((s.len:Nat):Int))/\
   ∃I:bi,ai h3 (r.add (d.toNat*8)) 0 (bD I)/\
   ∃F:Addr,(s.ptr=some F/\0<=d/\d<((s.len:Nat):Int))/\
   ab xa (qe 119 (vS (some (F.add (d.toNat*8)))) (recv x9)) h3 fun _ S=>
   (aB.ok [] S)/\
   ∃L:Addr,(s.ptr=some L/\0<=(qc vW (d+(1:Int)))/\(qc vW (d+(1:Int)))<((s.len:Nat):Int))/\
   ab xa (qe 119 (vS (some (L.add ((qc vW (d+(1:Int))).toNat*8)))) (recv I)) S fun _ Z=>
   (aB.ok [] Z)/\
   K2 (qc vW (d+(1:Int))) Z)
   (K (.tuple #[]) h3)) a g)) (m,b) h:=by
 subst ha;subst hm;subst hb;refine az (fun t:Nat×Nat=>(((X.length+1+t.1:Nat):Int),((X.length+1+t.2:Nat):Int))) (fun t h'=>t.1<=t.2/\t.2<=R.length/\(∀k (f:k<R.length),k<t.1->¬bQ x R[k]=true)/\(∀k (f:k<R.length),t.2<=k->bQ x R[k]=true)/\aa B h0 h' (ce s (X++(x::(R++Y)))::As)) (fun t=>t.2-t.1) (0,R.length) rfl ⟨by simp,by simp,fun _ _ h=>by simp at h,fun _ g n=>absurd g (by simpa using n),H⟩ ?_;rintro⟨i,j⟩ g ⟨ax,hj,p,A,N⟩;dsimp only at*;refine al (fun e=>?_) (fun e=>?_)
 ·have o:i<j:=by omega
  rw[BZ _ _];have eh:((X.length+1+i)+(X.length+1+j))/2=X.length+1+(i+j)/2:=by omega
  rw[eh];have f:(i+j)/2<R.length:=by omega
  refine⟨by decide,ir N _ rfl (x:=R[(i+j)/2]) ?_ (ir N X.length rfl (x:=x) ?_ (eZ (by rfl) ?_))⟩
  ·rw[qg (by omega),show X.length+1+(i+j)/2-X.length=(i+j)/2+1 by omega,qo,ql f,qd f]
  ·rw[qg (qp _),qZ];rfl
  refine(mE R[(i+j)/2] x g).mono ?_;rintro _ n ⟨rfl,R2⟩;have H2:=N.up R2.ah;refine⟨_,rfl,trivial,al (fun e2=>?_) (fun e2=>?_)⟩
  ·have W:=(nj _ _).1 e2;refine⟨((i+j)/2+1,j),by dsimp only;rw[an _];rfl,⟨by dsimp only;omega,hj,fun k G T=>?_,A,H2⟩,by dsimp only;omega⟩;intro hc;exact W (cV.trans _ _ _ hc (y.at_ cV (i:=k) (j:=(i+j)/2) (by dsimp only at T;omega) f))
  ·refine⟨(i,(i+j)/2),rfl,⟨by dsimp only;omega,by dsimp only;omega,p,fun k G V=>?_,H2⟩,by dsimp only;omega⟩;exact cV.trans _ _ _ (sB e2) (y.at_ cV (by dsimp only at V;omega) G)
 ·have o:i=j:=by omega
  subst o;have hM:Sd bQ (R.take i++x::R.drop i):=by
   refine Sd.app cV (Sd.left (v:=R.drop i) (by rw[qA];exact y)) (zF.2 ⟨fun z J=>?_,Sd.right (u:=R.take i) (by rw[qA];exact y)⟩) fun z J w D=>?_
   ·obtain⟨k,f,rfl⟩:=qN J;rw[wA];exact A _ _ (by omega)
   ·obtain⟨k,f,rfl⟩:=qN J;rw[yK];have Q:k<i:=by simp at f;omega
    have g:=cV.sO (p k (by simp at f;omega) Q);rcases zj.1 D with rfl|D
    ·exact g
    ·obtain⟨l,hl,rfl⟩:=qN D;rw[wA];exact y.at_ cV (by omega) (by simp at hl;omega)
  have hE:bG bQ (x::R) (R.take i++x::R.drop i):=by
   have g:bG bQ ([x]++R.take i) (R.take i++[x]):=bG.NM cV fun z J w D=>by
    rw[qB.1 J];obtain⟨k,f,rfl⟩:=qN D;rw[yK];exact p k (by simp at f;omega) (by simp at f;omega)
   have n:=g.app (bG.refl (le:=bQ) (R.drop i));have e1:([x]++R.take i)++R.drop i=x::R:=by rw[qm,qA];rfl
   have e2:(R.take i++[x])++R.drop i=R.take i++x::R.drop i:=by simp
   rw[e1,e2]at n;exact n
  have el:qc vW (((X.length+1+i:Nat):Int)-1)=((X.length+i:Nat):Int):=by rw[an _];omega
  rw[el];refine az (fun t:Nat=>((X.length+t:Nat):Int)) (fun t h'=>t<=i/\aa B h0 h' (ce s (X++(R.take t++(x::(R.drop t++Y))))::As)) (fun t=>i-t) 0 rfl ⟨by omega,by simpa using N⟩ ?_;rintro t h3 ⟨ht,O⟩;refine al (fun e2=>?_) (fun e2=>?_)
  ·have am:t<i:=by omega
   have E:t<R.length:=by omega
   have q:X++(R.take t++(x::(R.drop t++Y)))=(X++R.take t)++x::([]++R[t]::(R.drop (t+1)++Y)):=by rw[qS E];simp only[qm,zk,zW]
   obtain⟨U,P,q3,q4⟩:=GV (X++R.take t) [] (R.drop (t+1)++Y) x R[t] (i:=X.length+t) (j:=X.length+t+1) (by simp;omega) (by simp;omega);rw[<-q]at U P q3 q4;have ek:qc vW (((X.length+t:Nat):Int)+1)=((X.length+t+1:Nat):Int):=by rw[an _];omega
   rw[ek];refine ir O _ rfl P (ir O _ rfl U ?_);refine O.set af 0 rfl (fun _=>rfl) rfl (X.length+t) rfl (qk.1 U).1 R[t] rfl rfl rfl fun S H4=>⟨trivial,?_⟩
   refine H4.set af 0 rfl (fun _=>rfl) rfl (X.length+t+1) rfl (by rw[zy];exact(qk.1 P).1) x rfl rfl rfl fun Z H5=>⟨trivial,?_⟩
   refine⟨t+1,rfl,⟨by omega,?_⟩,by omega⟩;have e3:X++(R.take (t+1)++(x::(R.drop (t+1)++Y)))=(X++R.take t)++R[t]::([]++x::(R.drop (t+1)++Y)):=by rw[aK R t E];simp only[qm,zk,zW]
   rw[e3,<-q3];exact H5
  ·have:t=i:=by omega
   subst this;refine f h3 ⟨R.take t++x::R.drop t,hM,hE,?_⟩;have:X++((R.take t++x::R.drop t)++Y)=X++(R.take t++(x::(R.drop t++Y))):=by simp
   rw[this];exact O
end
section
variable {B:ap} {h0 h h':Heap} {As:List HP} {s:Sl} {d:List bi}
theorem Fy(y:bi)(X L Y:List bi)(a1:X.length+L.length+1+Y.length<=2^40)(q:Sd bQ L)(H:aa B h0 h (ce s (X++(L++(y::Y)))::As)){K:ug}
  (d:∀h',(∃M,Sd bQ M/\bG bQ (L++[y]) M/\aa B h0 h' (ce s (X++(M++Y))::As))->K (.tuple #[]) h') (a m:Int) (ha:a=(X.length:Int)) (hm:m=(X.length+L.length:Nat)):
  aN (σ:=Int×Int) (fun b K3 V=>
   Br (decide (b.1<b.2))
   ((0<=(1:Int))/\
   ∃S:Addr,(s.ptr=some S/\0<=m/\m<((s.len:Nat):Int))/\
   ∃J:bi,ai V (S.add (m.toNat*8)) 0 (bD J)/\
   ∃T:Addr,(s.ptr=some T/\0<=(qc vW (qL (qc vZ (qc vW (b.1+b.2))) (2^min (1:Int).toNat (qj vZ))))/\(qc vW (qL (qc vZ (qc vW (b.1+b.2))) (2^min (1:Int).toNat (qj vZ))))<((s.len:Nat):Int))/\
   ∃G:bi,ai V (T.add ((qc vW (qL (qc vZ (qc vW (b.1+b.2))) (2^min (1:Int).toNat (qj vZ)))).toNat*8)) 0 (bD G)/\
   gy C 165 ((#[]:Array Value).toList++[recv J,recv G]++(#[]:Array Value).toList) (.one (.sc (.int .i64))) V fun am h7=>
   (aB.ok [] h7)/\
   Br (!(decide (am<(0:Int))))
   (K3 (qc vW ((qc vW (qL (qc vZ (qc vW (b.1+b.2))) (2^min (1:Int).toNat (qj vZ))))+(1:Int)),b.2) h7)
   (K3 (b.1,qc vW (qL (qc vZ (qc vW (b.1+b.2))) (2^min (1:Int).toNat (qj vZ)))) h7))
   (aN (σ:=Int) (fun c K4 h8=>
   Br (decide (c>b.1))
   (∃P:Addr,(s.ptr=some P/\0<=(qc vW (c-(1:Int)))/\(qc vW (c-(1:Int)))<((s.len:Nat):Int))/\
   ∃O:bi,ai h8 (P.add ((qc vW (c-(1:Int))).toNat*8)) 0 (bD O)/\
   ∃A:Addr,(s.ptr=some A/\0<=c/\c<((s.len:Nat):Int))/\
   ∃N:bi,ai h8 (A.add (c.toNat*8)) 0 (bD N)/\
   ∃a25:Addr,(s.ptr=some a25/\0<=c/\c<((s.len:Nat):Int))/\
   ab xa (qe 119 (vS (some (a25.add (c.toNat*8)))) (recv O)) h8 fun _ h9=>
   (aB.ok [] h9)/\
   ∃E:Addr,(s.ptr=some E/\0<=(qc vW (c-(1:Int)))/\(qc vW (c-(1:Int)))<((s.len:Nat):Int))/\
   ab xa (qe 119 (vS (some (E.add ((qc vW (c-(1:Int))).toNat*8)))) (recv N)) h9 fun _ F=>
   (aB.ok [] F)/\
   K4 (qc vW (c-(1:Int))) F)
   (K (.tuple #[]) h8)) m V)) (a,m) h:=by
 subst ha;subst hm;refine az (fun t:Nat×Nat=>(((X.length+t.1:Nat):Int),((X.length+t.2:Nat):Int))) (fun t h'=>t.1<=t.2/\t.2<=L.length/\(∀k (d:k<L.length),k<t.1->bQ L[k] y=true)/\(∀k (d:k<L.length),t.2<=k->¬bQ L[k] y=true)/\aa B h0 h' (ce s (X++(L++(y::Y)))::As)) (fun t=>t.2-t.1) (0,L.length) rfl ⟨by simp,by simp,fun _ _ h=>by simp at h,fun _ o Q=>absurd o (by simpa using Q),H⟩ ?_;rintro⟨i,j⟩ o ⟨a2,hj,p,n,W⟩;dsimp only at*;refine al (fun e=>?_) (fun e=>?_)
 ·have f:i<j:=by omega
  rw[BZ _ _];have eh:((X.length+i)+(X.length+j))/2=X.length+(i+j)/2:=by omega
  rw[eh];have d:(i+j)/2<L.length:=by omega
  refine⟨by decide,ir W (X.length+L.length) rfl (x:=y) ?_ (ir W _ rfl (x:=L[(i+j)/2]) ?_ (eZ (by rfl) ?_))⟩
  ·rw[qg (by omega),show X.length+L.length-X.length=L.length by omega,qg (qp _),qZ];rfl
  ·rw[qg (by omega),show X.length+(i+j)/2-X.length=(i+j)/2 by omega,ql d,qd d]
  refine(mE y L[(i+j)/2] o).mono ?_;rintro _ Q ⟨rfl,R2⟩;have H2:=W.up R2.ah;refine⟨_,rfl,trivial,?_⟩;by_cases e2:jz y L[(i+j)/2]<0
  ·have a0:=(nj _ _).1 e2;refine aW (fun r=>absurd r (by simpa using e2)) fun _=>?_;refine⟨(i,(i+j)/2),rfl,⟨by dsimp only;omega,by dsimp only;omega,p,fun k R ay=>?_,H2⟩,by dsimp only;omega⟩;intro hc;exact a0 (cV.trans _ _ _ (q.at_ cV (i:=(i+j)/2) (j:=k) (by dsimp only at ay;omega) R) hc)
  ·refine aW (fun _=>?_) fun r=>absurd r (by simpa using e2);refine⟨((i+j)/2+1,j),by dsimp only;rw[an _];rfl,⟨by dsimp only;omega,hj,fun k R ax=>?_,n,H2⟩,by dsimp only;omega⟩;exact cV.trans _ _ _ (q.at_ cV (by dsimp only at ax;omega) d) (sB e2)
 ·have f:i=j:=by omega
  subst f;have hM:Sd bQ (L.take i++y::L.drop i):=by
   refine Sd.app cV (Sd.left (v:=L.drop i) (by rw[qA];exact q)) (zF.2 ⟨fun z U=>?_,Sd.right (u:=L.take i) (by rw[qA];exact q)⟩) fun z U w I=>?_
   ·obtain⟨k,d,rfl⟩:=qN U;rw[wA];exact cV.sO (n _ (by simp at d;omega) (by omega))
   ·obtain⟨k,d,rfl⟩:=qN U;rw[yK];have ad:k<i:=by simp at d;omega
    have o:=p k (by simp at d;omega) ad;rcases zj.1 I with rfl|I
    ·exact o
    ·obtain⟨l,hl,rfl⟩:=qN I;rw[wA];exact q.at_ cV (by omega) (by simp at hl;omega)
  have hE:bG bQ (L++[y]) (L.take i++y::L.drop i):=by
   have o:bG bQ (L.drop i++[y]) ([y]++L.drop i):=bG.NM cV fun z U w I=>by
    rw[qB.1 I];obtain⟨k,d,rfl⟩:=qN U;rw[wA];exact n _ (by simp at d;omega) (by omega)
   have Q:=(bG.refl (le:=bQ) (L.take i)).app o;have e1:L.take i++(L.drop i++[y])=L++[y]:=by rw[<-qm,qA]
   rw[e1]at Q;exact Q
  refine az (fun t:Nat=>((X.length+t:Nat):Int)) (fun t h'=>i<=t/\t<=L.length/\aa B h0 h' (ce s (X++(L.take t++(y::(L.drop t++Y))))::As)) (fun t=>t-i) L.length rfl ⟨by omega,by omega,by simpa using W⟩ ?_;rintro t h3 ⟨ht,a3,Z⟩;refine al (fun e2=>?_) (fun e2=>?_)
  ·obtain⟨u,rfl⟩:∃u,t=u+1:=⟨t-1,by omega⟩
   have D:u<L.length:=by omega
   have g:X++(L.take (u+1)++(y::(L.drop (u+1)++Y)))=(X++L.take u)++L[u]::([]++y::(L.drop (u+1)++Y)):=by rw[aK L u D];simp only[qm,zk,zW]
   obtain⟨q1,q2,q3,q4⟩:=GV (X++L.take u) [] (L.drop (u+1)++Y) L[u] y (i:=X.length+u) (j:=X.length+(u+1)) (by simp;omega) (by simp;omega);rw[<-g]at q1 q2 q3 q4;have ek:qc vW (((X.length+(u+1):Nat):Int)-1)=((X.length+u:Nat):Int):=by rw[an _];omega
   rw[ek];refine ir Z _ rfl q1 (ir Z _ rfl q2 ?_);refine Z.set af 0 rfl (fun _=>rfl) rfl (X.length+(u+1)) rfl (qk.1 q2).1 L[u] rfl rfl rfl fun h4 H4=>⟨trivial,?_⟩
   refine H4.set af 0 rfl (fun _=>rfl) rfl (X.length+u) rfl (by rw[zy];exact(qk.1 q1).1) y rfl rfl rfl fun h5 H5=>⟨trivial,?_⟩
   refine⟨u,rfl,⟨by omega,by omega,?_⟩,by omega⟩;have r:X++(L.take u++(y::(L.drop u++Y)))=(X++L.take u)++y::([]++L[u]::(L.drop (u+1)++Y)):=by rw[qS D];simp only[qm,zk,zW]
   rw[r,<-q4];exact H5
  ·have:t=i:=by omega
   subst this;refine d h3 ⟨L.take t++y::L.drop t,hM,hE,?_⟩;have:X++((L.take t++y::L.drop t)++Y)=X++(L.take t++(y::(L.drop t++Y))):=by simp
   rw[this];exact Z
end
end Go.Qw
namespace Wl
open Go Go.Vc
theorem Ry{L R:List bi}(k:Sd bQ L)(h:Sd bQ R)(p q:Nat)(s:p<=L.length)(r:q<=R.length)
  (o:∀i j (d:i<L.length) (c:j<R.length),i+1=p->j=q->bQ L[i] R[j]=true)
  (n:∀i j (d:i<L.length) (c:j<R.length),i=p->j+1=q->¬bQ L[i] R[j]=true):
  (∀x∈L.take p,∀y∈R.drop q,bQ x y=true)/\(∀x∈L.drop p,∀y∈R.take q,¬bQ x y=true):=by
 constructor
 ·intro x e y f;obtain⟨i,d,rfl⟩:=qN e;obtain⟨j,c,rfl⟩:=qN f;rw[yK,wA];have b:i<p:=by simp at d;omega
  have a:q+j<R.length:=by simp at c;omega
  have g:=k.at_ cV (i:=i) (j:=p-1) (by omega) (by omega);have m:=o (p-1) q (by omega) (by omega) (by omega) rfl;have h3:=h.at_ cV (i:=q) (j:=q+j) (by omega) a;exact cV.trans _ _ _ g (cV.trans _ _ _ m h3)
 ·intro x e y f l;obtain⟨i,d,rfl⟩:=qN e;obtain⟨j,c,rfl⟩:=qN f;rw[yK,wA]at l;have a:j<q:=by simp at c;omega
  have b:p+i<L.length:=by simp at d;omega
  have g:=k.at_ cV (i:=p) (j:=p+i) (by omega) b;have h3:=h.at_ cV (i:=j) (j:=q-1) (by omega) (by omega);exact n p (q-1) (by omega) (by omega) rfl (by omega) (cV.trans _ _ _ g (cV.trans _ _ _ l h3))
end Wl
namespace Go.Qw
open Go Go.Vc Go.Proofs Wl
theorem xw:∀(N:Nat) {B:ap} {h0 h:Heap} {As:List HP} {s:Sl} (X L R Y:List bi) (a m b:Int),0<L.length->0<R.length->L.length+R.length<=N->a=(X.length:Int)->m=(X.length+L.length:Nat)->b=(X.length+L.length+R.length:Nat)->X.length+L.length+R.length+Y.length<=2^40->Sd bQ L->Sd bQ R->
  aa B h0 h (ce s (X++(L++(R++Y)))::As)->
  ac xa 239 #[s,vQ vW a,vQ vW m,vQ vW b,.func (.func 165) #[] #[]] h fun v h'=>v=.tuple #[]/\∃M,Sd bQ M/\bG bQ (L++R) M/\aa B h0 h' (ce s (X++(M++Y))::As):=by
 intro N
 induction N with
 |zero=>intro B h0 h As s X L R Y a m b hL hR hN;omega
 |succ N ih=>
  intro B h0 h As s X L R Y a m b hL hR hN ha hm hb T W S H;refine kb s a m b (165,#[],#[]) ?_;unfold gi;have e1:qc vW (m-a)=(L.length:Int):=by rw[an _];omega
  have e2:qc vW (b-m)=(R.length:Int):=by rw[an _];omega
  rw[e1,e2];refine dN (fun c=>?_) fun c=>dN (fun c2=>?_) fun c2=>?_
  ·obtain⟨x,hx⟩:∃x,L=[x]:=by
    match L,hL,c with
    |[x],_,_=>exact⟨x,rfl⟩
    |x::y::L,_,c=>simp at c;omega
   subst hx;exact GW (K:=fun v h'=>v=.tuple #[]/\∃M,Sd bQ M/\bG bQ ([x]++R) M/\aa B h0 h' (ce s (X++(M++Y))::As)) x X R Y (by simp at T⊢;omega) S H (fun h' ⟨M,q1,P,Z⟩=>⟨rfl,M,q1,P,Z⟩) a m b ha (by rw[hm];simp) (by rw[hb];simp)
  ·obtain⟨y,hy⟩:∃y,R=[y]:=by
    match R,hR,c2 with
    |[x],_,_=>exact⟨x,rfl⟩
    |x::y::L,_,c=>simp at c;omega
   subst hy;exact Fy (K:=fun v h'=>v=.tuple #[]/\∃M,Sd bQ M/\bG bQ (L++[y]) M/\aa B h0 h' (ce s (X++(M++Y))::As)) y X L Y (by simp at T⊢;omega) W H (fun h' ⟨M,q1,P,Z⟩=>⟨rfl,M,q1,P,Z⟩) a m ha hm
  ·refine⟨by decide,?_⟩;subst ha;subst hm;subst hb;have c':L.length≠1:=fun F=>c (by omega);have cd:R.length≠1:=fun F=>c2 (by omega);rw[BZ X.length (X.length+L.length+R.length)];obtain⟨vw,ad⟩:∃vw,vw=(X.length+(X.length+L.length+R.length))/2:=⟨_,rfl⟩
   rw[<-ad];have en:qc vW ((vw:Int)+((X.length+L.length:Nat):Int))=((vw+(X.length+L.length):Nat):Int):=by rw[an _];omega
   rw[en];obtain⟨n,hn⟩:∃n,n=vw+(X.length+L.length):=⟨_,rfl⟩
   rw[<-hn];have ep:qc vW ((n:Int)-1)=((n-1:Nat):Int):=by rw[an _];omega
   rw[ep];obtain⟨D,hD⟩:∃D,D=X++(L++(R++Y)):=⟨_,rfl⟩
   have gL:∀i (f:i<L.length),D[X.length+i]?=some L[i]:=fun i f=>by
    rw[hD,qg (by omega),zg,ql f,qd f]
   have gR:∀i (f:i<R.length),D[X.length+L.length+i]?=some R[i]:=fun i f=>by
    rw[hD,qg (by omega),show X.length+L.length+i-X.length=L.length+i by omega,qg (by omega),zg,ql f,qd f]
   rw[<-hD]at H;refine cv (fun(g:Int×Int) h'=>h'=h/\∃o f:Nat,g=((o:Int),(f:Int))/\o<=f/\X.length<=o/\f<=X.length+L.length/\f<=vw/\n<=o+(X.length+L.length+R.length)/\(o=X.length∨n=o+(X.length+L.length+R.length))/\(f=X.length+L.length∨f=vw)) ?_ ?_
   ·refine al (fun e=>⟨rfl,n-(X.length+L.length+R.length),vw,?_,by omega,by omega,by omega,by omega,by omega,by omega,by omega⟩) fun e=>⟨rfl,X.length,X.length+L.length,rfl,by omega,by omega,by omega,by omega,by omega,by omega,by omega⟩
    have:qc vW ((n:Int)-((X.length+L.length+R.length:Nat):Int))=((n-(X.length+L.length+R.length):Nat):Int):=by rw[an _];omega
    rw[this]
   ·rintro⟨b0,b9⟩ _ ⟨rfl,o,f,a8,b1,b2,b3,b4,b5,b6,b7⟩;injection a8 with est1 est2
    subst est1;subst est2;dsimp only;refine az (fun t:Nat×Nat=>((t.1:Int),(t.2:Int))) (fun t h'=>o<=t.1/\t.1<=t.2/\t.2<=f/\
     (∀i j (l:i<L.length) (hj:j<R.length),X.length+i+1=t.1->X.length+i+(X.length+L.length+j)=n-1->o<t.1->bQ L[i] R[j]=true)/\
     (∀i j (l:i<L.length) (hj:j<R.length),X.length+i=t.2->X.length+i+(X.length+L.length+j)=n-1->t.2<f->¬bQ L[i] R[j]=true)/\
     aa B h0 h' (ce s D::As)) (fun t=>t.2-t.1) (o,f) rfl ⟨by simp,by simpa using b1,by simp,fun _ _ _ _ _ _ E=>absurd E (by simp),fun _ _ _ _ _ _ E=>absurd E (by simp),H⟩ ?_
    rintro⟨g,r⟩ h1 ⟨t1,t2,t3,F1,F2,H1⟩;dsimp only at*;refine al (fun e=>?_) (fun e=>?_)
    ·have E:g<r:=by omega
     rw[BZ _ _];obtain⟨G,bd⟩:∃G,G=(g+r)/2:=⟨_,rfl⟩
     rw[<-bd];have a5:qc vW (((n-1:Nat):Int)-(G:Int))=((n-1-G:Nat):Int):=by rw[an _];omega
     rw[a5];obtain⟨i,l⟩:∃i,G=X.length+i:=⟨G-X.length,by omega⟩
     obtain⟨j,bk⟩:∃j,n-1-G=X.length+L.length+j:=⟨n-1-G-(X.length+L.length),by omega⟩
     have br:i<L.length:=by omega
     have a4:j<R.length:=by omega
     rw[bk,l];refine⟨by decide,ir H1 _ rfl (gR j a4) (ir H1 _ rfl (gL i br) (eZ (by rfl) ?_))⟩;refine(mE R[j] L[i] h1).mono ?_;rintro _ h2 ⟨rfl,R2⟩;have I:=H1.up R2.ah;refine⟨_,rfl,trivial,?_⟩;by_cases e2:jz R[j] L[i]<0
     ·have bw:=(nj _ _).1 e2;refine aW (fun e3=>absurd e3 (by simpa using e2)) fun _=>?_;refine⟨(g,X.length+i),rfl,⟨t1,by dsimp only;omega,by dsimp only;omega,F1,fun i2 j2 ay a3 w A _=>?_,I⟩,by dsimp only;omega⟩;dsimp only at w;have:i2=i:=by omega
      subst this;have:j2=j:=by omega
      subst this;exact bw
     ·refine aW (fun _=>?_) fun e3=>absurd e3 (by simpa using e2);refine⟨(X.length+i+1,r),by dsimp only;rw[an _];rfl,⟨by dsimp only;omega,by dsimp only;omega,t3,fun i2 j2 ay a3 w A _=>?_,F2,I⟩,by dsimp only;omega⟩;dsimp only at w;have:i2=i:=by omega
      subst this;have:j2=j:=by omega
      subst this;exact sB e2
    ·have bl:g=r:=by omega
     subst bl;have a9:qc vW ((n:Int)-(g:Int))=((n-g:Nat):Int):=by rw[an _];omega
     rw[a9];obtain⟨p,hp⟩:∃p,g=X.length+p:=⟨g-X.length,by omega⟩
     obtain⟨q,hq⟩:∃q,n-g=X.length+L.length+q:=⟨n-g-(X.length+L.length),by omega⟩
     have a2:p<=L.length:=by omega
     have ax:q<=R.length:=by omega
     obtain⟨a0,bb⟩:=Ry W S p q a2 ax (fun i j l hj w A=>F1 i j l hj (by omega) (by omega) (by
      by_cases a1:o<g
      ·exact a1
      ·exfalso;have:g=o:=by omega
       omega)) (fun i j l hj w A=>F2 i j l hj (by omega) (by omega) (by
      by_cases a6:g<f
      ·exact a6
      ·exfalso;have:g=f:=by omega
       omega))
     have eL:L.take p++L.drop p=L:=qA _ _;have eR:R.take q++R.drop q=R:=qA _ _;have l1:(L.take p).length=p:=by simp;omega
     have l2:(L.drop p).length=L.length-p:=by simp
     have r1:(R.take q).length=q:=by simp;omega
     have r2:(R.drop q).length=R.length-q:=by simp
     have Q:Sd bQ (L.take p):=Sd.left (v:=L.drop p) (by rw[eL];exact W);have U:Sd bQ (L.drop p):=Sd.right (u:=L.take p) (by rw[eL];exact W);have am:Sd bQ (R.take q):=Sd.left (v:=R.drop q) (by rw[eR];exact S);have V:Sd bQ (R.drop q):=Sd.right (u:=R.take q) (by rw[eR];exact S);rw[hq,hp];refine cv (fun _ h'=>aa B h0 h' (ce s (X++(L.take p++(R.take q++(L.drop p++(R.drop q++Y)))))::As)) ?_ ?_
     ·have z:aa B h0 h1 (ce s ((X++L.take p)++(L.drop p++(R.take q++(R.drop q++Y))))::As):=by
       have:(X++L.take p)++(L.drop p++(R.take q++(R.drop q++Y)))=D:=by
        rw[hD]
        conv=>rhs;rw[<-eL,<-eR]
        simp only[qm,zk,zW]
       rw[this];exact H1
      refine al (fun w=>al (fun A=>?_) fun A=>?_) fun w=>?_
      ·refine(MO (X++L.take p) (L.drop p) (R.take q) (R.drop q++Y) _ _ _ (by omega) (by omega) (by simp;omega) (by simp;omega) (by simp;omega) (by simp;omega) z).mono ?_;rintro _ h2 ⟨rfl,I⟩;refine⟨(),rfl,?_⟩;rw[qm]at I;exact I
      ·have:R.take q=[]:=qK (by omega);rw[this]at z⊢;simpa using z
      ·have:L.drop p=[]:=qK (by omega);rw[this]at z⊢;simpa using z
     ·rintro _ h2 I;refine cv (fun _ h'=>∃k,Sd bQ k/\bG bQ (L.take p++R.take q) k/\k.length=p+q/\aa B h0 h' (ce s (X++(k++(L.drop p++(R.drop q++Y))))::As)) ?_ ?_
      ·have d:(L.take p=[]∨R.take q=[])->∃k,Sd bQ k/\bG bQ (L.take p++R.take q) k/\k.length=p+q/\aa B h0 h2 (ce s (X++(k++(L.drop p++(R.drop q++Y))))::As):=fun J=>by
        refine⟨L.take p++R.take q,?_,bG.refl _,by simp;omega,by rw[qm];exact I⟩;rcases J with F|F
        ·rw[F];exact am
        ·rw[F,qM];exact Q
       refine al (fun w=>al (fun A=>?_) fun A=>d (.inr (qK (by omega)))) fun w=>d (.inl (qK (by omega)));refine(ih X (L.take p) (R.take q) (L.drop p++(R.drop q++Y)) _ _ _ (by omega) (by omega) (by omega) rfl (by rw[l1]) (by rw[l1,r1];omega) (by simp;omega) Q am I).mono ?_;rintro _ h3 ⟨rfl,k,q1,P,Z⟩;refine⟨(),rfl,k,q1,P,?_,Z⟩;have O:=oZ cV P;rw[<-O];simp;omega
      ·rintro _ h3 ⟨k,m1,m2,m3,H3⟩;have fin:∀{h':Heap} {M2:List bi},Sd bQ M2->bG bQ (L.drop p++R.drop q) M2->aa B h0 h' (ce s (X++(k++(M2++Y)))::As)->(Value.tuple #[]=.tuple #[]/\∃M,Sd bQ M/\bG bQ (L++R) M/\aa B h0 h' (ce s (X++(M++Y))::As)):=fun{h' M2} k1 k2 k3=>by
        obtain⟨f1,f2⟩:=QQ cV (by rw[eL];exact W) (by rw[eR];exact S) a0 bb m2 m1 k2 k1;rw[eL,eR]at f2;exact⟨rfl,k++M2,f1,f2,by rw[qm];exact k3⟩
       have d:(L.drop p=[]∨R.drop q=[])->(Value.tuple #[]=.tuple #[]/\∃M,Sd bQ M/\bG bQ (L++R) M/\aa B h0 h3 (ce s (X++(M++Y))::As)):=fun J=>by
        refine fin (M2:=L.drop p++R.drop q) ?_ (bG.refl _) (by rw[qm];exact H3);rcases J with F|F
        ·rw[F];exact V
        ·rw[F,qM];exact U
       refine al (fun w=>al (fun A=>?_) fun A=>d (.inr (qK (by omega)))) fun w=>d (.inl (qK (by omega)));have a7:aa B h0 h3 (ce s ((X++k)++(L.drop p++(R.drop q++Y)))::As):=by rw[qm];exact H3
       refine(ih (X++k) (L.drop p) (R.drop q) Y _ _ _ (by omega) (by omega) (by omega) (by simp;omega) (by simp;omega) (by simp;omega) (by simp;omega) U V a7).mono ?_;rintro _ h4 ⟨rfl,M2,k1,k2,k3⟩;refine⟨(),rfl,fin k1 k2 (by rw[qm]at k3;exact k3)⟩
end Go.Qw
namespace Wl
open Go Go.Vc
def Bs(k:Nat)(l:List bi):Prop:=∀q,Sd bQ ((l.drop (q*k)).take k)
theorem Bs.nil(k:Nat):Bs k []:=fun q=>by simp[Sd]
theorem Bs.first{k:Nat}{l:List bi}(h:Bs k l):Sd bQ (l.take k):=by have:=h 0;simpa using this
theorem Bs.rest{k:Nat}{l:List bi}(h:Bs k l):Bs k (l.drop k):=fun q=>by
 have:=h (q+1);rw[zq,show k+q*k=(q+1)*k by rw[zU,Nat.add_comm]];exact this
theorem Bs.snoc{k t:Nat}{l M:List bi}(h:Bs k l)(d:l.length=t*k)(b:Sd bQ M)(c:M.length<=k):Bs k (l++M):=fun q=>by
 rcases Nat.lt_trichotomy q t with hq|hq|hq
 ·have a:(q+1)*k<=t*k:=zm _ hq;rw[zU]at a;rw[List.drop_append_of_le_length (by omega),yy (by rw[qV];omega)];exact h q
 ·subst hq;rw[<-d,List.drop_left,qi c];exact b
 ·have a:(t+1)*k<=q*k:=zm _ hq;rw[zU]at a;rw[zd (by rw[qw];omega)];simp[Sd]
theorem Bs.whole{k:Nat}{l:List bi}(h:Bs k l)(a:l.length<=k):Sd bQ l:=by
 have:=h.first;rw[qi a]at this;exact this
end Wl
namespace Go.Qw
open Go Go.Vc Go.Proofs Wl
section
variable {B:ap} {h0 h h':Heap} {As:List HP} {s:Sl} {d:List bi}
theorem MP(d:List bi)(n:Int)(hn:n=d.length)(hd:d.length<=2^30)(H:aa B h0 h (ce s d::As)):
  ac xa 214 #[s,vQ vW n,.func (.func 165) #[] #[]] h fun v h'=>v=.tuple #[]/\aa B h0 h' (ce s (d.mergeSort bQ)::As):=by
 subst hn;refine kD s d.length (165,#[],#[]) ?_;unfold gT;refine az (fun P:List bi=>((P.length:Int),((P.length+20:Nat):Int))) (fun P h'=>P.length<=d.length/\(∃t,P.length=t*20)/\Bs 20 P/\bG bQ (d.take P.length) P/\aa B h0 h' (ce s (P++d.drop P.length)::As)) (fun P=>d.length-P.length) [] rfl ⟨by simp,⟨0,by simp⟩,Bs.nil _,by simpa using bG.refl _,by simpa using H⟩ ?_;rintro P h1 ⟨hP,⟨t,N⟩,X,W,O⟩;dsimp only;refine al (fun e=>?_) (fun e=>?_)
 ·have a1:P.length+20<=d.length:=by omega
  have eY:(d.drop P.length).take 20++d.drop (P.length+20)=d.drop P.length:=by
   rw[<-zq];exact qA _ _
  have Z:((d.drop P.length).take 20).length=20:=by simp;omega
  rw[<-eY]at O;refine(tE P ((d.drop P.length).take 20) (d.drop (P.length+20)) _ _ rfl (by rw[Z]) (by simp;omega) O).mono ?_;rintro _ h2 ⟨rfl,i,j,b,H2⟩;have A:i.length=20:=by rw[<-oZ cV b,Z]
  have f:(P++i).length=P.length+20:=by rw[qw,A]
  refine⟨(),rfl,P++i,?_,⟨by omega,⟨t+1,by rw[f,N,zU]⟩,X.snoc N j (by omega),?_,?_⟩,by omega⟩
  ·rw[f,an _];congr 1
  ·rw[f];have:d.take (P.length+20)=d.take P.length++(d.drop P.length).take 20:=by rw[List.take_add]
   rw[this];exact W.app b
  ·rw[f,qm];exact H2
 ·have U:aa B h0 h1 (ce s (P++(d.drop P.length++[]))::As):=by rw[qM];exact O
  refine(tE P (d.drop P.length) [] _ _ rfl (by rw[qV];omega) (by simp;omega) U).mono ?_;rintro _ h3 ⟨rfl,i,j,b,Y⟩;have A:i.length=d.length-P.length:=by rw[<-oZ cV b,qV]
  have I:Bs 20 (P++i):=X.snoc N j (by omega);have c:bG bQ d (P++i):=by
   have:=W.app b;rw[qA]at this;exact this
  refine⟨(),rfl,?_⟩;refine az (fun t:Nat×List bi=>(t.1:Int)) (fun t h'=>0<t.1/\t.1<=2^32/\t.2.length=d.length/\Bs t.1 t.2/\bG bQ d t.2/\aa B h0 h' (ce s t.2::As)) (fun t=>2^32-t.1) (20,P++i) rfl ⟨by dsimp only;omega,by dsimp only;omega,by dsimp only;rw[qw];omega,I,c,by rw[qM]at Y;exact Y⟩ ?_;rintro⟨k,l⟩ h4 ⟨ad,hk,hl,V,w,R⟩;dsimp only at*;refine al (fun e2=>?_) (fun e2=>?_)
  ·have ax:k<d.length:=by omega
   have S:qc vW ((2:Int)*k)=((2*k:Nat):Int):=by rw[an _];omega
   have K:qc vW ((k:Int)*2)=((2*k:Nat):Int):=by rw[an _];omega
   rw[S];have next:∀{h':Heap} (q:List bi),q.length=d.length->Bs (2*k) q->bG bQ l q->aa B h0 h' (ce s q::As)->∃g:Nat×List bi,qc vW ((k:Int)*2)=(g.1:Int)/\(0<g.1/\g.1<=2^32/\g.2.length=d.length/\Bs g.1 g.2/\bG bQ d g.2/\aa B h0 h' (ce s g.2::As))/\2^32-g.1<2^32-k:=fun{h'} q q1 q2 q3 q4=>
    ⟨(2*k,q),K,⟨by dsimp only;omega,by dsimp only;omega,q1,q2,w.trans q3,q4⟩,by dsimp only;omega⟩
   refine az (fun t:List bi×List bi=>((t.1.length:Int),((t.1.length+2*k:Nat):Int))) (fun t h'=>(∃u,t.1.length=u*(2*k))/\t.1.length+t.2.length=d.length/\Bs (2*k) t.1/\Bs k t.2/\bG bQ l (t.1++t.2)/\aa B h0 h' (ce s (t.1++t.2)::As)) (fun t=>t.2.length) ([],l) (by dsimp only;rw[yE,Nat.zero_add];rfl) ⟨⟨0,by simp⟩,by simpa using hl,Bs.nil _,V,by simpa using bG.refl _,by simpa using R⟩ ?_;rintro⟨P,Q⟩ h5 ⟨⟨u,F⟩,ay,p,a,c,L⟩;dsimp only at*;have T:qc vW ((P.length:Int)+k)=((P.length+k:Nat):Int):=by rw[an _];omega
   rw[T];have E:Q.take k++Q.drop k=Q:=qA _ _;refine al (fun e3=>?_) (fun e3=>al (fun e4=>?_) fun e4=>?_)
   ·have a0:2*k<=Q.length:=by omega
    have x:Q.take k++((Q.drop k).take k++Q.drop (2*k))=Q:=by
     have:Q.drop (2*k)=(Q.drop k).drop k:=by rw[zq];congr 1;omega
     rw[this,qA,E]
    have r:(Q.take k).length=k:=by simp;omega
    have G:((Q.drop k).take k).length=k:=by simp;omega
    have m:aa B h0 h5 (ce s (P++(Q.take k++((Q.drop k).take k++Q.drop (2*k))))::As):=by rw[x];exact L
    refine(xw _ P (Q.take k) ((Q.drop k).take k) (Q.drop (2*k)) _ _ _ (by omega) (by omega) (qp _) rfl (by rw[r]) (by rw[r,G];omega) (by simp;omega) a.first a.rest.first m).mono ?_;rintro _ h6 ⟨rfl,M,j,b,D⟩;have y:M.length=2*k:=by rw[<-oZ cV b,qw,r,G];omega
    have o:(P++M).length=P.length+2*k:=by rw[qw,y]
    refine⟨(),rfl,(P++M,Q.drop (2*k)),?_,⟨⟨u+1,by dsimp only;rw[o,F];exact(zU u (2*k)).symm⟩,by dsimp only;rw[o,qV];omega,p.snoc F j (by omega),?_,?_,?_⟩,by dsimp only;rw[qV];omega⟩
    ·dsimp only;rw[o,an _];congr 1
    ·dsimp only;have:Q.drop (2*k)=(Q.drop k).drop k:=by rw[zq];congr 1;omega
     rw[this];exact a.rest.rest
    ·dsimp only;refine c.trans ?_
     conv=>arg 2;rw[<-x]
     rw[qm];have:=(bG.refl (le:=bQ) P).app (b.app (bG.refl (le:=bQ) (Q.drop (2*k))));rw[qm]at this;exact this
    ·dsimp only;rw[qm];exact D
   ·have z:k<Q.length:=by omega
    have am:Q.length<2*k:=by omega
    have r:(Q.take k).length=k:=by simp;omega
    have G:(Q.drop k).length=Q.length-k:=by simp
    have J:Sd bQ (Q.drop k):=by
     have:=a.rest.first;rw[qi (by omega)]at this;exact this
    have m:aa B h0 h5 (ce s (P++(Q.take k++(Q.drop k++[])))::As):=by rw[qM,E];exact L
    refine(xw _ P (Q.take k) (Q.drop k) [] _ _ _ (by omega) (by omega) (qp _) rfl (by rw[r]) (by rw[r,G];omega) (by simp;omega) a.first J m).mono ?_;rintro _ h6 ⟨rfl,M,j,b,D⟩;have y:M.length=Q.length:=by rw[<-oZ cV b,E]
    rw[E]at b;rw[qM]at D;exact⟨(),rfl,next (P++M) (by rw[qw];omega) (p.snoc F j (by omega)) (c.trans ((bG.refl _).app b)) D⟩
   ·have z:Q.length<=k:=by omega
    exact next (P++Q) (by rw[qw];omega) (p.snoc F (a.whole z) (by omega)) c L
  ·have hs:Sd bQ l:=V.whole (by omega);rw[OM cV hs w]at R;exact⟨rfl,R⟩
theorem Fz(d:List bi)(a:d.length<=2^30)(H:aa B h0 h (ce s d::As)):
  ac xa 164 #[s,.func (.func 165) #[] #[]] h fun v h'=>v=.tuple #[]/\aa B h0 h' (ce s (d.mergeSort bQ)::As):=by
 refine il s (165,#[],#[]) ?_;unfold eP;refine(MP d _ (by rw[(H.own 0 rfl).len]) a H).mono ?_;rintro _ c ⟨rfl,b⟩;exact⟨(),rfl,rfl,b⟩
def ij:bi:=(0,0,0,0,0,0,0,⟨none,0,0⟩)
end
end Go.Qw
namespace Wl
open Go Go.Vc Go.Qw
def iB(l:List bi)(k:Nat):Bool:=decide (k=0)||decide (jz (l.getD k ij) (l.getD (k-1) ij)≠0)
def iC(l:List bi)(k:Nat):List bi:=((qD k).filter (iB l)).map fun i=>l.getD i ij
def Rz(l:List bi):List bi:=iC l l.length
theorem kI(l:List bi)(k:Nat):iC l (k+1)=iC l k++if iB l k then[l.getD k ij]else[]:=by
 unfold iC;rw[zE,zn,za,zx,vy];split<;>rfl
end Wl
namespace Go.Qw
open Go Go.Vc Go.Proofs Wl
section
variable {B:ap} {h0 h h':Heap} {As:List HP} {s:Sl} {d:List bi}
theorem FA(a b:bi)(h:Heap):ac xa 167 #[recv a,recv b] h fun v h'=>v=vU (decide (jz a b=0))/\Sp h h' []:=by
 refine AG a b ?_;unfold pR;refine(Sp.refl h).boxed fun g j i=>i.boxed fun f d c=>?_;have c:Sp h d [ag g 119 (bD a),ag f 119 (bD b)]:=c;refine⟨a,(c.box 0 rfl).aF _ rfl,b,(c.box 1 rfl).aF _ rfl,(mE a b d).mono ?_⟩;rintro _ h3 ⟨rfl,e⟩;refine⟨_,rfl,?_,.zip (aa.up c e.ah).ah⟩;congr 1
theorem DR(l:List bi)(hd:l.length<=2^30)(H:aa B h0 h (ce s l::As)):
  ac xa 166 #[s,.func (.func 167) #[] #[]] h fun v h'=>∃r:Sl,v=r/\aa B h0 h' (ce r (Rz l)::As):=by
 refine iK s (167,#[],#[]) ?_;unfold fg;have ad:=(H.own 0 rfl).len;have w:=(H.own 0 rfl).cap;have m:(∀j,j<l.length->iB l j=true)->Rz l=l:=fun F=>by
  have:∀k,k<=l.length->iC l k=l.take k:=fun k=>by
   induction k with
   |zero=>simp[iC]
   |succ k ih=>
    intro U;rw[kI,ih (by omega),if_pos (F k (by omega)),aK l k,getD_lt (show k<l.length by omega)]
  unfold Rz;rw[this _ (qp _),zc]
 refine al (fun e=>⟨s,rfl,?_⟩) (fun e=>?_)
 ·rw[m fun j n=>by unfold iB;rw[decide_eq_true (show j=0 by omega)];rfl];exact H
 refine az (fun i:Nat=>(i:Int)) (fun i h'=>1<=i/\i<=l.length/\(∀j,j<i->iB l j=true)/\aa B h0 h' (ce s l::As)) (fun i=>l.length-i) 1 rfl ⟨by omega,by omega,fun j n=>by unfold iB;rw[decide_eq_true (show j=0 by omega)];rfl,H⟩ ?_;rintro i h1 ⟨am,hi,F,I⟩;refine al (fun O=>?_) (fun O=>?_)
 ·have y:i<l.length:=by
   have e':(i:Int)<(s.len:Int):=O;omega
  have ei:qc vW ((i:Int)-1)=((i-1:Nat):Int):=by rw[an _];omega
  rw[ei];refine ir I i rfl (x:=l.getD i ij) (by rw[getD_lt y,qd y]) (ir I (i-1) rfl (x:=l.getD (i-1) ij) (by rw[getD_lt (show i-1<l.length by omega),qd]) (eZ (by rfl) ?_));refine(FA _ _ h1).mono ?_;rintro _ h2 ⟨rfl,R2⟩;have Z:=I.up R2.ah;refine⟨_,rfl,trivial,bq (fun e2=>?_) (fun e2=>?_)⟩
  ·have u:iB l i=false:=by
    unfold iB;rw[decide_eq_false (show¬i=0 by omega)];simpa using e2
   have p:iC l i=l.take i:=by
    have:∀k,k<=i->iC l k=l.take k:=fun k=>by
     induction k with
     |zero=>simp[iC]
     |succ k ih=>
      intro U;rw[kI,ih (by omega),if_pos (F k (by omega)),aK l k,getD_lt (show k<l.length by omega)]
    exact this i (qp _)
   refine⟨⟨by omega,by omega⟩,?_⟩;rw[qq];refine az (fun t:Nat×List bi=>(((iC l (i+t.1)).length:Int),(t.1:Int))) (fun t h'=>1<=t.1/\i+t.1<=l.length/\t.2.length=l.length/\(iC l (i+t.1)).length+1<=i+t.1/\t.2.take (iC l (i+t.1)).length=iC l (i+t.1)/\(∀j,i+t.1-1<=j->t.2[j]?=l[j]?)/\aa B h0 h' (ce s t.2::As)) (fun t=>l.length-t.1) (1,l) ?_ ⟨by simp,by dsimp only;omega,rfl,?_,?_,fun _ _=>rfl,Z⟩ ?_
   ·dsimp only;rw[kI,u,p];simp;omega
   ·dsimp only;rw[kI,u,p];simp;omega
   ·dsimp only;rw[kI,u,p];simp
   rintro⟨k,D⟩ h3 ⟨a0,ax,G,P,d,o,J⟩;dsimp only at*;obtain⟨c,M⟩:∃c,c=(iC l (i+k)).length:=⟨_,rfl⟩
   rw[<-M]at P d⊢;have ay:=(J.own 0 rfl).len;have A:=(J.seq 0 rfl fun _=>rfl).drop i w;refine al (fun e3=>?_) (fun e3=>?_)
   ·have K:i+k<l.length:=by omega
    have ek:qc vW ((k:Int)-1)=((k-1:Nat):Int):=by rw[an _];omega
    rw[ek];have W:∀j,k-1<=j->(n:i+j<l.length)->(D.drop i)[j]?=some (l.getD (i+j) ij):=fun j n E=>by
     rw[List.getElem?_drop,o _ (by omega),getD_lt E,qd E]
    have gk:=W k (by omega) K;have R:=W (k-1) (by omega) (by omega);obtain⟨X,Y⟩:=qk.1 gk;obtain⟨q1,q2⟩:=qk.1 R;refine Seq.dE (f:=bD) (g:=bD) A k rfl X (l.getD (i+k) ij) (by rw[Y]) ?_;refine Seq.dE (f:=bD) (g:=bD) A (k-1) rfl q1 (l.getD (i+(k-1)) ij) (by rw[q2]) (eZ (by rfl) ?_);refine(FA _ _ h3).mono ?_;rintro _ h4 ⟨rfl,R4⟩;have Q:=J.up R4.ah;have q:iB l (i+k)=!decide (jz (l.getD (i+k) ij) (l.getD (i+(k-1)) ij)=0):=by
     unfold iB;rw[decide_eq_false (show¬i+k=0 by omega),show i+k-1=i+(k-1)by omega];simp
    have b:=kI l (i+k);rw[q]at b;refine⟨_,rfl,trivial,aW (fun L=>?_) (fun L=>?_)⟩
    ·rw[L]at b;have a:(iC l (i+(k+1))).length=c+1:=by rw[<-w7,b];simp[M]
     have z:=(Q.seq 0 rfl fun _=>rfl).drop i w;refine Seq.dE (f:=bD) (g:=bD) z k rfl X (l.getD (i+k) ij) (by rw[Y]) ?_;refine Q.set af 0 rfl (fun _=>rfl) rfl c rfl (by omega) (l.getD (i+k) ij) rfl rfl rfl fun h5 H5=>?_;refine⟨(k+1,D.set c (l.getD (i+k) ij)),?_,⟨by dsimp only;omega,by dsimp only;omega,by dsimp only;rw[zy];exact G,by dsimp only;rw[a];omega,?_,fun j n=>?_,H5⟩,by dsimp only;omega⟩
     ·dsimp only;rw[a,an _,an _];rfl
     ·dsimp only;rw[a,aK _ c (by rw[zy];omega),List.getElem_set_self,List.take_set_of_le (qp _),d,<-w7,b];simp
     ·dsimp only at n⊢;rw[zN (by omega)];exact o j (by omega)
    ·rw[L]at b;have a:(iC l (i+(k+1))).length=c:=by rw[<-w7,b];simp[M]
     refine⟨(k+1,D),?_,⟨by dsimp only;omega,by dsimp only;omega,G,by dsimp only;rw[a];omega,?_,fun j n=>o j (by dsimp only at n;omega),Q⟩,by dsimp only;omega⟩
     ·dsimp only;rw[a,an _];rfl
     ·dsimp only;rw[a,d,<-w7,b];simp
   ·have N:i+k=l.length:=by omega
    refine⟨⟨by omega,by omega⟩,?_⟩;rw[qq];refine J.Ae af 0 rfl XD (fun _=>rfl) rfl (by decide) c (by omega) fun h6 V=>⟨⟨by omega,by omega⟩,⟨s.ptr,c,s.cap⟩,rfl,?_⟩
    rw[d,N]at V;exact V
  ·refine⟨i+1,by rw[an _];rfl,⟨by omega,by omega,fun j n=>?_,Z⟩,by omega⟩;by_cases T:j=i
   ·subst T;unfold iB;rw[decide_eq_true (show jz (l.getD j ij) (l.getD (j-1) ij)≠0 by simpa using e2)];simp
   ·exact F j (by omega)
 ·have S:i=l.length:=by
   have e':¬(i:Int)<(s.len:Int):=O;omega
  subst S;rw[m F];exact⟨s,rfl,I⟩
end
def fieldsOf(d:Option TypeDesc):List (Bool×TypeId×Nat):=match d with|some (.struct fs)=>fs.toList.map (fun f=>(f.name== "_",f.type,f.offset))|_=>[]
theorem RA:fieldsOf (Tryz.prog.underlying 24)=[(false,3,0),(false,3,1),(false,3,2)]:=by kernel_rfl
theorem TU:Tryz.prog.stoodInHeld 24=false:=by kernel_rfl
theorem TV:Tryz.prog.eqGuardType Tryz.prog.depth 24=false:=by kernel_rfl
theorem Lj{P:Program}{t:TypeId}{a b c:TypeId×Nat}(h:fieldsOf (P.underlying t)=[(false,a.1,a.2),(false,b.1,b.2),(false,c.1,c.2)]):
  ∃f g e:Field,P.underlying t=some (.struct #[f,g,e])/\(f.name≠ "_" /\f.type=a.1/\f.offset=a.2)/\(g.name≠ "_" /\g.type=b.1/\g.offset=b.2)/\(e.name≠ "_" /\e.type=c.1/\e.offset=c.2):=by
 cases hu:P.underlying t with
 |none=>rw[hu]at h;cases h
 |some d=>
  rw[hu]at h;cases d with
  |struct fs=>
   simp only[fieldsOf]at h;obtain⟨l⟩:=fs;have i:l.length=3:=by simpa using congrArg yw h
   obtain⟨f,r,rfl⟩:=wY i;obtain⟨g,k,rfl⟩:=wY (by simpa using i:r.length=1+1);obtain⟨e,j,rfl⟩:=wY (by simpa using i:k.length=0+1);obtain rfl:j=[]:=by simpa using i
   simp at h;exact⟨f,g,e,rfl,⟨h.1.1,h.1.2.1,h.1.2.2⟩,⟨h.2.1.1,h.2.1.2.1,h.2.1.2.2⟩,⟨h.2.2.1,h.2.2.2.1,h.2.2.2.2⟩⟩
  |_=>cases h
theorem gI{P:Program}{d:Nat}{t:TypeId}{k:IntKind}(h:∃c,P.underlying t=some (.int c))(a b:Int):aA P (Op.equalIn (d+1) t (.int k a) (.int k b)) (a==b):=by
 obtain⟨c,h⟩:=h;unfold Op.equalIn;refine(au h).bind ?_;simp only[if_true];exact .pure
theorem jS{P:Program}{t:TypeId}{k:IntKind}(h:P.underlying t=some (.int k)){a:Array Value}{i:Nat}{v:Value}(b:a[i]?=some v):aA P (part t a i) v:=by
 unfold part isAgg;refine aA.bind (v:=false) ((au h).bind .pure) ?_;simp only[zl,if_false,b];exact .pure
theorem Yr(p q:Pm):aA xa (Op.equal 24 (vV #[vQ vW p.1,vQ vW p.2.1,vQ vW p.2.2]) (vV #[vQ vW q.1,vQ vW q.2.1,vQ vW q.2.2])) (decide (p=q)):=by
 obtain⟨f,g,u,I,⟨B,F,A⟩,⟨E,D,H⟩,⟨y,z,u3⟩⟩:=Lj (a:=(3,0)) (b:=(3,1)) (c:=(3,2)) RA;have G:∃k,Tryz.prog.underlying 3=some (.int k):=⟨.i64,by kernel_rfl⟩
 obtain⟨k,d⟩:=G;unfold Op.equal;rw[show Op.maxDepth=9998+1+1 from rfl,Op.equalIn];refine(au I).bind ?_;refine aA.bind (v:=xa) (fun w=>rfl) ?_;simp only[TU,zl,if_false,List.forIn_toArray,List.forIn_cons,List.forIn_nil,ne_eq,B,E,y,not_false_eq_true,if_true,F,A,D,H,z,u3];obtain⟨a,b,c⟩:=p;obtain⟨h,i,j⟩:=q;dsimp only;have n:aA xa (part 3 #[Value.int vW a,Value.int vW b,Value.int vW c] 0) _:=jS d rfl;have o:aA xa (part 3 #[Value.int vW h,Value.int vW i,Value.int vW j] 0) _:=jS d rfl;have s:aA xa (part 3 #[Value.int vW a,Value.int vW b,Value.int vW c] 1) _:=jS d rfl;have r:aA xa (part 3 #[Value.int vW h,Value.int vW i,Value.int vW j] 1) _:=jS d rfl;have x:aA xa (part 3 #[Value.int vW a,Value.int vW b,Value.int vW c] 2) _:=jS d rfl;have t:aA xa (part 3 #[Value.int vW h,Value.int vW i,Value.int vW j] 2) _:=jS d rfl;by_cases l:a=h
 ·by_cases m:b=i
  ·by_cases h3:c=j
   ·have e:decide ((a,b,c)=(h,i,j))=true:=by simp[l,m,h3]
    rw[e];refine aA.bind (v:=(none,())) (aA.bind (v:=ForInStep.yield (none,())) (n.bind (o.bind ((gI ⟨k,d⟩ a h).bind ?_))) (aA.bind (v:=ForInStep.yield (none,())) (s.bind (r.bind ((gI ⟨k,d⟩ b i).bind ?_))) (aA.bind (v:=ForInStep.yield (none,())) (x.bind (t.bind ((gI ⟨k,d⟩ c j).bind ?_))) .pure))) .pure
    ·simp only[l,beq_self_eq_true,wS,zl,if_false];exact .pure
    ·simp only[m,beq_self_eq_true,wS,zl,if_false];exact .pure
    ·simp only[h3,beq_self_eq_true,wS,zl,if_false];exact .pure
   ·have e:decide ((a,b,c)=(h,i,j))=false:=by simp[h3]
    rw[e];refine aA.bind (v:=(some false,())) (aA.bind (v:=ForInStep.yield (none,())) (n.bind (o.bind ((gI ⟨k,d⟩ a h).bind ?_))) (aA.bind (v:=ForInStep.yield (none,())) (s.bind (r.bind ((gI ⟨k,d⟩ b i).bind ?_))) (aA.bind (v:=ForInStep.done (some false,())) (x.bind (t.bind ((gI ⟨k,d⟩ c j).bind ?_))) .pure))) .pure
    ·simp only[l,beq_self_eq_true,wS,zl,if_false];exact .pure
    ·simp only[m,beq_self_eq_true,wS,zl,if_false];exact .pure
    ·rw[show(c==j)=false by simpa using h3];simp only[w9,if_true];exact .pure
  ·have e:decide ((a,b,c)=(h,i,j))=false:=by simp[m]
   rw[e];refine aA.bind (v:=(some false,())) (aA.bind (v:=ForInStep.yield (none,())) (n.bind (o.bind ((gI ⟨k,d⟩ a h).bind ?_))) (aA.bind (v:=ForInStep.done (some false,())) (s.bind (r.bind ((gI ⟨k,d⟩ b i).bind ?_))) .pure)) .pure
   ·simp only[l,beq_self_eq_true,wS,zl,if_false];exact .pure
   ·rw[show(b==i)=false by simpa using m];simp only[w9,if_true];exact .pure
 ·have e:decide ((a,b,c)=(h,i,j))=false:=by simp[l]
  rw[e];refine aA.bind (v:=(some false,())) (aA.bind (v:=ForInStep.done (some false,())) (n.bind (o.bind ((gI ⟨k,d⟩ a h).bind ?_))) .pure) .pure;rw[show(a==h)=false by simpa using l];simp only[w9,if_true];exact .pure
theorem RB(x y:Operand)(p q:Pm):fR xa .neq 24 x y (vV #[vQ vW p.1,vQ vW p.2.1,vQ vW p.2.2]) (vV #[vQ vW q.1,vQ vW q.2.1,vQ vW q.2.2]) (vU (!decide (p=q))):=by
 unfold fR eqGuard;refine aA.bind (v:=()) ?_ ?_
 ·simp only[wS,zl,if_false];refine aA.bind (v:=xa) (fun w=>rfl) ?_;refine aA.bind (v:=xa) (fun w=>rfl) ?_;simp only[TV,w9,if_true];exact .pure
 ·exact(Yr p q).bind .pure
end Go.Qw
namespace Wl
def TW(P:cE->Bool)(l:List cE)(i:Int):Prop:=(i=-1/\l.any P=false)∨∃n:Nat,∃h:n<l.length,i=n/\P l[n]=true/\(l.take n).any P=false
theorem Lk{P:cE->Bool}{l:List cE}{i:Int}(h:TW P l i):decide (i>=0)=l.any P:=by
 rcases h with⟨rfl,h⟩|⟨n,hn,rfl,h,_⟩
 ·rw[h];rfl
 ·rw[yu.2 ⟨_,qn hn,h⟩];exact decide_eq_true (by omega)
end Wl
namespace Go.Qw
open Go Go.Vc Go.Proofs Wl
theorem CP(f:FuncId)(pre post:Array Value)(P:Wl.cE->Bool)(l:Sl)(a:List Wl.cE)(h:Heap)(q:C.fns[f]?=some true)(m:nN nh h l a)(D:a.length<=2^30)
  (z:∀(u:dh) (E:Wl.cE) (h':Heap),Sp h h' []->nN fE h' u E->E∈a->ac xa f (pre.toList++[Value.agg #[vT u.1,vQ vW u.2.1,vQ vW u.2.2.1,u.2.2.2]]++post.toList).toArray h' fun v e=>v=vU (P E)/\Sp h' e []):
  ac xa 97 #[l,.func (.func f) pre post] h fun v h'=>(∃i:Int,v=vQ vW i/\TW P a i)/\Sp h h' []:=by
 refine fC l (f,pre,post) ?_;unfold dH;obtain⟨k,s,B,w⟩:=cS.Em m;have p:=cS.len m;refine az (fun i:Nat=>(i:Int)) (fun i h'=>i<=a.length/\(a.take i).any P=false/\Sp h h' []) (fun i=>a.length-i) 0 rfl ⟨by omega,by simp,Sp.refl h⟩ ?_;rintro i n ⟨F,b,d⟩;refine al (fun j=>?_) (fun j=>?_)
 ·have c:i<a.length:=by
   have r:(i:Int)<(l.len:Int):=j;omega
  have x:nN fE n (k[i]'(by omega)) a[i]:=fE.mono (fE.loc (w i (by omega) c) d.ah) fun _ y=>qQ y d.ah.1;refine(Seq.up s d.ah).dE (g:=bv) i rfl (by omega) (k[i]'(by omega)) rfl (eZ q ?_);refine(z (k[i]'(by omega)) a[i] n d x (qn c)).mono ?_;rintro _ A ⟨rfl,t⟩;have o:=d.up t.ah;refine⟨_,rfl,bq (fun e2=>⟨⟨i,rfl,.inr ⟨i,c,rfl,e2,b⟩⟩,o⟩) (fun e2=>?_)⟩;refine⟨i+1,by rw[an _];rfl,⟨by omega,?_,o⟩,by omega⟩;rw[aK _ _ c,vx,b,List.any_cons,List.any_nil,e2];rfl
 ·have r:¬(i:Int)<(l.len:Int):=j;rw[qi (by omega)]at b;exact⟨⟨-1,rfl,.inl ⟨rfl,b⟩⟩,d⟩
theorem GX(f:FuncId)(pre post:Array Value)(P:Wl.cE->Bool)(l:Sl)(a:List Wl.cE)(h:Heap)(c:C.fns[f]?=some true)(d:nN nh h l a)(k:a.length<=2^30)
  (g:∀(u:dh) (E:Wl.cE) (h':Heap),Sp h h' []->nN fE h' u E->E∈a->ac xa f (pre.toList++[Value.agg #[vT u.1,vQ vW u.2.1,vQ vW u.2.2.1,u.2.2.2]]++post.toList).toArray h' fun v b=>v=vU (P E)/\Sp h' b []):
  ac xa 88 #[l,.func (.func f) pre post] h fun v h'=>v=vU (a.any P)/\Sp h h' []:=by
 refine fb l (f,pre,post) ?_;unfold dq;refine(CP f pre post P l a h c d k g).mono ?_;rintro _ m ⟨⟨i,rfl,j⟩,e⟩;exact⟨i,rfl,by rw[Lk j],e⟩
theorem uR(o b t:Int)(h:Heap):ac xa 63 #[vQ vW o,vQ vW b,vQ vW t] h fun v h'=>v=vQ vY (iy o b t)/\h'=h:=by
 refine IP o b t ?_;unfold CC;refine⟨?_,rfl⟩;have:qc vY ((qc vY ((qc vY ((128:Int)*(qc vY o)))+(qc vY ((16:Int)*(qc vY b)))))+(qc vY t))=iy o b t:=by
  unfold iy qc;simp[qj,yp];omega
 rw[this]
theorem MQ(x:bn)(m:ar)(y:bi)(r:di)(h:Heap)(q:eS h x m)(hz:cn m)(L:nN ey h y r):
  ac xa 163 #[cN x,recv y] h fun v h'=>v=vU (ff m r)/\Sp h h' []:=by
 refine Fl x y ?_;unfold xt;refine(Sp.refl h).boxed fun R h1 H1=>H1.boxed fun d K j=>?_;have j:Sp h K [ag R 47 (aq x),ag d 119 (bD y)]:=j;obtain⟨⟨X,e2,e3,z,e5,e7,e8⟩,e6⟩:=id L;have w:x.2.2.1=m.p.1:=congrArg (·.1) q.p;have F:x.2.2.2.1=m.p.2.1:=congrArg (·.2.1) q.p;have D:x.2.2.2.2.1=m.p.2.2:=congrArg (·.2.2) q.p;have B:y.2.2.2.1=r.p.1:=congrArg (·.1) z;have s:y.2.2.2.2.1=r.p.2.1:=congrArg (·.2.1) z;have G:y.2.2.2.2.2.1=r.p.2.2:=congrArg (·.2.2) z;have Y:=hz.ob;refine aU ⟨y,(j.box 1 rfl).aF _ rfl,(CN y r K (ey.mono (ey.loc L j.ah) fun _ hb=>qQ hb j.ah.1)).mono ?_⟩;rintro _ h3 ⟨rfl,R3⟩;have e:Sp h h3 [ag R 47 (aq x),ag d 119 (bD y)]:=j.up R3.ah;have M:=e.box 0 rfl;have A:=e.box 1 rfl;refine⟨_,rfl,aW (fun g=>⟨by unfold ff;rw[g];rfl,.zip e.ah⟩) fun g=>?_⟩;obtain⟨_,g2,_⟩:=(jr r).1 g;refine⟨r.p,by rw[<-B,<-s,<-G];exact A.rO 3 rfl rfl rfl,m.p,by rw[<-w,<-F,<-D];exact M.rO 2 rfl rfl rfl,_,RB _ _ r.p m.p,aW (fun I=>⟨?_,.zip e.ah⟩) fun I=>?_⟩
 ·unfold ff;rw[g,I];rfl
 obtain⟨P,J⟩:∃P:Wl.cE->Bool,P=fun x=>decide (x.object=r.object)&&(decide (r.block<(x.tries.length:Int))&&decide (r.seed=iy r.object r.block (x.tries.getD r.block.toNat 0))):=⟨_,rfl⟩
 have H:ff m r=m.aH.any P:=by unfold ff;rw[g,I,J];rfl
 refine⟨x.2.2.2.2.2.2.2,M.cell rfl,?_⟩;refine(GX 213 #[] #[vS (some d)] P x.2.2.2.2.2.2.2 m.aH h3 (by rfl) (q.up e.ah).aH (by omega) fun u E S V Z _=>?_).mono ?_
 ·obtain⟨⟨y1,y2,y3⟩,Q⟩:=Z;have W:=Seq.len Q;have k:=A.ah V.ah A.lt;refine Cg u d ?_;unfold rL;refine(Sp.refl S).boxed fun a5 b a=>?_;have a:Sp S b [ag a5 73 (bv u)]:=a;have O:=a.box 0 rfl;have c:=k.ah a.ah k.lt;have o:cellOf b (a5.add 1)=some (vQ vW E.object):=by rw[<-y2];exact O.cell rfl
  have n:cellOf b (a5.add 3)=some (vR u.2.2.2.ptr u.2.2.2.len u.2.2.2.cap):=O.cell rfl;have l:cellOf b d=some (vQ vW r.object):=by rw[<-X];exact c.cell0 rfl
  have i:cellOf b (d.add 1)=some (vQ vW r.block):=by rw[<-e2];exact c.cell rfl
  have N:cellOf b (d.add 6)=some (vQ vY r.seed):=by rw[<-e5];exact c.cell rfl
  rw[J];refine⟨E.object,o,r.object,l,dN (fun t=>?_) fun t=>⟨⟨l,o,trivial⟩,?_,.zip a.ah⟩⟩
  ·refine⟨u.2.2.2,n,r.block,i,al (fun U=>?_) fun U=>⟨⟨i,n,l,o,trivial⟩,?_,.zip a.ah⟩⟩
   ·have T:r.block.toNat<E.tries.length:=by omega
    refine⟨r.seed,N,r.object,l,r.block,i,u.2.2.2,n,r.block,i,?_⟩;refine Seq.cK (f:=aE) (Seq.up Q a.ah) r.block.toNat (by omega) T (E.tries.getD r.block.toNat 0) (by rw[getD_lt T];rfl) ?_;refine(uR _ _ _ b).mono ?_;rintro _ _ ⟨rfl,rfl⟩;refine⟨_,rfl,⟨i,n,N,i,n,l,o,trivial⟩,?_,.zip a.ah⟩;dsimp only;rw[decide_eq_true t,decide_eq_true (show r.block<(E.tries.length:Int)by omega),z8,z8];congr 1
   ·dsimp only;rw[decide_eq_false (show¬r.block<(E.tries.length:Int)by omega)];simp
  ·dsimp only;rw[decide_eq_false t];rfl
 ·rintro _ b ⟨rfl,R5⟩;exact⟨_,rfl,by rw[H],.zip (aa.up e R5.ah).ah⟩
section
variable {α:Type}
def lq(k:Nat)(f:α->aQ):jf Sl (List α):=⟨fun h q s l=>Seq h q s k f l/\s.len<=s.cap,fun a c=>⟨a.1.ah c,a.2⟩,fun a b=>⟨a.1.mono b,a.2⟩⟩
theorem aa.Vs{B:ap}{j h:Heap}{As:List HP}{e b k:Nat}{s:Sl}{f:α->aQ}{a:List (List α)}(H:aa B j h (iw e s b k f a::As))(p:∀x,(f x).length=k):∃rs,aa B j h (eG (lq k f) 1 cF s rs a::As):=by
 obtain⟨rs,H⟩:=H.uk;obtain⟨H,g⟩:=H.lA;refine⟨rs,H.gn 0 rfl fun q d=>⟨?_,g,fun i r l m c=>?_⟩⟩
 ·have:=HP.tC (i:=0) d rfl;exact this.1.seq (fun _=>rfl) this.2
 ·have n:i<a.length:=(qk.1 c).1;have o:=gO (e:=b) (k:=k) (f:=f) g i n;have:=HP.tC (i:=i+1) d (by simpa using o);have t:rs[i]'(by omega)=r:=by rw[qd (by omega)]at m;simpa using m
  have b:a[i]=l:=by rw[qd n]at c;simpa using c
  rw[t,b]at this;exact⟨this.1.seq p this.2,this.1.cap⟩
end
def nI(T:List (bi×di)):HP:=⟨fun h q=>∀t∈T,ey.p h q t.1 t.2,fun a d t b=>ey.loc (a t b) d,fun a c t b=>ey.mono (a t b) c⟩
end Go.Qw
namespace Wl
open Go Go.Vc Go.Qw
def Keyed(T:List (bi×di)):Prop:=∀t∈T,t.1.1=t.2.object/\t.1.2.1=t.2.block/\t.1.2.2.1=t.2.id
def Ic(a b:bi×di):Bool:=US a.2 b.2
theorem TX{T:List (bi×di)}(k:Keyed T):∀a∈T,∀b∈T,Ic a b=bQ a.1 b.1:=fun a f b i=>by
 obtain⟨d,c,a3⟩:=k a f;obtain⟨g,e,h⟩:=k b i;unfold Ic US bQ;rw[decide_eq_decide,tz,d,c,a3,g,e,h]
theorem Pp{T:List (bi×di)}(k:Keyed T):(T.mergeSort Ic).map qx=(T.map qx).mergeSort bQ/\(T.mergeSort Ic).map ze=(T.map ze).mergeSort US/\Keyed (T.mergeSort Ic):=
 ⟨yd (TX k),yd fun a _ b _=>rfl,fun t c=>k t (wq.1 c)⟩
def FB:bi×di:=(ij,Ex)
def uS(T:List (bi×di)):List (bi×di):=((qD T.length).filter (Ey (T.map ze))).map fun i=>T.getD i FB
theorem getD_map{α β:Type}(f:α->β)(l:List α)(i:Nat)(d:α):(l.map f).getD i (f d)=f (l.getD i d):=by
 rw[qf,qf,qP];cases l[i]?<;>rfl
theorem RC{T:List (bi×di)}(k:Keyed T):(uS T).map qx=Rz (T.map qx)/\(uS T).map ze=Do (T.map ze)/\∀t∈uS T,t∈T:=by
 have p:∀i,i<T.length->iB (T.map qx) i=Ey (T.map ze) i:=fun i a=>by
  unfold iB Ey;have g:∀j,j<T.length->(T.map qx).getD j ij=(T[j]?.getD FB).1/\(T.map ze).getD j Ex=(T[j]?.getD FB).2:=fun j q=>by
   rw[qf,qf,qP,qP,qd q];exact⟨rfl,rfl⟩
  by_cases h0:i=0
  ·rw[decide_eq_true h0];rfl
  ·rw[decide_eq_false h0,yZ,yZ,(g i a).1,(g i a).2,(g (i-1) (by omega)).1,(g (i-1) (by omega)).2];rw[qd a,qd (show i-1<T.length by omega)];obtain⟨r,l,a3⟩:=k _ (qn a);obtain⟨m,n,o⟩:=k _ (qn (show i-1<T.length by omega));unfold UT;simp only[vn];have c:=Rx T[i].1 (T[i-1]'(by omega)).1;rw[r,l,a3,m,n,o]at c;by_cases b:jz T[i].1 (T[i-1]'(by omega)).1=0
   ·rw[decide_eq_false (fun h=>h b),decide_eq_true (c.1 b)];rfl
   ·rw[decide_eq_true b,decide_eq_false (fun f=>b (c.2 f))];rfl
 have e:(qD T.length).filter (iB (T.map qx))=(qD T.length).filter (Ey (T.map ze)):=List.filter_congr fun i a=>p i (qF.1 a);refine⟨?_,?_,fun t d=>?_⟩
 ·unfold uS Rz iC;rw[qC,e,we];congr 1;funext i;exact(getD_map qx T i FB).symm
 ·unfold uS Do;rw[qC,we];congr 1;funext i;exact(getD_map ze T i FB).symm
 ·unfold uS at d;obtain⟨i,a,rfl⟩:=qE.1 d;have:=qF.1 (zh.1 a).1;rw[getD_lt this];exact qn this
end Wl
namespace Go.Qw
open Go Go.Vc Go.Proofs Wl
theorem Ja(a pw:Addr)(d:bf)(s b:Sl)(x:bn)(m:ar)(h:Heap)(H:bZ h a 70 (eK pw d s b))(hl:dU h s 1 aw d.l)(ok:dc d)(hx:eS h x m)(hz:cn m):
  ac xa 121 #[vS (some a),cN x] h fun v h'=>∃(r:Sl) (T:List (bi×di)),v=r/\T.map ze=mg m d.l/\Keyed T/\Sp h h' [ce r (T.map qx),nI T]:=by
 refine DD (some a) x ?_;unfold te;have ad:=ok.len;have Q:=ok.room;refine(Sp.refl h).boxed fun p h1 J=>?_;have J:Sp h h1 [ag p 47 (aq x)]:=J;refine(uP s b (H.ah J.ah H.lt) (hl.up J.ah) ok).mono ?_;rintro _ h2 ⟨w,rfl,R2⟩;have M:=J.cM R2;obtain⟨rs,M⟩:=aa.Vs M fun _=>rfl;refine⟨w,rfl,?_⟩;have F2:=M.jY 0 rfl;have ax:=F2.1.len;have ay:=F2.2.1;have G:Sp h h2 [ce ⟨none,0,0⟩ [],nI [],eG (lq 1 aw) 1 cF w rs d.l,ag p 47 (aq x)]:=
  ((M.comp (.one (A:=nI []) (aG.refl _ _) (fun t f=>(by cases f)))).nil 119 8 bD).ca [3,2,0,1]
 refine az (fun t:Sl×Nat×List (bi×di)=>(t.1,(t.2.1:Int)-1)) (fun t h'=>t.2.1<=d.l.length/\t.2.2.length<=t.2.1/\Keyed t.2.2/\t.2.2.map ze=(d.l.take t.2.1).filterMap (iR m)/\Sp h h' [ce t.1 (t.2.2.map qx),nI t.2.2,eG (lq 1 aw) 1 cF w rs d.l,ag p 47 (aq x)]) (fun t=>d.l.length-t.2.1) (⟨none,0,0⟩,0,[]) rfl ⟨by simp,by simp,(fun t f=>(by cases f)),by simp,G⟩ ?_;rintro⟨o,i,T⟩ h3 ⟨hi,a0,L,k,G⟩;dsimp only at*;have ei:qc vW ((i:Int)-1+1)=(i:Int):=by rw[an _];omega
 rw[ei];refine al (fun e=>?_) (fun e=>?_)
 ·have Y:i=d.l.length:=by omega
  subst Y;rw[zc]at k;refine(Fz (T.map qx) (by rw[qC];omega) G).mono ?_;rintro _ h4 ⟨rfl,H4⟩;obtain⟨s1,s2,s3⟩:=Pp L;rw[<-s1]at H4;refine⟨(),rfl,(DR _ (by rw[qC,List.length_mergeSort];omega) H4).mono ?_⟩;rintro _ h5 ⟨Z,rfl,H5⟩;obtain⟨c1,c2,c3⟩:=RC s3;rw[<-c1]at H5;refine⟨Z,rfl,Z,uS (T.mergeSort Ic),rfl,?_,fun t f=>s3 t (c3 t f),?_⟩
  ·have hr:mg m d.l=(uS (T.mergeSort Ic)).map ze:=by unfold mg;rw[<-k,c2,s2]
   exact hr.symm
  ·exact(H5.gn 1 rfl (D:=nI (uS (T.mergeSort Ic))) fun q z t f=>z t (wq.1 (c3 t f))).ca [0,1]
 ·have E:i<d.l.length:=by omega
  have g:=OO m d.l i E;have next:∀{h':Heap} {B:Sl} {T':List (bi×di)},T'.length<=i+1->Keyed T'->T'.map ze=(d.l.take (i+1)).filterMap (iR m)->Sp h h' [ce B (T'.map qx),nI T',eG (lq 1 aw) 1 cF w rs d.l,ag p 47 (aq x)]->
    ∃j:Sl×Nat×List (bi×di),((⟨B.ptr,B.len,B.cap⟩:Sl),(i:Int))=(j.1,(j.2.1:Int)-1)/\(j.2.1<=d.l.length/\j.2.2.length<=j.2.1/\Keyed j.2.2/\j.2.2.map ze=(d.l.take j.2.1).filterMap (iR m)/\Sp h h' [ce j.1 (j.2.2.map qx),nI j.2.2,eG (lq 1 aw) 1 cF w rs d.l,ag p 47 (aq x)])/\d.l.length-j.2.1<d.l.length-i:=fun{h' B T'} q1 q2 q3 q4=>
   ⟨(B,i+1,T'),by dsimp only;congr 1;omega,⟨by dsimp only;omega,q1,q2,q3,q4⟩,by dsimp only;omega⟩
  refine aU ?_;refine(G.jY 2 rfl).1.Tk i rfl (by omega) ?_;obtain⟨u,R⟩:=Fix.row (G.jY 2 rfl) E;obtain⟨c,hc⟩:∃c,c=d.l[i]:=⟨_,rfl⟩
  rw[<-hc]at u g;have am:c.length=64:=by rw[hc];exact ok.cell _ (qn E)
  refine(Lf (rs[i]'(by omega)) c h3 u (by omega) R).mono ?_;rintro _ h6 ⟨y,rfl,Q0,Q1⟩;refine⟨(y,(dJ c).isSome),rfl,?_⟩;dsimp only;cases htr:dJ c with
  |none=>
   have K:iR m c=none:=by unfold iR;rw[htr]
   rw[K,Option.toList_none,qM]at g;have V:=G.up (Q0 htr).ah;refine V.alloc af rfl fun a9 h7 U=>?_;refine U.storeAll af 4 rfl rfl (bD y) rfl rfl rfl rfl fun h8 n=>bq (fun e=>by cases e) fun _=>?_;exact next (by omega) L (by rw[k,g]) (n.ca [0,1,2,3])
  |some r=>
   have V:=G.cM (Q1 r htr);refine V.alloc af rfl fun a9 h7 U=>?_;refine U.storeAll af 5 rfl rfl (bD y) rfl rfl rfl rfl fun h8 n=>bq (fun _=>?_) fun e=>by cases e
   have n:Sp h h8 [EA ey y r,ce o (T.map qx),nI T,eG (lq 1 aw) 1 cF w rs d.l,ag p 47 (aq x),ag a9 119 (bD y)]:=n;have W:=n.Yu 0 rfl;have O:ai h8 p 0 (aq x):=(n.box 4 rfl).aF _ rfl;have X:ai h8 a9 0 (bD y):=(n.box 5 rfl).aF _ rfl;have S:=MQ x m y r h8 (hx.up n.ah) hz W;refine⟨x,O,y,X,S.mono ?_⟩;rintro _ h9 ⟨rfl,R9⟩;have N:Sp h h9 [EA ey y r,ce o (T.map qx),nI T,eG (lq 1 aw) 1 cF w rs d.l,ag p 47 (aq x),ag a9 119 (bD y)]:=n.up R9.ah;refine⟨_,rfl,bq (fun e2=>?_) (fun e2=>?_)⟩
   ·have K:iR m c=some r:=by unfold iR;rw[htr];exact if_pos e2
    rw[K,Option.toList_some]at g;refine⟨y,(N.box 5 rfl).aF _ rfl,?_⟩;refine N.push af 1 rfl XD rfl (by decide) (fun _=>rfl) Wk y (by kernel_rfl) (by decide) (by rw[qC];omega) fun B a2 I=>?_;have F:=(I.Yu 0 rfl).1;have P:=I.merge 2 0 (by decide) rfl rfl (D:=nI (T++[(y,r)])) (fun q1 q2 _ p1 p2 t f=>by
     rcases qH.1 f with f|f
     ·exact ey.mono (p1 t f) fun _ H=>.inl H
     ·rw[qB.1 f];exact ey.mono p2 fun _ H=>.inr H)
    refine next (T':=T++[(y,r)]) (by simp;omega) (fun t f=>?_) (by rw[za,k,g];rfl) ?_
    ·rcases qH.1 f with f|f
     ·exact L t f
     ·rw[qB.1 f];exact⟨F.1,F.2.1,F.2.2.1⟩
    ·rw[za];exact P.ca [1,2,3,4]
   ·have K:iR m c=none:=by unfold iR;rw[htr];exact if_neg (by rw[e2];simp)
    rw[K,Option.toList_none,qM]at g;exact next (by omega) L (by rw[k,g]) (N.ca [1,2,3,4])
theorem Ll(a pw:Addr)(d:bf)(s b:Sl)(x:bn)(m:ar)(h:Heap)(w:bZ h a 70 (eK pw d s b))(k:dU h s 1 aw d.l)(ok:dc d)(i:eS h x m)(y:cn m):
  ac xa 121 #[vS (some a),cN x] h fun v h'=>∃(r:Sl) (z:List bi),v=r/\Sp h h' [eG ey 8 bD r z (mg m d.l)]:=by
 refine(Ja a pw d s b x m h w k ok i y).mono ?_;rintro _ h' ⟨r,T,rfl,o,_,H⟩;refine⟨r,T.map qx,rfl,?_⟩;have p:=(H.freeze 0 rfl fun _=>rfl).jX;have g:aa _ _ _ (eG ey 8 bD r (T.map qx) (mg m d.l)::_):=p.gn 0 rfl fun q ⟨D,B,_,b,c,u,n⟩=>by
  rw[<-o];refine⟨Seq.mono n c,by simp,fun j E A e f=>?_⟩;rw[qP]at e f;cases g3:T[j]? with
  |none=>rw[g3]at e;cases e
  |some t=>
   rw[g3]at e f;simp at e f;subst e;subst f;exact ey.mono (u t (wu g3)) b
 exact g.ca [0]
end Go.Qw
namespace Go.Vc
open Go Wl
def ba(l:aD)(k:Nat):aD:=((qD k).map fun i:Nat=>(i:Int)).filter fun i=>decide (0<l.getD i.toNat 0)
def dB(l:aD):aD×Bool:=
 if l.all (dC · 0 512)then(ba l l.length,decide (l.length<=64)&&decide (0<(ba l l.length).length))else([],false)
theorem xx(l:aD)(k:Nat)(a:k<l.length):ba l (k+1)=ba l k++if 0<l[k]then[(k:Int)]else[]:=by
 unfold ba;rw[zE,za,zn];congr 1;simp only[List.map_cons,List.map_nil,zx,vy,qq,qf,qd a,vn];by_cases h:0<l[k]<;>simp[h]
theorem mF(l:aD)(k:Nat):(ba l k).length<=k:=by
 unfold ba;exact zH (zJ _ _) (by simp)
end Go.Vc
namespace Go.Qw
open Go Go.Vc Go.Proofs Wl
section
theorem kT(s:Sl)(l:aD)(h:Heap)(m:Rd h s 1 aE l)(B:l.length<=2^20):
  ac xa 22 #[s] h fun v h'=>∃r:Sl,v=.tuple #[r,vU (dB l).2]/\Sp h h' [aj 3 r 1 aE (dB l).1]:=by
 refine Dx s ?_;unfold sT;have q:=m.len;have p:Sp h h [aj 3 ⟨none,0,0⟩ 1 aE (ba l 0)]:=(Sp.refl h).nil 3 1 aE;refine az (fun t:Sl×Nat=>(t.1,(t.2:Int))) (fun t h'=>t.2<=l.length/\(l.take t.2).all (dC · 0 512)=true/\Sp h h' [aj 3 t.1 1 aE (ba l t.2)]) (fun t=>l.length-t.2) (⟨none,0,0⟩,0) rfl ⟨by simp,by simp,p⟩ ?_;rintro⟨o,i⟩ D ⟨E,c,f⟩;dsimp only at*;have d:∀(a:i<l.length),dC l[i] 0 512=false->dB l=([],false):=fun a g=>by
  unfold dB;rw[if_neg];intro A;have:=qU.1 A _ (qn a);rw[g]at this;cases this
 refine al (fun e=>?_) (fun e=>?_)
 ·have a:i<l.length:=by omega
  have y:=mF l i;refine(Seq.up m f.ah).cK i rfl a l[i] rfl ?_;refine aU (al (fun j=>?_) (fun j=>al (fun e2=>?_) (fun e2=>?_)))
  ·have g:=d a (by unfold dC;simp;omega);rw[g];exact⟨⟨none,0,0⟩,rfl,(f.ca []).nil 3 1 aE⟩
  ·have g:=d a (by unfold dC;simp;omega);rw[g];exact⟨⟨none,0,0⟩,rfl,(f.ca []).nil 3 1 aE⟩
  ·have b:(l.take (i+1)).all (dC · 0 512)=true:=by
    rw[aK l i a,List.all_append,c,z8,List.all_cons,List.all_nil,Bool.and_true];unfold dC;simp;omega
   refine al (fun z=>?_) (fun z=>?_)
   ·refine f.push af 0 rfl kS rfl (by decide) (fun _=>rfl) iU (i:Int) rfl (by decide) (by omega) fun x F n=>?_;refine⟨(x,i+1),by dsimp only;rw[an _];rfl,⟨by dsimp only;omega,b,?_⟩,by dsimp only;omega⟩;dsimp only;rw[xx l i a,if_pos (by omega)];exact n
   ·refine⟨(o,i+1),by dsimp only;rw[an _];rfl,⟨by dsimp only;omega,b,?_⟩,by dsimp only;omega⟩;dsimp only;rw[xx l i a,if_neg (by omega),qM];exact f
 ·have k:i=l.length:=by omega
  subst k;rw[zc]at c;have w:=(f.own 0 rfl).len;have u:dB l=(ba l l.length,decide (l.length<=64)&&decide (0<(ba l l.length).length)):=by unfold dB;rw[if_pos c]
  rw[u];refine al (fun j=>⟨o,?_,f⟩) (fun j=>⟨o,?_,f⟩)
  ·dsimp only;rw[decide_eq_true (show l.length<=64 by omega),z8];congr 4;refine congrArg Value.bool ?_;rw[decide_eq_decide];omega
  ·dsimp only;rw[decide_eq_false (show¬l.length<=64 by omega),Bool.false_and]
end
section
variable {B:ap} {h0 h:Heap} {As:List HP} {a pw:Addr} {offs:Int} {da:List aM} {w:Pow} {ds:aS}
theorem gW(x:bn)(m:ar)(d:eS h x m)(c:cn m)(H:aa B h0 h (bm bh a pw (aq x) offs da w ds::As)):
  ac xa 18 #[vS (some a)] h fun v h'=>∃r:Sl,v=r/\Sp h h' [aj 3 r 1 aE (bS ds m.drives)]:=by
 refine uD (some a) ?_;unfold nT;obtain⟨ok,g⟩:=aa.db H;have f:=c.dr;refine bq (fun e=>by cases e) (fun _=>⟨a,rfl,x.2.2.2.2.2.2.1,g.cell rfl,(Pj _ m.drives d.drives (by omega) H).mono ?_⟩);rintro _ i ⟨r,rfl,b⟩;exact⟨r,rfl,r,rfl,b⟩
theorem GY(x:bn)(m:ar)(g:eS h x m)(l:cn m)(H:aa B h0 h (bm bh a pw (aq x) offs da w ds::As)):
  ac xa 16 #[vS (some a)] h fun v h'=>∃y:bn,v=cN y/\Sp h h' [bt y m]:=by
 refine kj (some a) ?_;unfold iJ;obtain⟨ok,f⟩:=aa.db H;refine(Sp.refl h).alloc af rfl fun o j c=>?_;have b:=f.ah c.ah f.lt;refine bq (fun e=>by cases e) (fun _=>⟨a,rfl,x,b.aF _ rfl,(oR x m j (g.up c.ah) l).mono ?_⟩);rintro _ n ⟨y,rfl,i⟩;have k:=c.comp i;refine⟨y,rfl,?_⟩;refine k.store af 0 rfl rfl 0 (aq y) rfl rfl rfl (by simp[Value.cells]) fun h3 d=>?_;exact⟨y,(d.box 0 rfl).aF _ rfl,y,rfl,d.ca [1]⟩
end
end Go.Qw
namespace Go.Vc
open Go Wl
def iD(w:Pow)(offs:Int):Bool:=w.off||w.offs !=offs
end Go.Vc
namespace Go.Qw
open Go Go.Vc Go.Proofs Wl
section
variable {B:ap} {h0 h:Heap} {As:List HP} {a pw:Addr} {mc:aQ} {offs:Int} {da:List aM} {w:Pow} {ds:aS}
theorem aa.Wn(H:aa B h0 h (bm bh a pw mc offs da w ds::As)):∃l,Fu w l/\bZ h pw 56 (powC w l):=by
 obtain⟨ok,c⟩:=Go.Vc.aa.pV H;have b:=c.rest;obtain⟨l,d,e⟩:=aa.pd b;exact⟨l,d,e.box 0 rfl⟩
theorem GZ(H:aa B h0 h (bm bh a pw mc offs da w ds::As)):
  ac xa 96 #[vS (some a)] h fun v h'=>v=vU (iD w offs)/\h'=h:=by
 refine uM (some a) ?_;unfold of;obtain⟨ok,g⟩:=aa.db H;obtain⟨l,i,d⟩:=aa.Wn H;have f:cellOf h (a.add 8)=some (vS (some pw)):=g.cell (TT ok.l8);have c:cellOf h (a.add 9)=some (vQ vW offs):=g.cell (Ph ok.l8);refine bq (fun _=>?_) (fun e=>by cases e);refine⟨a,rfl,some pw,f,(BX l d).mono ?_⟩;rintro _ _ ⟨rfl,rfl⟩;refine⟨_,rfl,trivial,aW (fun e=>⟨trivial,?_⟩) fun e=>?_⟩
 ·have b:w.off=true:=by simpa using e
  exact⟨by unfold iD;rw[b];rfl,rfl⟩
 ·have b:w.off=false:=by simpa using e
  refine⟨a,rfl,some pw,f,a,rfl,offs,c,(AO l d).mono ?_⟩;rintro _ _ ⟨rfl,rfl⟩;exact⟨_,rfl,⟨c,trivial⟩,by unfold iD;rw[b];rfl,rfl⟩
end
end Go.Qw
namespace Go.Vc
open Go Wl
section
variable {k:Kit} {B:ap} {h0 h:Heap} {As:List HP} {a pw:Addr} {mc:aQ} {offs:Int} {w:Pow}
theorem aa.TY(H:aa B h0 h As):∀n,aa B h0 h (qh n emp++As)
 |0=>H
 |n+1=>(((aa.TY H n).comp (.one (A:=emp) (aG.refl _ _) trivial)).cl:aa B h0 h (emp::(qh n emp++As)))
theorem aa.RD(h8:mc.length=8)(H:aa B h0 h (ag a k.tS (bL mc pw offs (qh 64 none))::bP k.tP pw w::As)):aa B h0 h (bm k a pw mc offs (qh 64 none) w (qh 64 none)::As):=by
 have ok:fG mc (qh 64 none) (qh 64 (none:Option bf)):=⟨h8,by simp,by simp,fun i=>by
  simp only[qf,wg];split<;>rfl⟩
 have e:cW k pw (qh 64 none) (qh 64 (none:Option bf))=qh 64 emp:=by
  simp[cW,TR]
 refine aa.rP ok ?_;rw[e];have f:=aa.TY H 64;refine f.pick (fun i=>if i=0 then 64 else if i=1 then 65 else if i<66 then i-2 else i) (fun x y b=>by(try dsimp only at b);split at b<;>split at b<;>(try split at b)<;>(try split at b)<;>(try split at b)<;>(try split at b)<;>omega) fun i A d=>?_;rcases i with _|_|i
 ·simpa using d
 ·simpa using d
 ·by_cases g:i<64
  ·have c:(qh 64 emp++As)[i]?=some A:=d;rw[ql (by simpa using g)]at c
   try dsimp only
   rw[if_neg (by omega),if_neg (by omega),if_pos (by omega),ql (by simp;omega)];simpa using c
  ·have c:(qh 64 emp++As)[i]?=some A:=d;rw[qg (by simp;omega)]at c
   try dsimp only
   rw[if_neg (by omega),if_neg (by omega),if_neg (by omega),qg (by simp;omega)];simp only[List.length_replicate]at c⊢;obtain⟨j,rfl⟩:∃j,i=j+64:=⟨i-64,by omega⟩
   have e2:j+64+1+1-64=j+1+1:=by omega
   rw[e2];simpa using c
end
end Go.Vc
namespace Go.Qw
open Go Go.Vc Go.Proofs Wl
section
theorem Ie(x:bn)(pw:Addr)(offs:Int):aA xa (Instr.build 63 #[(0,cN x),(1,vS (some pw)),(2,vQ vW offs)]) (vV (bL (aq x) pw offs (qh 64 none)).toArray):=
 xY af (i:=_) rfl rfl rfl (vs:=[(0,cN x),(1,vS (some pw)),(2,vQ vW offs)]) (cells:=(bL (aq x) pw offs (qh 64 none)).toArray) (by kernel_rfl)
end
end Go.Qw
namespace Go.Vc
open Go Wl
section
variable {k:Kit} {B:ap} {h0 h:Heap} {As:List HP} {a pw b:Addr} {mc:aQ} {offs:Int} {da:List aM} {w:Pow} {ds:aS} {d:bf} {n:Nat}
theorem RE(h8:mc.length=8):(bL mc pw offs da).set (10+n) (vS (some b))=bL mc pw offs (da.set n (some b)):=by
 unfold bL;rw[q9 _ _ (by omega),h8,show 10+n-8=n+1+1 by omega,wF,wF,List.map_set]
theorem aa.Wo(ok:fG mc da ds)(I:n<64)(v:ds[n]?=some none)(H:aa B h0 h (ag a k.tS (bL mc pw offs (da.set n (some b)))::bP k.tP pw w::(cW k pw da ds++(gF k.tD (k.f pw) b d::As)))):aa B h0 h (bm k a pw mc offs (da.set n (some b)) w (ds.set n (some d))::As):=by
 have s:=ok.AV I v;have q:=ok.la;have r:=ok.ls;have p:fG mc (da.set n (some b)) (ds.set n (some d)):=⟨ok.l8,by simp[q],by simp[r],fun i=>by
  by_cases c:n=i
  ·subst c;rw[qf,qf,zO (by omega),zO (by omega)];rfl
  ·have:=ok.same i;rw[qf,qf]at this⊢;rw[zN c,zN c];exact this⟩
 have m:=Lg (k:=k) (pw:=pw) ok;have u:(cW k pw da ds)[n]?=some emp:=by
  simp only[cW,zB,s,v];rfl
 have g:cW k pw (da.set n (some b)) (ds.set n (some d))=(cW k pw da ds).set n (gF k.tD (k.f pw) b d):=by
  apply zr;intro j;simp only[cW,qW,zB,yW];by_cases l:n=j
  ·subst l;rw[if_pos rfl,if_pos (by omega),if_pos rfl,if_pos (by omega),if_pos rfl,if_pos (by omega)];rfl
  ·simp[l]
 refine aa.rP p ?_;rw[g];obtain⟨L,t⟩:∃L,L=cW k pw da ds:=⟨_,rfl⟩
 rw[<-t]at H u m⊢;have x:=H.cons (L.length+2) (A:=gF k.tD (k.f pw) b d) (by
  rw[qo,qo,qg (qp _),qZ];rfl)
 have e:(ag a k.tS (bL mc pw offs (da.set n (some b)))::bP k.tP pw w::(L++(gF k.tD (k.f pw) b d::As))).set (L.length+2) emp=ag a k.tS (bL mc pw offs (da.set n (some b)))::bP k.tP pw w::(L++(emp::As)):=by
  rw[wF,wF,q9 _ _ (qp _),qZ];rfl
 rw[e]at x;have G:=x.bj 3 [0,2,1];have o:L.set n emp=L:=by
  obtain⟨F,D⟩:=qk.1 u
  conv=>lhs;rw[<-D]
  exact List.set_getElem_self F
 have z:aa B h0 h (gF k.tD (k.f pw) b d::bP k.tP pw w::ag a k.tS (bL mc pw offs (da.set n (some b)))::(L.set n emp++(emp::As))):=by rw[o];exact G
 have E:=aa.NY n (by omega) z;have y:=aa.closeAll (ag a k.tS (bL mc pw offs (da.set n (some b)))::bP k.tP pw w::L.set n (gF k.tD (k.f pw) b d)) E;exact aa.lL (L:=ag a k.tS (bL mc pw offs (da.set n (some b)))::bP k.tP pw w::L.set n (gF k.tD (k.f pw) b d)) y.BI
end
open Go Wl Go.Qw
def cu(p:Pm)(extra:Int)(l:aD):ar:=⟨1,0,p,extra,ba l l.length,[]⟩
def fL(l:aD)(k:Nat):aS:=(qD 64).map fun i:Nat=>if(i:Int)∈(ba l l.length).take k then some (bf.new (l.getD i 0).toNat)else none
def dY(p:Pm)(extra:Int)(w:Pow)(l:aD):Int×Pow×aS:=
 if(dB l).2&&(bV p&&dC extra 0 16)then
  if(ba l l.length).any fun i=>decide (l.getD i.toNat 0<((aP (cu p extra l)).length:Int))then(7,w,[])
  else layAll (bF (cu p extra l) (ba l l.length)) w (fL l (ba l l.length).length)
 else(1,w,[])
theorem Lm(l:aD):fL l 0=qh 64 none:=by
 unfold fL;rw[List.take_zero];apply zr;intro j;simp only[qP,wg,zb,List.not_mem_nil,if_false];by_cases h:j<64
 ·simp[h,zb]
 ·simp[h]
theorem MR(l:aD)(k:Nat):(fL l k).length=64:=by simp[fL]
theorem Ln(l:aD)(k n:Nat)(c:k<(ba l l.length).length)(e:(ba l l.length)[k]=(n:Int))(b:n<64):(fL l k).set n (some (bf.new (l.getD n 0).toNat))=fL l (k+1):=by
 apply zr;intro j;unfold fL;rw[aK _ _ c,e,qW,qC,zt];by_cases d:j<64
 ·simp only[qP,zb d,qJ,qH,qB];by_cases a:n=j
  ·subst a;rw[if_pos rfl,if_pos b,if_pos (Or.inr rfl)]
  ·rw[if_neg a];have:¬(j:Int)=(n:Int):=by omega
   simp only[this,or_false]
 ·rw[if_neg (by omega)];rw[qX (by simp;omega),qX (by simp;omega)]
theorem pW(l:aD)(k:Nat)(x:Int):x∈ba l k↔∃n:Nat,n<k/\x=(n:Int)/\0<l.getD n 0:=by
 unfold ba;rw[zh,qE];constructor
 ·rintro⟨⟨n,b,rfl⟩,a⟩;exact⟨n,qF.1 b,rfl,by simpa using a⟩
 ·rintro⟨n,b,rfl,a⟩;exact⟨⟨n,qF.2 b,rfl⟩,by simpa using a⟩
theorem MS(l:aD)(k i:Nat)(a:i<(ba l k).length):∃n:Nat,n<k/\(ba l k)[i]=(n:Int)/\0<l.getD n 0:=(pW l k _).1 (qn a)
end Go.Vc
namespace Wl
open Go
def eT(p:Int×Int×Int):Nat:=(p.1*p.2.2).toNat
def uT(a:Nat)(b:aL)(i:Nat):aL:=(b.drop (i*a)).take a++(qh a 0).drop (b.drop (i*a)).length
theorem If(a:Nat)(b:aL)(i:Nat):(uT a b i).length=a:=by unfold uT;simp;omega
def aT(p:Int×Int×Int)(b:aL):bR:=(qD (countP p b.length).toNat).map (uT (eT p) b)
def FC(p:Int×Int×Int)(o b:Int)(n:Nat):Bool:=jt p (iy o b n) (ea p)
def mG(p:Int×Int×Int)(o b:Int):Option Nat:=(qD 16).find? (FC p o b)
def ck(p:Int×Int×Int)(o:Int):Nat->Option (aD)
 |0=>some []
 |n+1=>(ck p o n).bind fun l=>(mG p o n).map fun t=>l++[(t:Int)]
theorem jA{p:Int×Int×Int}{o:Int}:∀{n:Nat} {l:aD},ck p o n=some l->l.length=n
 |0,l,h=>by cases h;rfl
 |n+1,l,h=>by
  unfold ck at h;cases h1:ck p o n with
  |none=>rw[h1]at h;cases h
  |some k=>
   rw[h1]at h;cases h2:mG p o n with
   |none=>rw[h2]at h;cases h
   |some t=>
    rw[h2]at h;have h:some (k++[(t:Int)])=some l:=h;injection h with h
    rw[<-h,qw,jA h1];rfl
theorem AX{p:Int×Int×Int}{o b:Int}{t:Nat}(h:mG p o b=some t):t<16/\FC p o b t=true/\∀k,k<t->FC p o b k=false:=by
 unfold mG at h;obtain⟨f,c,vs,d,h3⟩:=List.find?_eq_some_iff_append.1 h;have e:=congrArg yw d;have i:t=c.length:=by
  have:(qD 16)[c.length]?=some t:=by rw[d,qg (qp _),qZ];rfl
  rw[zb (by simp at e;omega)]at this;injection this with this;exact this.symm
 refine⟨by simp at e;omega,f,fun k g=>?_⟩;have a:k∈c:=by
  have:(qD 16)[k]?=c[k]?:=by rw[d,ql (by omega)]
  rw[zb (by simp at e;omega)]at this;exact wu this.symm
 simpa using h3 k a
theorem rR{p:Int×Int×Int}{o:Int}:∀{n:Nat} {l:aD},ck p o n=some l->∀i (b:i<l.length),∃t:Nat,l[i]=(t:Int)/\mG p o i=some t
 |0,l,h=>by cases h;intro i b;simp at b
 |n+1,l,h=>by
  unfold ck at h;cases h1:ck p o n with
  |none=>rw[h1]at h;cases h
  |some k=>
   rw[h1]at h;cases h2:mG p o n with
   |none=>rw[h2]at h;cases h
   |some t=>
    rw[h2]at h;have h:some (k++[(t:Int)])=some l:=h;injection h with h
    subst h;intro i b;have c:=jA h1;by_cases a:i<k.length
    ·rw[List.getElem_append_left a];exact rR h1 i a
    ·have:i=k.length:=by simp at b;omega
     subst this;refine⟨t,by simp,?_⟩;rw[c];exact h2
end Wl
namespace Go.Qw
open Go Go.Vc Go.Proofs Wl
theorem Ig(p:Pm)(h:Heap)(d:bV p=true):ac xa 61 #[kP p] h fun v h'=>v=vQ vW (eT p)/\Sp h h' []:=by
 have c:=(cb p).1 d;refine sY p ?_;unfold pL;refine(Sp.refl h).boxed fun f h3 a=>⟨p.1,(a.box 0 rfl).cell0 rfl,p.2.2,(a.box 0 rfl).cell rfl,?_,a.ca []⟩
 have e:p.1*p.2.2<=16*24:=yc (by omega) (by omega) (by omega) (by omega);have b:0<=p.1*p.2.2:=vk (by omega) (by omega);rw[an _];unfold eT;congr 1;omega
theorem mH{p:Pm}(c:bV p=true):1<=eT p/\eT p<=384/\(eT p:Int)=p.1*p.2.2:=by
 have b:=(cb p).1 c;have d:p.1*p.2.2<=16*24:=yc (by omega) (by omega) (by omega) (by omega);have a:0<p.1*p.2.2:=vI (by omega) (by omega);unfold eT;omega
theorem jL{p:Pm}(a:bV p=true)(n:Nat):0<=countP p n/\countP p n<=n/\∀i:Nat,(i:Int)<countP p n->i*eT p<n:=by
 obtain⟨e,f,c⟩:=mH a;unfold countP;rw[a,z8];by_cases h0:0<(n:Int)
 ·rw[decide_eq_true h0,if_pos rfl,<-c];have g:((n:Int)-1)/(eT p:Int)<=n-1:=vr _ (by omega);have d:0<=((n:Int)-1)/(eT p:Int):=Int.ediv_nonneg (by omega) (by omega);refine⟨by omega,by omega,fun i b=>?_⟩;have h3:(i:Int)<=((n:Int)-1)/(eT p:Int):=by omega
  have h:=(Int.le_ediv_iff_mul_le (by omega)).1 h3;have j:((i*eT p:Nat):Int)=(i:Int)*(eT p:Int):=wc i (eT p);omega
 ·rw[decide_eq_false h0,if_neg (by decide)];exact⟨by omega,by omega,fun i b=>by omega⟩
theorem MT(p:Pm)(s:Sl)(b:aL)(h:Heap)(g:bV p=true)(l:Rd h s 1 aw b)(K:s.len<=s.cap)(Q:b.length<=2^30):ac xa 62 #[kP p,s] h fun v h'=>∃r:Sl,v=r/\Sp h h' [cz r (aT p b)]:=by
 refine ES p s ?_;unfold xd;have c:=l.len;obtain⟨O,P,X⟩:=mH g;obtain⟨U,T,c3⟩:=jL g b.length;refine(Sp.refl h).boxed fun k G q=>?_;refine⟨p,(q.box 0 rfl).aF _ rfl,?_⟩;refine(oQ p s.len G).mono ?_;rintro _ y ⟨rfl,B⟩;have J:=q.up B.ah;refine⟨_,rfl,?_⟩;obtain⟨n,N⟩:∃n:Nat,n=(countP p b.length).toNat:=⟨_,rfl⟩
 have d:(countP p (s.len:Nat))=(n:Int):=by rw[c];omega
 rw[d];have E:(aT p b).length=n:=by unfold aT;rw[<-N];simp
 have a:Sp h y [cz ⟨none,0,0⟩ ((aT p b).take 0),ag k 24 [vQ vW p.1,vQ vW p.2.1,vQ vW p.2.2]]:=J.Di 38 5 1 aw;refine az (fun t:Sl×Nat=>(t.1,(t.2:Int))) (fun t h'=>t.2<=n/\Sp h h' [cz t.1 ((aT p b).take t.2),ag k 24 [vQ vW p.1,vQ vW p.2.1,vQ vW p.2.2]]) (fun t=>n-t.2) (⟨none,0,0⟩,0) rfl ⟨by simp,a⟩ ?_;rintro⟨o,i⟩ h3 ⟨W,a⟩;dsimp only at*;refine al (fun e=>?_) (fun e=>?_)
 ·have F:i<n:=by omega
  have u:=c3 i (by rw[<-c,d];omega);refine⟨p,(a.box 1 rfl).aF _ rfl,(Ig p h3 g).mono ?_⟩;rintro _ Y ⟨rfl,x⟩;have z:=a.up x.ah;refine⟨_,rfl,z.Yh af aw iA (by decide) (0:UInt8) rfl rfl (eT p) (eT p) rfl rfl (qp _) (by omega) fun v M V R f=>?_⟩;have f:=f.cl;refine⟨p,(f.box 2 rfl).aF _ rfl,(Ig p M g).mono ?_⟩;rintro _ S ⟨rfl,A⟩;have m:=f.up A.ah;refine⟨_,rfl,?_⟩;have em:qc vW ((i:Int)*(eT p:Int))=((i*eT p:Nat):Int):=by
   rw[<-wc,an _]
  dsimp only;rw[em,qq];refine⟨⟨by omega,by omega⟩,?_⟩;have I:=(Seq.up l m.ah).drop (i*eT p) K;refine m.El af 0 rfl iA (fun _=>rfl) (v:=⟨_,s.len-i*eT p,s.cap-i*eT p⟩) I fX fun _ L j=>?_;have j:Sp h L [aj 5 v 1 aw (uT (eT p) b i),cz o ((aT p b).take i),ag k 24 [vQ vW p.1,vQ vW p.2.1,vQ vW p.2.2]]:=by
   simpa[uT]using j
  refine(j.bj 2 [1,0]).Ep af jy (by simp;omega) fun D h8 w=>?_;refine⟨(D,i+1),by dsimp only;rw[an _];rfl,⟨by dsimp only;omega,?_⟩,by dsimp only;omega⟩;dsimp only;rw[aK _ _ (show i<(aT p b).length by omega)];have H:(aT p b)[i]'(by omega)=uT (eT p) b i:=by simp[aT]
  rw[H];exact w
 ·rw[qi (by omega)]at a;exact⟨o,rfl,a.ca [0]⟩
theorem tG(a b:UInt8):qc vX ((qy (qj vX) (a.toNat:Int)^^^qy (qj vX) (b.toNat:Int)).toNat:Nat)=((a^^^b).toNat:Int):=by
 have e:∀a:UInt8,qy (qj vX) (a.toNat:Int)=a.toBitVec:=fun a=>by
  apply BitVec.eq_of_toNat_eq;have:=wC a;simp[qj]
 rw[e,e];have c:=(a.toBitVec^^^b.toBitVec).isLt;have:((a^^^b).toNat:Int)=((a.toBitVec^^^b.toBitVec).toNat:Int):=rfl;rw[this];show(((a.toBitVec^^^b.toBitVec).toNat:Nat):Int)%256=_;have:(a.toBitVec^^^b.toBitVec).toNat<256:=c;omega
def XE(a:UInt8):Nat->Int×Int×Int
 |0=>((a.toNat:Int),(3:Int),(0:Int))
 |1=>(((Gf.x2 a).toNat:Int),(1:Int),(a.toNat:Int))
 |_=>(((Gf.x2 (Gf.x2 a)).toNat:Int),(0:Int),((Gf.x3 a).toNat:Int))
theorem MU(a:UInt8)(h:Heap):ac xa 184 #[vQ vX a.toNat,vQ vX 3] h fun v h'=>v=vQ vX (Gf.x3 a).toNat/\h'=h:=by
 have e:∀n:Nat,n<256->
   ((qc vX ((qy (qj vX) (n:Int)&&&(qy (qj vX) (128:Int))).toNat:Nat)) !=(0:Int))=true->qc vX ((qy (qj vX) (qc vX ((n:Int)*2^min (1:Int).toNat (qj vX)))^^^(qy (qj vX) (27:Int))).toNat:Nat)=((Gf.x2 (w8 n)).toNat:Int):=by decide+kernel
 have c:∀n:Nat,n<256->
   ((qc vX ((qy (qj vX) (n:Int)&&&(qy (qj vX) (128:Int))).toNat:Nat)) !=(0:Int))=false->qc vX ((n:Int)*2^min (1:Int).toNat (qj vX))=((Gf.x2 (w8 n)).toNat:Int):=by decide+kernel
 refine KY _ _ ?_;unfold Fo;refine az (XE a) (fun t h'=>h'=h/\t<=2) (fun t=>2-t) 0 rfl ⟨rfl,by omega⟩ ?_;rintro t h' ⟨rfl,f⟩;rcases(show t=0∨t=1∨t=2 by omega)with rfl|rfl|rfl
 ·rw[show XE a 0=((a.toNat:Int),(3:Int),(0:Int))from rfl];dsimp only;refine xU (by decide) (aU (JN (by decide) ?_));refine⟨by decide,aU ?_⟩;refine bq (fun d=>?_) (fun d=>?_)
  ·rw[e _ (wC a) d,yn];refine⟨by decide,1,?_,⟨rfl,by decide⟩,by decide⟩;have:=tG 0 a;simp only[wL]at this;exact y6 rfl (y6 rfl this)
  ·rw[c _ (wC a) d,yn];refine⟨by decide,1,?_,⟨rfl,by decide⟩,by decide⟩;have:=tG 0 a;simp only[wL]at this;exact y6 rfl (y6 rfl this)
 ·rw[show XE a 1=(((Gf.x2 a).toNat:Int),(1:Int),(a.toNat:Int))from rfl];dsimp only;refine xU (by decide) (aU (JN (by decide) ?_));refine⟨by decide,aU ?_⟩;refine bq (fun d=>?_) (fun d=>?_)
  ·rw[e _ (wC (Gf.x2 a)) d,yn];refine⟨by decide,2,?_,⟨rfl,by decide⟩,by decide⟩;refine y6 rfl (y6 rfl ?_);have:=tG a (Gf.x2 a);rw[vG]at this;exact this
  ·rw[c _ (wC (Gf.x2 a)) d,yn];refine⟨by decide,2,?_,⟨rfl,by decide⟩,by decide⟩;refine y6 rfl (y6 rfl ?_);have:=tG a (Gf.x2 a);rw[vG]at this;exact this
 ·exact JN (b:=(0:Int)==0) (by decide) ⟨rfl,rfl⟩
def gJ:aD:=(qD 255).map fun i=>((Gf.pw i).toNat:Int)
def nl:aD:=(qD 256).map fun x=>if x=0 then 0 else((Gf.lg (w8 x):Nat):Int)
theorem fH:gJ.length=255:=by simp[gJ]
theorem pX:nl.length=256:=by simp[nl]
def fI:aQ:=gJ.map (Sc.enc (.int .u8))++nl.map (Sc.enc (.int .i64))
abbrev ib(h:Heap)(a:Addr):Prop:=bZ h a 187 fI
theorem Ha(k:IntKind)(l:aD):(l.map (Sc.enc (.int k))).all (·.oneCell')=true:=by
 rw[List.all_map,qU];intro x _;rfl
theorem MV(h:Heap):ac xa 132 #[] h fun v h'=>v=vV (gJ.map (Sc.enc (.int .u8))).toArray/\Sp h h' []:=by
 refine IW ?_;unfold CJ;refine(Sp.refl h).alloc af rfl fun a r p=>?_;refine az (fun i:Nat=>(((Gf.pw i).toNat:Int),(i:Int))) (fun i h'=>i<=255/\Sp h h' [ag a 182 (((qD 255).map fun j=>if j<i then((Gf.pw j).toNat:Int)else 0).map (Sc.enc (.int .u8)))]) (fun i=>255-i) 0 rfl ⟨by omega,?_⟩ ?_
 ·have e:((qD 255).map fun j=>if j<0 then((Gf.pw j).toNat:Int)else 0).map (Sc.enc (.int .u8))=qh 255 (vQ vX 0):=by simp;rfl
  rw[e];exact p
 ·rintro i q ⟨s,g⟩;refine al (fun k=>?_) (fun n=>?_)
  ·dsimp only at k;refine⟨⟨by dsimp only;omega,by dsimp only;omega⟩,?_⟩;dsimp only;rw[show((i:Int).toNat*1)=i by omega];refine g.storeAt af 0 rfl rfl rfl rfl rfl (by simp;omega) fun h3 f=>?_;refine(MU (Gf.pw i) h3).mono ?_;rintro v t ⟨rfl,rfl⟩;refine⟨_,rfl,i+1,?_,⟨by omega,?_⟩,by omega⟩
   ·rw[an _];rfl
   ·have e:((((qD 255).map fun j=>if j<i then((Gf.pw j).toNat:Int)else 0).map (Sc.enc (.int .u8))).set i (vQ vX (Gf.pw i).toNat))=(((qD 255).map fun j=>if j<i+1 then((Gf.pw j).toNat:Int)else 0).map (Sc.enc (.int .u8))):=by
     apply zr;intro j;simp only[qW,qP,qC,zt];by_cases d:i=j
     ·subst d;have:i<255:=by omega
      simp[this]
     ·by_cases b:j<255
      ·simp only[d,if_false,zb b,qJ];by_cases c:j<i
       ·rw[if_pos c,if_pos (by omega)]
       ·rw[if_neg c,if_neg (by omega)]
      ·simp[d,b]
    rw[<-e];exact f
  ·have m:i=255:=by dsimp only at n;omega
   subst m;have e:((qD 255).map fun j=>if j<255 then((Gf.pw j).toNat:Int)else 0)=gJ:=by
    unfold gJ;apply yX;intro j d;rw[if_pos (qF.1 d)]
   rw[e]at g;have o:=g.box 0 rfl;refine⟨gJ,⟨fH,o.aF _ (by rw[qi (qp _)])⟩,?_⟩;refine g.storeAll af 0 rfl rfl (gJ.map (Sc.enc (.int .u8))) rfl (by rw[qC,fH]) (Ha _ _) rfl fun h3 f=>?_;have l:=f.box 0 rfl;exact⟨gJ,⟨fH,l.aF _ (by rw[qi (qp _)])⟩,rfl,.zip f.ah⟩
theorem RF(h:Heap):ac xa 133 #[vV (gJ.map (Sc.enc (.int .u8))).toArray] h fun v h'=>v=vV (nl.map (Sc.enc (.int .i64))).toArray/\Sp h h' []:=by
 refine MI gJ ?_;unfold HV;refine(Sp.refl h).boxed fun a B z=>?_;refine z.alloc af rfl fun t A r=>?_;have n:=r.box 0 rfl;refine⟨gJ,⟨fH,n.aF _ (by show List.take _ (gJ.map _)=_;rw[qi (qp _)])⟩,?_⟩;let L:Nat->aD:=fun i=>(qD 256).map fun x=>if x≠0/\Gf.lg (w8 x)<i then((Gf.lg (w8 x):Nat):Int)else 0
 refine az (fun i:Nat=>(i:Int)) (fun i h'=>i<=255/\Sp h h' [emp,ag t 184 ((L i).map (Sc.enc (.int .i64)))]) (fun i=>255-i) 0 rfl ⟨by omega,?_⟩ ?_
 ·have e:(L 0).map (Sc.enc (.int .i64))=qh 256 (vQ vW 0):=by simp[L];rfl
  rw[e];exact r.gn 0 rfl fun _ _=>trivial
 ·rintro i h3 ⟨D,g⟩;refine al (fun s=>?_) (fun u=>?_)
  ·have c:i<255:=by omega
   have q:=wC (Gf.pw i);refine⟨((Gf.pw i).toNat:Int),⟨by omega,by omega,by simp[gJ,c]⟩,⟨by omega,by omega⟩,?_⟩;rw[show(((Gf.pw i).toNat:Int).toNat*1)=(Gf.pw i).toNat by omega];refine g.storeAt af 1 rfl rfl rfl rfl rfl (by simp[L];omega) fun y k=>?_;refine⟨i+1,by rw[an _];rfl,⟨by omega,?_⟩,by omega⟩;have e:((L i).map (Sc.enc (.int .i64))).set (Gf.pw i).toNat (vQ vW i)=(L (i+1)).map (Sc.enc (.int .i64)):=by
    apply zr;intro j;simp only[qW,qP,qC,zt,L];by_cases f:(Gf.pw i).toNat=j
    ·subst f;simp only[if_true,zb q,qJ,q];have m:(Gf.pw i).toNat≠0:=fun h0=>Gf.OB i c (yk.1 h0);rw[yn,Gf.OA i c,if_pos ⟨m,by omega⟩]
    ·by_cases d:j<256
     ·simp only[f,if_false,zb d,qJ];by_cases b:j=0
      ·simp[b]
      ·have E:Gf.lg (w8 j)≠i:=fun h0=>by
        apply f;rw[<-h0,Gf.Oz _ (fun w=>b (by have:=congrArg UInt8.toNat w;simpa[yP d]using this))];simp[yP d]
       by_cases l:Gf.lg (w8 j)<i
       ·rw[if_pos ⟨b,l⟩,if_pos ⟨b,by omega⟩]
       ·rw[if_neg fun p=>l p.2,if_neg fun p=>l (by omega)]
     ·simp[f,d]
   rw[<-e];exact k
  ·have c:i=255:=by omega
   subst c;have e:L 255=nl:=by
    unfold nl;apply yX;intro j f;by_cases b:j=0
    ·simp[b]
    ·rw[if_pos ⟨b,Gf.Er _⟩,if_neg b]
   rw[e]at g;have n:=g.box 1 rfl;refine⟨nl,⟨pX,n.aF _ (by rw[qi (qp _)])⟩,?_⟩;refine g.storeAll af 1 rfl rfl (nl.map (Sc.enc (.int .i64))) rfl (by rw[qC,pX]) (Ha _ _) rfl fun y k=>?_;have o:=k.box 1 rfl;exact⟨nl,⟨pX,o.aF _ (by rw[qi (qp _)])⟩,rfl,.zip k.ah⟩
theorem uU(h:Heap):ac xa 101 #[] h fun v h'=>∃a:Addr,v=vS (some a)/\Sp h h' [ag a 187 fI]:=by
 refine Pc ?_;unfold KR;refine(MV h).mono ?_;rintro v s ⟨rfl,q⟩;refine⟨gJ,rfl,?_⟩;refine q.alloc af rfl fun a r p=>?_;refine p.storeAll af 0 rfl rfl (gJ.map (Sc.enc (.int .u8))) rfl (by rw[qC,fH]) (Ha _ _) (by rw[qC,fH];rfl) fun h3 g=>?_;have k:=g.box 0 rfl;have d:ai h3 a 0 (gJ.map (Sc.enc (.int .u8))):=k.aF _ (by rw[qi (qp _)]);refine⟨gJ,⟨fH,d⟩,gJ,⟨fH,d⟩,?_⟩;refine(RF h3).mono ?_;rintro v t ⟨rfl,j⟩;refine⟨nl,rfl,kU.2 ⟨(j.ah).cells k.lt d,trivial⟩,_,xY af (i:=_) rfl rfl rfl (cells:=fI.toArray) ?_,?_⟩
 ·have b:∀z:aQ,z.length=511->wi (fun n=>[(0,255),(255,256)][n]?) z.toArray [(0,vV (gJ.map (Sc.enc (.int .u8))).toArray),(1,vV (nl.map (Sc.enc (.int .i64))).toArray)]=some fI.toArray:=by
   intro z b;have e:z=[]++z.take 255++z.drop 255:=by simp
   conv=>lhs;rw[e]
   rw[JS (vs:=gJ.map (Sc.enc (.int .u8))) rfl (by simp[fH]) (by simp[fH,b])];have e2:[]++gJ.map (Sc.enc (.int .u8))++z.drop 255=gJ.map (Sc.enc (.int .u8))++z.drop 255++[]:=by simp
   rw[e2,JS (vs:=nl.map (Sc.enc (.int .i64))) rfl (by simp[fH,pX]) (by simp[pX,b])];simp[wi,fI]
  exact b _ rfl
 ·have o:(Value.agg fI.toArray).cells.toList=fI:=rfl;refine(g.comp j).boxed fun m u f=>?_;have c:=f.box 0 rfl;exact⟨kU.2 ⟨c.aF _ (by rw[qi (qp _)]),trivial⟩,m,rfl,f.take 1 (fun i A l=>by cases i with|zero=>exact l|succ i=>simp at l)⟩
theorem AY{h:Heap}{a:Addr}(c:ib h a)(n:Nat)(b:n<255):cellOf h (a.add n)=some (vQ vX (Gf.pw n).toNat):=
 c.cell (by rw[fI,ql (by simp[fH,b])];simp[gJ,b])
theorem AZ{h:Heap}{a:Addr}(c:ib h a)(x:UInt8)(d:x≠0):cellOf h ((a.add 255).add x.toNat)=some (vQ vW (Gf.lg x)):=by
 have f:=c.addr;have e:(a.add 255).add x.toNat=a.add (255+x.toNat):=by rw[f,add_eq,add_eq,add_eq];congr 1;omega
 rw[e];refine c.cell ?_;have b:=wC x;have h0:x.toNat≠0:=fun h0=>d (yk.1 h0);rw[fI,qg (by simp[fH])];simp[fH,nl,b,h0]
theorem np(a:Addr)(h:Heap):ac xa 221 #[vS (some a)] h fun v h'=>v=vS (some a)/\h'=h:=by
 refine DK (some a) ?_;unfold tq;exact xU rfl ⟨rfl,rfl⟩
theorem xy(a:Addr)(h:Heap):ac xa 130 #[vS (some a)] h fun v h'=>v=vS (some a)/\h'=h:=by
 refine KT (some a) ?_;unfold Fb;exact xU rfl ⟨rfl,rfl⟩
theorem Jb(a:Addr)(h:Heap):ac xa 219 #[vS (some a)] h fun v h'=>v=vS (some a)/\h'=h:=by
 refine Lb (some a) ?_;unfold Ft;exact xU rfl ⟨rfl,rfl⟩
theorem Ba{x:UInt8}:((x.toNat:Int)=0)↔x=0:=⟨fun h=>yk.1 (by simpa using h),fun h=>by rw[h];rfl⟩
theorem Lo(a:Addr)(x y:UInt8)(h:Heap)(f:ib h a):ac xa 220 #[vS (some a),vQ vX x.toNat,vQ vX y.toNat] h fun v h'=>v=vQ vX (Gf.mul x y).toNat/\h'=h:=by
 refine DJ (some a) _ _ ?_;unfold tm;refine aU ?_;refine dN (fun h0=>⟨by rw[Gf.mul,if_pos (.inl (Ba.1 h0))];rfl,rfl⟩) (fun g=>?_);refine dN (fun h0=>⟨by rw[Gf.mul,if_pos (.inr (Ba.1 h0))];rfl,rfl⟩) (fun i=>?_);have c:x≠0:=fun h0=>g (Ba.2 h0);have b:y≠0:=fun h0=>i (Ba.2 h0);refine(np a h).mono ?_;rintro v j ⟨rfl,rfl⟩;have l:=wC x;have m:=wC y;have n:=Gf.Er x;have k:=Gf.Er y;refine⟨some a,rfl,a,rfl,⟨by omega,by omega⟩,(Gf.lg x:Int),?_,a,rfl,⟨by omega,by omega⟩,(Gf.lg y:Int),?_,by decide,a,rfl,?_⟩
 ·rw[show((x.toNat:Int).toNat*1)=x.toNat by omega];exact AZ f x c
 ·rw[show((y.toNat:Int).toNat*1)=y.toNat by omega];exact AZ f y b
 rw[an _];have e:zY ((Gf.lg x:Int)+(Gf.lg y:Int)) 255=(((Gf.lg x+Gf.lg y)%255:Nat):Int):=by
  rw[ye (by omega)];rfl
 rw[e];have d:=yM (Gf.lg x+Gf.lg y) (show 255>0 by decide);refine⟨⟨by omega,by omega⟩,_,?_,by rw[Gf.mul,if_neg (by simp[c,b])],rfl⟩;rw[show((((Gf.lg x+Gf.lg y)%255:Nat):Int).toNat*1)=(Gf.lg x+Gf.lg y)%255 by omega];exact AY f _ d
theorem TZ(a:Addr)(x:UInt8)(h:Heap)(d:ib h a):ac xa 180 #[vS (some a),vQ vX x.toNat] h fun v h'=>v=vQ vX (Gf.inv x).toNat/\h'=h:=by
 refine DG (some a) _ ?_;unfold tj;refine dN (fun h0=>⟨by rw[Gf.inv,if_pos (Ba.1 h0)];rfl,rfl⟩) (fun f=>?_);have b:x≠0:=fun h0=>f (Ba.2 h0);refine(np a h).mono ?_;rintro v g ⟨rfl,rfl⟩;have j:=wC x;have i:=Gf.Er x;refine⟨some a,rfl,a,rfl,⟨by omega,by omega⟩,(Gf.lg x:Int),?_,by decide,a,rfl,?_⟩
 ·rw[show((x.toNat:Int).toNat*1)=x.toNat by omega];exact AZ d x b
 rw[an _];have e:zY (255-(Gf.lg x:Int)) 255=(((255-Gf.lg x)%255:Nat):Int):=by
  rw[ye (by omega)];omega
 rw[e];have c:=yM (255-Gf.lg x) (show 255>0 by decide);refine⟨⟨by omega,by omega⟩,_,?_,by rw[Gf.inv,if_neg b],rfl⟩;rw[show((((255-Gf.lg x)%255:Nat):Int).toNat*1)=(255-Gf.lg x)%255 by omega];exact AY d _ c
theorem Ua(a:Addr)(n:Int)(h:Heap)(i:ib h a):ac xa 186 #[vS (some a),vQ vW n] h fun v h'=>v=vQ vX (Gf.pw (n%255).toNat).toNat/\h'=h:=by
 refine DH (some a) n ?_;unfold tk;have j:=y8 n (show(0:Int)<255 by decide);have g:-255<n.tmod 255:=Int.lt_tmod_of_pos n (by decide);have b:=JR n 255 (by decide);have d:=Int.emod_nonneg n (show(255:Int)≠0 by decide);have f:=Int.emod_lt_of_pos n (show(0:Int)<255 by decide);refine⟨by decide,cv (fun s h'=>s=n%255/\h'=h) ?_ ?_⟩
 ·refine al (fun c=>?_) (fun e=>?_)
  ·rw[if_pos c]at b;exact⟨by rw[an _,b],rfl⟩
  ·rw[if_neg e]at b;exact⟨b.symm,rfl⟩
 ·rintro s h' ⟨rfl,rfl⟩;refine(np a h').mono ?_;rintro v g ⟨rfl,rfl⟩;refine⟨some a,rfl,a,rfl,⟨d,f⟩,_,?_,rfl,rfl⟩;rw[wO];exact AY i _ (by omega)
theorem lu(p:Pm)(h:Heap):ac xa 141 #[kP p] h fun v h'=>v=vQ vW (cG p)/\Sp h h' []:=by
 refine KW p ?_;unfold Ff;refine(Sp.refl h).boxed fun a g c=>?_;refine⟨p,(c.box 0 rfl).aF _ rfl,?_⟩;refine(dR p g).mono ?_;rintro v i ⟨rfl,f⟩;have b:=c.comp f;have d:=b.box 0 rfl;refine⟨_,rfl,aW (fun e=>⟨by simp[cG,e],.zip b.ah⟩) (fun e=>?_)⟩;refine⟨_,d.cell0 rfl,_,d.cell rfl,?_,.zip b.ah⟩;have:=(cb p).1 e;rw[an _,cG,if_pos e]
theorem RG(n i:Int)(h:Heap):ac xa 185 #[vQ vW n,vQ vW i] h fun v h'=>∃s:Sl,v=s/\
  Sp h h' [aj 5 s 1 aw (if 1<=n/\n<=64/\0<=i/\i<n then(qh n.toNat (0:UInt8)).set i.toNat 1 else[])]:=by
 refine KZ n i ?_;unfold Fp;have a:∀c:Prop,¬c->[Decidable c]->Sp h h [aj 5 ⟨none,0,0⟩ 1 aw (if c then(qh n.toNat (0:UInt8)).set i.toNat 1 else[])]:=fun c b _=>by
  rw[if_neg b];exact(Sp.refl h).nil 5 1 aw
 refine aU ?_;refine al (fun e=>⟨⟨none,0,0⟩,rfl,a _ (by omega)⟩) (fun k=>?_);refine al (fun e=>⟨⟨none,0,0⟩,rfl,a _ (by omega)⟩) (fun e2=>?_);refine al (fun e=>⟨⟨none,0,0⟩,rfl,a _ (by omega)⟩) (fun o=>?_);refine al (fun e=>⟨⟨none,0,0⟩,rfl,a _ (by omega)⟩) (fun l=>?_);refine(Sp.refl h).make af aw ⟨_,_,rfl,rfl,rfl,rfl,rfl,rfl⟩ (by decide) 0 rfl rfl n.toNat n.toNat (by omega) (by omega) (qp _) (by omega) fun s m g b f=>?_;refine f.set af 0 rfl (fun _=>rfl) rfl i.toNat (by omega) (by simp;omega) 1 rfl rfl rfl fun j d=>?_;refine⟨s,rfl,?_⟩;rw[if_pos (by omega)];exact d
theorem Jc(s:Int)(h:Heap):ac xa 142 #[vQ vY s] h fun v h'=>∃a:Addr,v=vS (some a)/\Sp h h' [ag a 252 [vQ vZ (qc vZ s)]]:=by
 refine KX s ?_;unfold Fg;exact(Sp.refl h).boxed fun a c b=>⟨a,rfl,b⟩
theorem tH(a:Addr)(s:Int)(h:Heap)(d:bZ h a 252 [vQ vZ s]):ac xa 143 #[vS (some a)] h fun v h'=>v=vQ vY (told s)/\bZ h' a 252 [vQ vZ (Hv s)]/\aG (·≠a.block) h h':=by
 refine AD (some a) ?_;unfold pQ;refine xU rfl ⟨a,rfl,s,d.cell0 rfl,a,rfl,?_⟩;refine Ou af d rfl _ rfl rfl rfl (qp _) fun e b c _=>?_;exact⟨a,rfl,_,b.cell0 rfl,by decide,rfl,b,c⟩
theorem FD(a:Addr)(s n:Int)(h:Heap)(f:bZ h a 252 [vQ vZ s])(i:0<n:=by omega)(d:n<=2^62:=by omega):ac xa 197 #[vS (some a),vQ vW n] h fun v h'=>v=vQ vW (jH s n)/\bZ h' a 252 [vQ vZ (Hv s)]/\aG (·≠a.block) h h':=by
 refine xJ (some a) n ?_;unfold oD;refine aU (xU rfl (al (fun e=>by omega) fun _=>?_));refine(tH a s h f).mono ?_;rintro v g ⟨rfl,b,c⟩;exact⟨_,rfl,by rw[wrap_u64];omega,rfl,b,c⟩
theorem Oa(a b:Nat)(c:a<=2^40)(d:b<=2^40):qc vW ((a:Int)+(b:Int))=((a+b:Nat):Int):=by
 rw[an _];rfl
theorem RH(l:Nat)(h:Heap)(f:l<=20):ac xa 225 #[vQ vW l] h fun v h'=>v=vQ vW (dI l)/\h'=h:=by
 have i:∀l:Nat,l<=20->∀r:Nat,r<=5->(∀j,j<r->j*j<l)->r*r<l->r<5:=by decide
 have m:∀l:Nat,l<=20->∀r:Nat,r<=5->(∀j,j<r->j*j<l)->¬r*r<l->r=dI l:=by decide
 refine DL l ?_;unfold tt;refine az (fun r:Nat=>(r:Int)) (fun r h'=>h'=h/\r<=5/\∀j,j<r->j*j<l) (fun r=>5-r) 0 rfl ⟨rfl,by omega,fun j d=>by omega⟩ ?_;rintro r h' ⟨rfl,c,d⟩;have k:r*r<=25:=Nat.mul_le_mul c c;have e:qc vW ((r:Int)*(r:Int))=((r*r:Nat):Int):=by rw[<-wc];exact oF _
 rw[e];refine al (fun g=>?_) (fun n=>?_)
 ·have a:r*r<l:=by omega
  have o:=i l f r c d a;refine⟨r+1,by rw[an _];rfl,⟨rfl,by omega,fun j b=>?_⟩,by omega⟩;rcases Nat.lt_succ_iff_lt_or_eq.1 b with b|rfl
  ·exact d j b
  ·exact a
 ·exact⟨by rw[m l f r c d (by omega)],rfl⟩
theorem RI(r:Nat)(h:Heap)(a:r<=5):ac xa 115 #[vQ vZ r] h fun v h'=>v=vQ vW (BL r)/\h'=h:=by
 intro w b;refine(Tryz.bits_Len (r:Int) w (by omega) (by omega)).mono ?_;rintro e w' ⟨rfl,rfl⟩;have k:∀r:Nat,r<=5->Lib.bitLen r=BL r:=by decide+kernel
 exact⟨_,rfl,cA.refl _,by rw[qq,k r a],b⟩
theorem MW(l k:Nat)(h:Heap)(b:l<=20)(a:1<=l)(g:k<=20)(f:1<=k):ac xa 198 #[vQ vW l,vQ vW k] h fun v h'=>v=vQ vW (mZ l k)/\h'=h:=by
 have r:∀k:Nat,k<=20->1<k->qc vW ((k:Int)*qc vW ((k:Int)-1))=((k*(k-1):Nat):Int)/\k*(k-1)≠0:=by decide
 have p:∀l:Nat,l<=20->1<=l->1<=dI l/\dI l<=5:=by decide
 have c3:∀l:Nat,l<=20->1<=l->qc vW (w5 (l:Int) (dI l))=((l/dI l:Nat):Int):=by decide
 have o:∀l:Nat,l<=20->1<=l->∀k:Nat,k<=20->1<=k->qc vW ((l:Int)*k)≠0:=by decide+kernel
 have x:∀k:Nat,k<=20->1<k->qc vW (w5 (1048576:Int) (qc vW ((k:Int)*qc vW ((k:Int)-1))))=((1048576/(k*(k-1)):Nat):Int):=by decide+kernel
 have y:∀l:Nat,l<=20->1<=l->qc vW (w5 (1048576:Int) (l:Int))=((1048576/l:Nat):Int):=by decide+kernel
 have w:∀l:Nat,l<=20->1<=l->∀k:Nat,k<=20->1<=k->qc vW (w5 (qc vW ((1048576:Int)*dI l)) (qc vW ((l:Int)*k)))=((1048576*dI l/(l*k):Nat):Int):=by decide+kernel
 have q:∀l:Nat,l<=20->1<=l->qc vW (w5 (qc vW ((qc vW ((1048576:Int)*dI l))*BL (dI l))) (l:Int))=((1048576*dI l*BL (dI l)/l:Nat):Int):=by decide+kernel
 have j:∀l:Nat,l<=20->∀k:Nat,k<=20->1048576*dI l/(l*k)<=2^30/\1048576*dI l*BL (dI l)/l<=2^30/\1048576/(k*(k-1))<=2^30/\1048576/l<=2^30:=by decide+kernel
 refine AK l k ?_;unfold pT;have i:=j l b k g;refine(RH l h b).mono ?_;rintro v t ⟨rfl,rfl⟩;have n:=p l b a;refine⟨_,rfl,by omega,cv (fun s h'=>s=(((if k>1 then 1048576/(k*(k-1))else 1048576/l):Nat):Int)/\h'=t) ?_ ?_⟩
 ·refine al (fun e=>?_) (fun e=>?_)
  ·have:=r k g (by omega);refine⟨by rw[this.1];omega,by rw[x k g (by omega),if_pos (by omega)],rfl⟩
  ·refine⟨by rw[y l b a,if_neg (by omega)],rfl⟩
 ·rintro s m ⟨rfl,rfl⟩;have z:(if k>1 then 1048576/(k*(k-1))else 1048576/l)<=2^30:=by split<;>first|exact i.2.2.1|exact i.2.2.2
  refine aU ?_;dsimp only;refine⟨show((dI l:Nat):Int)≠0 by omega,?_⟩;rw[c3 l b a];refine al (fun e=>⟨o l b a k g f,?_,rfl⟩) (fun e=>?_)
  ·rw[w l b a k g f,Oa _ _ (by omega) (zH i.1 (by decide)),mZ,if_pos (c:=k<l/dI l) (Int.ofNat_lt.1 e)]
  ·refine dN (fun e2=>?_) (fun e2=>?_)
   ·have u:qc vZ (dI l:Int)=(dI l:Int):=by rw[wrap_u64];omega
    rw[u];refine(RI (dI l) m n.2).mono ?_;rintro v h3 ⟨rfl,rfl⟩;refine⟨_,rfl,by omega,?_,rfl⟩;rw[q l b a,Oa _ _ (by omega) (zH i.2.1 (by decide)),mZ,if_neg (c:=k<l/dI l) (fun d=>e (Int.ofNat_lt.2 d)),if_pos (c:=k=l/dI l) (y0.1 e2)]
   ·exact⟨by rw[mZ,if_neg (c:=k<l/dI l) (fun d=>e (Int.ofNat_lt.2 d)),if_neg (c:=k=l/dI l) (fun d=>e2 (y0.2 d)),Nat.add_zero],rfl⟩
theorem Pq(l:Nat)(h:Heap)(a:l<=20)(b:1<=l):ac xa 145 #[vQ vW l] h fun v h'=>∃s:Sl,v=s/\Sp h h' [aj 3 s 1 aE (gY l)]:=by
 refine Ce l ?_;unfold rJ;refine aU (al (fun e=>by omega) fun _=>al (fun e=>by omega) fun _=>?_);refine(Sp.refl h).make af aE kS (by decide) 0 rfl rfl 0 l rfl rfl (by omega) (by omega) fun s p j r m=>?_;refine az (fun t:Sl×Nat=>(t.1,((kd l t.2:Nat):Int),((t.2+1:Nat):Int))) (fun t h'=>t.2<=l/\Sp h h' [aj 3 t.1 1 aE ((gY l).take t.2)]) (fun t=>l-t.2) (s,0) rfl ⟨by simp,by simpa using m⟩ ?_;rintro⟨s,k⟩ d ⟨q,c⟩;dsimp only at*;refine al (fun e=>?_) (fun e=>?_)
 ·refine(MW l (k+1) d a b (by omega) (by omega)).mono ?_;rintro v h3 ⟨rfl,rfl⟩;refine⟨_,rfl,?_⟩;have n:=BM l a k (by omega);have o:=Es l a (k+1) (by omega);have e2:qc vW ((kd l k:Int)+(mZ l (k+1):Int))=((kd l (k+1):Nat):Int):=by rw[an _,kd];rfl
  dsimp only;rw[e2];refine c.push af 0 rfl kS rfl (by decide) (fun _=>rfl) iU _ rfl (by decide) (by rw[qR];omega) fun g u f=>?_;refine⟨(g,k+1),by dsimp only;rw[an _];rfl,⟨by dsimp only;omega,?_⟩,by dsimp only;omega⟩;have i:(gY l).take (k+1)=(gY l).take k++[((kd l (k+1):Nat):Int)]:=by
   rw[aK _ _ (by rw[jp];omega)];simp[gY]
  dsimp only;rw[i];exact f
 ·refine⟨s,rfl,?_⟩;rw[qi (by rw[jp];omega)]at c;exact c
theorem MX{p:ap}(t:Sl)(lt:aD)(x b:Int)(h:Heap)(i:Seq h p t 1 aE lt)(q:0<=x)(a:lt.getLast?=some b)(d:x<b)(s:lt.length<=2^40):
  ac xa 196 #[t,vQ vW x] h fun v h'=>v=vQ vW (OC lt x)/\h'=h:=by
 refine AJ t x ?_;unfold pS;have r:=i.len;have l:lt≠[]:=fun e=>by rw[e]at a;cases a
 have m:0<lt.length:=List.length_pos_iff.2 l;have f:lt[lt.length-1]=b:=by rw[List.getLast?_eq_getElem?,qd (by omega)]at a;simpa using a
 refine aU (dN (fun e=>by omega) fun _=>al (fun e=>by omega) fun _=>?_);rw[an _];refine i.cK (lt.length-1) (by omega) (by omega) _ rfl ?_;rw[f];refine al (fun e=>by omega) fun _=>?_;have j:(lt.findIdx fun y=>decide (y>x))<lt.length:=List.findIdx_lt_length_of_exists ⟨b,List.mem_of_getLast? a,by simpa using d⟩;refine az (fun k:Nat=>(k:Int)) (fun k h'=>h'=h/\k<=(lt.findIdx fun y=>decide (y>x))) (fun k=>lt.length-k) 0 rfl ⟨rfl,by omega⟩ ?_;rintro k h' ⟨rfl,n⟩;refine al (fun e=>?_) (fun e=>by omega);have g:k<lt.length:=by omega
 refine i.cK k rfl g _ rfl ?_;rw[an _];refine al (fun e2=>?_) (fun e2=>?_)
 ·have:(lt.findIdx fun y=>decide (y>x))=k:=Nat.le_antisymm (Nat.le_of_not_lt fun c=>by have:=List.not_of_lt_findIdx c;simp at this;omega) n;exact⟨by rw[OC,this];rfl,rfl⟩
 ·refine⟨k+1,rfl,⟨rfl,?_⟩,by omega⟩;refine Nat.lt_of_le_of_ne n fun o=>?_;have:=List.findIdx_getElem (xs:=lt) (p:=fun y=>decide (y>x)) (w:=j);simp only[<-o]at this;simp at this;omega
theorem Ch(t:Sl)(n:Nat)(a:Addr)(s:Int)(h:Heap)(f:Seq h (·≠a.block) t 1 aE (gY n))(o:bZ h a 252 [vQ vZ s])(c:1<=n)(i:n<=20):
  ac xa 144 #[t,vS (some a)] h fun v h'=>v=vQ vW (Jr s n)/\bZ h' a 252 [vQ vZ (Hv s)]/\aG (·≠a.block) h h':=by
 refine DF t (some a) ?_;unfold th;have j:=f.len;rw[jp]at j;refine dN (fun e=>by omega) fun _=>?_;rw[an _];refine f.cK (n-1) (by omega) (by rw[jp];omega) _ rfl ?_;have l:(gY n)[n-1]'(by rw[jp];omega)=((kd n n:Nat):Int):=by simp only[gY,List.getElem_map,List.getElem_range];rw[show n-1+1=n by omega]
 rw[l];have q:=Kd n i c;have k:=BM n i n i;refine(FD a s _ h o).mono ?_;rintro v m ⟨rfl,g,b⟩;have d:=px s (kd n n);refine⟨_,rfl,(MX t (gY n) _ _ m (f.ah b) d.1 (Et n c) d.2 (by rw[jp];omega)).mono ?_⟩;rintro v p ⟨rfl,rfl⟩;exact⟨_,rfl,rfl,g,b⟩
theorem RJ(a:Addr)(s:Int)(n k:Nat)(h:Heap)(E:bZ h a 252 [vQ vZ s])(V:n<=64)(R:k<=n):
  ac xa 146 #[vS (some a),vQ vW n,vQ vW k] h fun v h'=>∃r:Sl,v=r/\aa (fun b=>b<h.size/\¬b=a.block) h h' [ag a 252 [vQ vZ (fo n s (upto n) k).1],aj 3 r 1 aE (BJ s n k)]:=by
 refine Fh (some a) n k ?_;unfold xo;refine aU (al (fun e=>by omega) fun _=>al (fun e=>by omega) fun _=>al (fun e=>by omega) fun _=>al (fun e=>by omega) fun _=>?_);have H:aa (fun b=>b<h.size/\¬b=a.block) h h [ag a 252 [vQ vZ s]]:=.Qz (fun b=>b=a.block) (fun b z=>by rw[z];exact E.lt) ⟨E,rfl⟩;refine H.make af aE kS (by decide) 0 rfl rfl n n rfl rfl (qp _) (by omega) fun v Q N S L=>?_;refine az (fun i:Nat=>(i:Int)) (fun i h'=>i<=n/\aa (fun b=>b<h.size/\¬b=a.block) h h' [ag a 252 [vQ vZ s],aj 3 v 1 aE ((upto n).take i++qh (n-i) 0)]) (fun i=>n-i) 0 rfl ⟨by omega,by simpa using L⟩ ?_;rintro i P ⟨U,A⟩;refine al (fun e=>?_) (fun e=>?_)
 ·have m:i<n:=by omega
  refine A.set af 1 rfl (fun _=>rfl) rfl i rfl (by simp[fw];omega) (i:Int) rfl rfl rfl fun h3 f=>?_;refine⟨i+1,by rw[an _];rfl,⟨by omega,?_⟩,by omega⟩;have e2:((upto n).take i++qh (n-i) 0).set i (i:Int)=(upto n).take (i+1)++qh (n-(i+1)) 0:=by
   have D:((upto n).take i).length=i:=by rw[qR,fw];omega
   rw[aK _ _ (by rw[fw];omega),q9 _ _ (by omega),D,qZ,show n-i=n-(i+1)+1 by omega,yU,zR];simp[upto]
  rw[<-e2];exact f
 ·have m:i=n:=by omega
  subst m;have e2:(upto i).take i++qh (i-i) 0=upto i:=by rw[qi (by rw[fw];omega)];simp
  rw[e2]at A;refine az (fun j:Nat=>(j:Int)) (fun j h'=>j<=k/\aa (fun b=>b<h.size/\¬b=a.block) h h' [ag a 252 [vQ vZ (fo i s (upto i) j).1],aj 3 v 1 aE (fo i s (upto i) j).2]) (fun j=>k-j) 0 rfl ⟨by omega,A⟩ ?_;rintro j h3 ⟨T,f⟩;have x:=py i s (upto i) j;rw[fw]at x;refine al (fun I=>?_) (fun I=>?_)
  ·rw[an _];have d:((i:Int)-(j:Int))=((i-j:Nat):Int):=by omega
   rw[d];refine(FD a _ _ h3 (f.box 0 rfl)).mono ?_;rintro w F ⟨rfl,B,y⟩;have l:=f.oY 0 rfl y B;have K:=px (fo i s (upto i) j).1 ((i-j:Nat):Int);refine⟨_,rfl,?_⟩;dsimp only;rw[an _,an _];have G:(j:Int)+jH (fo i s (upto i) j).1 ((i-j:Nat):Int)=((j+(jH (fo i s (upto i) j).1 ((i-j:Nat):Int)).toNat:Nat):Int):=by omega
   have c:j+(jH (fo i s (upto i) j).1 ((i-j:Nat):Int)).toNat<(fo i s (upto i) j).2.length:=by omega
   rw[G];have g:=l.seq 1 rfl (fun _=>rfl);refine g.cK _ rfl c _ rfl ?_;refine g.cK j rfl (by omega) _ rfl ?_;refine l.set af 1 rfl (fun _=>rfl) rfl j rfl (by omega) _ rfl rfl rfl fun M o=>⟨trivial,?_⟩
   refine o.set af 1 rfl (fun _=>rfl) rfl _ rfl (by simpa using c) _ rfl rfl rfl fun O J=>⟨trivial,?_⟩
   refine⟨j+1,rfl,⟨by omega,?_⟩,by omega⟩;rw[fo,nC,iW,iW,Go.Vc.getD_lt c,Go.Vc.getD_lt (show j<(fo i s (upto i) j).2.length by omega)];exact J
  ·have p:j=k:=by omega
   subst p;refine⟨⟨by omega,by omega⟩,?_⟩;have u:=f.seq 1 rfl (fun _=>rfl);refine(kF ⟨v.ptr,j,v.cap⟩ ((fo i s (upto i) j).2.take j) h3 (u.take j (by omega)) (by rw[qR];omega)).mono ?_;rintro w F ⟨r,rfl,l⟩;refine⟨r,rfl,?_⟩;refine(HY r _ F (l.own 0 rfl) (by rw[qR];omega)).mono ?_;rintro w M ⟨rfl,q,t⟩;have o:=(f.comp l).jN 2 rfl t q;exact⟨(),rfl,r,rfl,o.del 1⟩
theorem Ih(p:Pm)(seed id:Int)(h:Heap):ac xa 111 #[kP p,vQ vY seed,vQ vW id] h fun v h'=>∃r:Sl,v=r/\Sp h h' [aj 3 r 1 aE (if bV p&&cg id then eO (cG p).toNat seed id else[])]:=by
 refine ME p seed id ?_;unfold HR;refine(Sp.refl h).boxed fun a B F=>?_;refine aU ?_;refine⟨p,(F.box 0 rfl).aF _ rfl,(dR p B).mono ?_⟩;rintro v k ⟨rfl,L⟩;have w:=F.comp L;have g:(bV p&&cg id)=false->Sp h k [aj 3 ⟨none,0,0⟩ 1 aE (if bV p&&cg id then eO (cG p).toNat seed id else[])]:=fun G=>by
  rw[G];exact(w.nil 3 1 aE).take 1 (fun i A c=>by cases i with|zero=>exact c|succ i=>simp at c)
 refine⟨_,rfl,aW (fun e=>⟨⟨none,0,0⟩,rfl,g (by rw[e];rfl)⟩) fun m=>?_⟩;refine al (fun e=>⟨⟨none,0,0⟩,rfl,g (by simp[cg];omega)⟩) fun T=>?_;refine al (fun e=>⟨⟨none,0,0⟩,rfl,g (by simp[cg];omega)⟩) fun e2=>?_;have hid:cg id=true:=by simp[cg];omega
 rw[m,hid];refine⟨p,(w.box 0 rfl).aF _ rfl,(lu p k).mono ?_⟩;rintro v h3 ⟨rfl,M⟩;have K:=w.comp M;have Q:=(cb p).1 m;have V:cG p=p.1+p.2.1:=by rw[cG,if_pos m]
 obtain⟨n,S⟩:∃n:Nat,cG p=n:=⟨(cG p).toNat,by omega⟩
 refine⟨_,rfl,?_⟩;dsimp only;rw[S,qq];refine(Jc _ h3).mono ?_;rintro v O ⟨d,rfl,z⟩;refine⟨some d,rfl,?_⟩;refine(tH d _ O (z.box 0 rfl)).mono ?_;rintro v P ⟨rfl,s,j⟩;have D:=z.oY 0 rfl j s;refine⟨_,rfl,?_⟩;refine(Pq n P (by omega) (by omega)).mono ?_;rintro v I ⟨t,rfl,l⟩;have f:=D.comp l;refine⟨t,rfl,?_⟩;have y:∀b,t.on b->b≠d.block:=fun b o U=>by
  have B:=(l.fresh 0 rfl).2 b o;have k:=(D.box 0 rfl).lt;omega
 refine(Ch t n d _ I ((l.own 0 rfl).seq (fun _=>rfl) y) (f.box 0 rfl) (by omega) (by omega)).mono ?_;rintro v N ⟨rfl,x,u⟩;have E:=f.oY 0 rfl u x;refine⟨_,rfl,?_⟩;refine(RJ d _ n _ N (E.box 0 rfl) (by omega) (pz _ n (by omega) (by omega))).mono ?_;rintro v h8 ⟨r,rfl,J⟩;have R:=E.call 0 rfl (fun b=>b=d.block) (fun q H b o=>by rw[o];exact H.2) J;exact⟨r,rfl,r,rfl,((K.comp R).take 3 (fun i A c=>by cases i with|zero=>exact c|succ i=>simp at c))⟩
end Go.Qw
