/- Lemmas. -/
import Derived.Test.YtadfimdanpoafaaGreatDoorKA
import Derived.Test.YtadfimdanpoafaaGreatDoorShelfB
import Derived.Test.YtadfimdanpoafaaGreatDoorPlI
import Derived.Test.YtadfimdanpoafaaGreatDoorPlJ
set_option linter.unusedVariables false
set_option maxHeartbeats 2000000
set_option linter.unusedSimpArgs false
open Go.Proofs.Tryz renaming prog -> xx
open List renaming all_cons -> vN, all_eq_false -> yh, all_eq_true -> qN, any_append -> y6, any_eq_false -> wc, any_eq_true -> wV, append_assoc -> qp, append_nil -> qS, drop_eq_getElem_cons -> qV, drop_of_length_le -> zb, eq_nil_of_length_eq_zero -> qZ, ext_getElem? -> zD, filter_append -> zj, filter_cons -> zr, filter_eq_nil_iff -> wG, filter_nil -> yZ, flatMap_append -> zh, flatMap_cons -> zl, flatMap_nil -> z8, getD_eq_getElem?_getD -> qe, getElem?_append_left -> qm, getElem?_append_right -> qj, getElem?_cons_succ -> qy, getElem?_drop -> wC, getElem?_eq_getElem -> qd, getElem?_eq_none -> zg, getElem?_eq_some_iff -> qn, getElem?_map -> qO, getElem?_range -> zw, getElem?_set -> qX, getElem?_set_ne -> zN, getElem?_set_self -> zy, getElem_map -> zS, getElem_mem -> qh, getElem_of_mem -> qH, getElem_zip -> yT, length -> yW, length_append -> qx, length_cons -> q9, length_filter_le -> qP, length_map -> qu, length_mergeSort -> wO, length_nil -> yt, length_range -> zx, length_set -> zA, map_append -> qT, map_cons -> zV, map_map -> wR, map_mergeSort -> vA, map_nil -> vj, mem_append -> qA, mem_cons -> q8, mem_cons_of_mem -> qR, mem_cons_self -> qW, mem_filter -> qB, mem_flatMap -> zm, mem_map -> qq, mem_mergeSort -> yB, mem_range -> qD, mem_singleton -> qG, mergeSort_perm -> wK, nodup_cons -> w6, pairwise_append -> wU, pairwise_cons -> zP, pairwise_map -> wz, range -> qE, range_succ -> zI, replicate -> qg, set_append_right -> zc, set_cons_succ -> zL, set_cons_zero -> zC, take_length -> qQ, take_of_length_le -> qi, zipWith -> zo
open Nat renaming add_assoc -> w8, add_sub_cancel_left -> zq, add_zero -> yu, le_refl -> ql, le_trans -> q7, mod_lt -> yL, mul_le_mul -> wh, mul_le_mul_right -> zu, mul_one -> zT, sub_self -> zi, succ_mul -> zJ, zero_le -> wm
open Go.Value renaming agg -> xr, bool -> xq, int -> xl, pointer -> xo, slice -> xn, string -> xp
open Go.IntKind renaming bits -> qk, i64 -> xt, signed -> yR, u32 -> xv, u64 -> xw, wrap -> qc
open Bool renaming and_eq_true -> qz, false_or -> vp, not_eq_true' -> wL, or_eq_true -> wg, or_true -> xh, true_and -> zW
open Go.Instr renaming storeAt -> qf
open Int renaming emod_lt_of_pos -> wE, emod_nonneg -> yp, mul_nonneg -> vg, natCast_mul -> wj, natCast_nonneg -> zX, ofNat_le -> yK, tmod -> z7, tmod_eq_emod_of_nonneg -> yC, toNat_natCast -> qo
open Option renaming map_map -> vW, map_some -> qL, some -> zM
open Prod renaming ext -> yU, fst -> qJ, snd -> zt
set_option maxRecDepth 100000
namespace Wl
open Go
def nD(m:aG)(l:cD):cD:=(cZ m l).map cy
def ir(m:aG)(l:cD):cD:=aY m++nD m l
def fp(d:bB)(a:Nat)(n:Int):Bool:=decide (max n 0<=(d.room:Int)-a)
def jT(m:aG)(d:bB)(n:Int):Bool:=!d.lost&&(fp d d.l.length n||fp d (ir m d.l).length n)
def fW(m:aG)(w:Pow)(d:bB)(n:Int):Int×Pow×bB:=
 if d.lost then(5,w,d)else if !jT m d n then(7,w,d)else if fp d d.l.length n then(0,w,d)else d.rewrite w (ir m d.l)
theorem aaV(l:List cC):(rh l).length<=l.length:=by
 unfold rh;rw[qu];exact q7 (qP _ _) (by simp)
theorem mz(m:aG)(l:cD):(cZ m l).length<=l.length:=by
 unfold cZ;refine q7 (aaV _) ?_;rw[wO];exact List.length_filterMap_le _ _
theorem DE(m:aG)(l:cD):(nD m l).length<=l.length:=by unfold nD;rw[qu];exact mz m l
end Wl
namespace Go.Qw
open Go Go.Vc Go.Proofs Wl
section
variable {B:aB} {h0 h:Heap} {As:List HP} {a pw:Addr} {d:bB} {w:Pow}
theorem fV.rewrite{l:cD}(h:fV d):fV (d.rewrite w l).2.2:=by
 unfold bB.rewrite;split
 ·exact h
 ·rename_i b;split
  ·exact h
  ·split
   ·exact h
   ·rename_i e;have a:∀c∈l,c.length=64:=by simpa using b
    split
    ·exact h
    ·split
     ·exact⟨wm _,by dsimp only;omega,h.room,a,wm _,by simp⟩
     ·exact⟨h.wait,h.len,h.room,h.cell,by dsimp only;omega,a⟩
theorem Rs(x:Sl)(l:cD)(H:aa B h0 h (mw pw a d::dN 101 pw w::As))(O:St B h0 As fun h=>gx h x 1 aE l)(N:l.length<=2^20)(y:∀c∈l,c.length<=2^20):
  ac xx 158 #[xo (some a),x] h fun v h'=>v=xl xt (d.rewrite w l).1/\aa B h0 h' (mw pw a (d.rewrite w l).2.2::dN 101 pw (d.rewrite w l).2.1::As):=by
 refine Ad (some a) x ?_;unfold oq;have M:=O.at [_,_] H;have R:=M.len;have o:=fV.rewrite (w:=w) (l:=l) (And.left (id H).ui);have j:∀(e:Int),d.rewrite w l=(e,w,d)->(Value.int .i64 e=xl xt (d.rewrite w l).1/\aa B h0 h (mw pw a (d.rewrite w l).2.2::dN 101 pw (d.rewrite w l).2.1::As)):=fun e Y=>by
  rw[Y];exact⟨rfl,H⟩
 refine aw (fun i:Nat=>(i:Int)) (fun i h'=>i<=l.length/\(∀c∈l.take i,c.length=64)/\h'=h) (fun i=>l.length-i) 0 rfl ⟨by omega,by simp,rfl⟩ ?_;rintro i h1 ⟨hi,f,rfl⟩;refine al (fun e=>?_) fun e=>?_
 ·have m:i<l.length:=by omega
  refine M.get i rfl m fun r Q=>?_;have S:=Q.len;refine ca (fun U=>j 1 ?_) fun U=>?_
  ·unfold bB.rewrite;rw[if_pos];rw[wL,yh];exact⟨l[i],qh m,by simp;omega⟩
  ·refine⟨i+1,by rw[ak _];rfl,⟨by omega,fun c k=>?_,rfl⟩,by omega⟩;rw[aI _ _ m]at k;rcases qA.1 k with k|k
   ·exact f c k
   ·rw[qG.1 k];omega
 have f:∀c∈l,c.length=64:=by rw[qi (by omega)]at f;exact f
 have p:(!l.all fun b=>decide (b.length=64))=false:=by
  rw[Bool.not_eq_false',qN];exact fun c k=>decide_eq_true (f c k)
 have A:d.rewrite w l=(if d.lost then(5,w,d)else if d.room<l.length then(7,w,d)else if w.off then(14,w,d)else if w.step.1 then(0,w.step.2,{d with l:=l,wait:=0,laid:=[],has:=false})else(14,w.step.2,{d with laid:=l,has:=true})):=by
  unfold bB.rewrite;rw[p];rfl
 obtain⟨ok,s,b,K⟩:=H.ui;have z:=K.box 0 rfl;refine be (be (bw (fun e=>by cases e) fun _=>⟨a,rfl,d.lost,z.cell rfl,bw (fun e=>j 5 (by rw[A,if_pos e])) fun g=>?_⟩));refine⟨a,rfl,(d.room:Int),z.cell rfl,al (fun e=>j 7 (by rw[A,if_neg (by simp[g]),if_pos (by omega)])) fun J=>?_⟩;obtain⟨W,V,D⟩:=(K.bi 4 [3,0,1,2]).Cp;refine⟨a,rfl,some pw,z.cell0 rfl,(HI W (D.box 0 rfl)).mono ?_⟩;rintro _ h2 ⟨rfl,rfl⟩;refine⟨_,rfl,bh (fun e=>j 14 ?_) fun u=>?_⟩
 ·rw[A,if_neg (by simp[g]),if_neg (by omega),if_pos (by simpa using e)]
 have n:w.off=false:=by simpa using u
 have t:d.rewrite w l=(if w.step.1 then(0,w.step.2,{d with l:=l,wait:=0,laid:=[],has:=false})else(14,w.step.2,{d with laid:=l,has:=true})):=by
  rw[A,if_neg (by simp[g]),if_neg (by omega),if_neg (by simp[n])]
 refine⟨a,rfl,some pw,z.cell0 rfl,(Gs (K.bi 4 [3,0,1,2])).mono ?_⟩;rintro _ P ⟨rfl,I⟩;have q:=O.at [_,_,_,_] I;refine⟨_,rfl,bh (fun e=>?_) fun e=>?_⟩
 ·rw[t,if_neg (by simp[e])]at o⊢;refine(Jv x l P q N y).mono ?_;rintro _ Z ⟨r,rfl,L⟩;have G:=(I.cS L).bi 5 [2,3,0,1];refine⟨r,rfl,a,rfl,G.store ae 0 rfl rfl 4 [r] rfl rfl rfl (by simp[gW]) fun T F=>?_⟩;refine⟨a,rfl,F.store ae 0 rfl rfl 5 [xq true] rfl rfl rfl (by simp[gW]) fun h8 E=>⟨rfl,?_⟩⟩;exact aa.Gt (s:=s) (b:=r) o E
 ·rw[t,if_pos e]at o⊢;refine(Jv x l P q N y).mono ?_;rintro _ Z ⟨r,rfl,L⟩;have G:=(I.cS L).bi 5 [2,0,4,1];refine⟨r,rfl,a,rfl,G.store ae 0 rfl rfl 2 [r] rfl rfl rfl (by simp[gW]) fun T F=>?_⟩;refine⟨a,rfl,F.store ae 0 rfl rfl 3 [xl xt 0] rfl rfl rfl (by simp[gW]) fun h8 E=>?_⟩;refine(Gu (d:={d with l:=l,wait:=0}) r b _ E ⟨wm _,by dsimp only;omega,ok.room,f,ok.laid,ok.cellL⟩ rfl).mono ?_;rintro _ h9 ⟨rfl,X⟩;exact⟨0,rfl,rfl,X⟩
theorem Bx(s b:Sl)(c:Nat)(n:Int)(e:bX h a 161 (gW pw d s b))(g:d.room<=512)(f:c<=2^40:=by omega):ac xx 156 #[xo (some a),xl xt c,xl xt n] h fun v h'=>v=xq (fp d c n)/\h'=h:=by
 refine KK (some a) c n ?_;unfold Ei;refine(Ye s b e).mono ?_;rintro _ _ ⟨rfl,rfl⟩;refine⟨_,rfl,?_,rfl⟩;rw[ak ((d.room:Int)-c)];unfold fp;congr 1;rw[decide_eq_decide];split<;>omega
theorem Wc(s b:Sl)(x:bD)(m:aG)(B:bX h a 161 (gW pw d s b))(M:gx h s 1 aE d.l)(ok:fV d)(I:dK h x m)(H:cO m):
  ac xx 249 #[xo (some a),eT x] h fun v h'=>∃r:Sl,v=r/\Sp h h' [eE r (nD m d.l)]:=by
 refine MW (some a) x ?_;unfold Gg;have D:=ok.len;have z:=ok.room;refine(Sp.refl h).boxed fun X T j=>?_;refine⟨x,(j.box 0 rfl).aL _ rfl,(pz a pw d s b x m T (B.ai j.ai B.lt) (M.up j.ai) ok (I.up j.ai) H).mono ?_⟩;rintro _ V ⟨r,c,rfl,R⟩;have w:=(j.cS R).Fk 35 5 1 aE;refine⟨r,rfl,?_⟩;have q:=mz m d.l;obtain⟨L,E⟩:∃L,L=cZ m d.l:=⟨_,rfl⟩
 have n:(nD m d.l)=L.map cy:=by unfold nD;rw[E]
 rw[<-E]at w q;rw[n];have A:=w.dV 1 rfl;have S:=A.2.1;have y:=A.1.len;refine aw (fun t:Sl×Nat=>(t.1,(t.2:Int))) (fun t h'=>t.2<=L.length/\Sp h h' [eE t.1 ((L.map cy).take t.2),cu dg 8 bn r c L]) (fun t=>L.length-t.2) (⟨none,0,0⟩,0) rfl ⟨by simp,w.bK [0,1]⟩ ?_;rintro⟨o,i⟩ h3 ⟨W,k⟩;dsimp only at*;have P:=k.dV 1 rfl;refine al (fun e=>?_) (fun e=>?_)
 ·have p:i<L.length:=by omega
  refine P.1.dt (g:=bn) i rfl (by omega) (c[i]'(by omega)) rfl ?_;refine k.alloc ae rfl fun O U G=>?_;refine G.storeAll ae 2 rfl rfl (bn (c[i]'(by omega))) rfl rfl rfl rfl fun F f=>?_;have f:Sp h F [eE o ((L.map cy).take i),cu dg 8 bn r c L,aq O 139 (bn (c[i]'(by omega)))]:=f;refine⟨c[i]'(by omega),(f.box 2 rfl).aL _ rfl,(rP _ L[i] F (Fix.row (f.dV 1 rfl) p)).mono ?_⟩;rintro _ Y ⟨u,rfl,Q⟩;have N:=(f.cS Q).bi 3 [1,0,2];refine⟨u,rfl,N.Hu ae fG (by simp;omega) fun J h8 K=>?_⟩;refine⟨(J,i+1),by dsimp only;rw[ak _];rfl,⟨by dsimp only;omega,?_⟩,by dsimp only;omega⟩;dsimp only;rw[aI _ _ (show i<(L.map cy).length by simp;omega),zS];exact K.bK [0,1]
 ·rw[qi (by simp;omega)]at k;exact⟨o,rfl,k.bK [0]⟩
end
section
variable {B:aB} {h0 h:Heap} {As:List HP} {a pw:Addr} {d:bB} {w:Pow}
theorem Tp{m:aG}{l:cD}{c:aX}(h:c∈nD m l):c.length<=64:=by
 unfold nD at h;obtain⟨r,_,rfl⟩:=qq.1 h;unfold cy;split
 ·rename_i a;refine Nat.le_of_eq (nl (by decide) (by decide) ?_);have:=nX a;omega
 ·simp
theorem Og(s b:Sl)(x:bD)(m:aG)(k:bX h a 161 (gW pw d s b))(w:gx h s 1 aE d.l)(ok:fV d)(j:dK h x m)(g:cO m):
  ac xx 159 #[xo (some a),eT x] h fun v h'=>∃r:Sl,v=r/\Sp h h' [eE r (ir m d.l)]:=by
 refine OS (some a) x ?_;unfold Ir;have n:=ok.len;have i:=ok.room;refine(Sp.refl h).boxed fun B o e=>?_;have e:Sp h o [aq B 59 (aP x)]:=e;refine⟨x,(e.box 0 rfl).aL _ rfl,x,(e.box 0 rfl).aL _ rfl,(kY x m o (j.up e.ai) g).mono ?_⟩;rintro _ F ⟨r,rfl,D⟩;have f:=e.cS D;have c:=f.box 1 rfl;refine⟨r,rfl,⟨c.cell0 rfl,c.cell rfl,c.cell rfl,c.cell rfl,c.cell rfl,c.cell rfl,c.cell rfl,c.cell rfl,trivial⟩,(Wc s b x m (k.ai f.ai k.lt) (w.up f.ai) ok (j.up f.ai) g).mono ?_⟩;rintro _ h3 ⟨u,rfl,t⟩;have q:=(f.cS t).bi 2 [1,0];have A:=jb m g;have y:=DE m d.l;refine⟨u,rfl,trivial,q.ada ae fG ⟨_,_,rfl,rfl⟩ (by omega) fun z E p=>?_⟩;exact⟨trivial,z,rfl,p.bK [0]⟩
theorem GD(s b:Sl)(x:bD)(m:aG)(n:Int)(q:bX h a 161 (gW pw d s b))(z:gx h s 1 aE d.l)(j:s.len=d.l.length)(ok:fV d)(y:dK h x m)(p:cO m):
  ac xx 136 #[xo (some a),eT x,xl xt n] h fun v h'=>v=xq (jT m d n)/\Sp h h' []:=by
 refine Eg (some a) x n ?_;unfold Bj;have t:=ok.len;have k:=ok.room;refine(Sp.refl h).boxed fun B D f=>?_;have f:Sp h D [aq B 59 (aP x)]:=f;have c:=q.ai f.ai q.lt;refine be (bw (fun e=>by cases e) fun _=>(AK s b c).mono ?_);rintro _ _ ⟨rfl,rfl⟩;refine⟨_,rfl,bw (fun e=>⟨by unfold jT;rw[e];rfl,.zip f.ai⟩) fun e=>?_⟩;have u:jT m d n=(fp d d.l.length n||fp d (ir m d.l).length n):=by unfold jT;rw[e];rfl
 refine(Ob s b c j).mono ?_;rintro _ _ ⟨rfl,rfl⟩;refine⟨_,rfl,(Bx s b d.l.length n c ok.room).mono ?_⟩;rintro _ _ ⟨rfl,rfl⟩;refine⟨_,rfl,bw (fun i=>⟨by rw[u,i];rfl,.zip f.ai⟩) fun i=>?_⟩;refine⟨x,(f.box 0 rfl).aL _ rfl,(Og s b x m c (z.up f.ai) ok (y.up f.ai) p).mono ?_⟩;rintro _ E ⟨r,rfl,o⟩;have g:=(aa.AZ o).1;have w:(ir m d.l).length<=4000:=by
  have:=jb m p;have:=DE m d.l;unfold ir;rw[qx];omega
 have A:=f.cS o;refine⟨r,rfl,(Bx s b r.len n (c.ai o.ai c.lt) ok.room).mono ?_⟩;rintro _ _ ⟨rfl,rfl⟩;exact⟨_,rfl,by rw[u,i,vp,g],.zip A.ai⟩
theorem GF(x:bD)(n:Int)(h:Heap):ac xx 136 #[xo none,eT x,xl xt n] h fun v h'=>v=xq false/\Sp h h' []:=by
 refine Eg none x n ?_;unfold Bj;refine(Sp.refl h).boxed fun b c a=>?_;exact be (bw (fun _=>⟨rfl,.zip a.ai⟩) fun e=>by cases e)
theorem Oh(x:bD)(m:aG)(n:Int)(K:St B h0 As fun h=>dK h x m)(z:cO m)(H:aa B h0 h (mw pw a d::dN 101 pw w::As)):
  ac xx 78 #[xo (some a),eT x,xl xt n] h fun v h'=>v=xl xt (fW m w d n).1/\aa B h0 h' (mw pw a (fW m w d n).2.2::dN 101 pw (fW m w d n).2.1::As):=by
 refine Ed (some a) x n ?_;unfold Bg;refine(Sp.refl h).boxed fun R u F=>?_;have F:Sp h u [aq R 59 (aP x)]:=F;have k:=(H.cS F).bi 3 [1,2,0];have f:∀(e:Int) {h':Heap},aU (fun b=>b<u.size) u h'->fW m w d n=(e,w,d)->(Value.int .i64 e=xl xt (fW m w d n).1/\aa B h0 h' (mw pw a (fW m w d n).2.2::dN 101 pw (fW m w d n).2.1::As)):=fun e {h'} Q S=>by
  rw[S];exact⟨rfl,((k.up Q).bi 3 [0,1])⟩
 obtain⟨ok,s,b,g⟩:=(id k).ui;have q:=g.box 0 rfl;have P:gx u s 1 aE d.l:=(g.bi 2 [1]).NB fun _=>rfl;have o:=(aa.AZ (g.bi 2 [1])).1;have L:=ok.len;have J:=ok.room;refine be (be (bw (fun e=>by cases e) fun _=>(AK s b q).mono ?_));rintro _ _ ⟨rfl,rfl⟩;refine⟨_,rfl,bw (fun e=>f 5 (aU.refl _ _) (by unfold fW;rw[if_pos e])) fun e=>?_⟩;refine⟨x,(k.box 2 rfl).aL _ rfl,(GD s b x m n q P o ok (K.at [_,_,_] k) z).mono ?_⟩;rintro _ U ⟨rfl,p⟩;have E:=g.up p.ai;have j:=q.ai p.ai q.lt;have G:=k.up p.ai;refine⟨_,rfl,bh (fun t=>f 7 p.ai (by unfold fW;rw[if_neg (by simp[e]),if_pos (by simp[t])])) fun t=>?_⟩;refine(Ob s b j o).mono ?_;rintro _ _ ⟨rfl,rfl⟩;refine⟨_,rfl,(Bx s b d.l.length n j ok.room).mono ?_⟩;rintro _ _ ⟨rfl,rfl⟩;refine⟨_,rfl,bw (fun D=>f 0 p.ai (by unfold fW;rw[if_neg (by simp[e]),if_neg (by simp[t]),if_pos D])) fun D=>?_⟩;have em:fW m w d n=d.rewrite w (ir m d.l):=by unfold fW;rw[if_neg (by simp[e]),if_neg (by simp[t]),if_neg (by simp[D])]
 rw[em];have N:(ir m d.l).length<=4000:=by
  have:=jb m z;have:=DE m d.l;unfold ir;rw[qx];omega
 have A:∀c∈ir m d.l,c.length<=64:=fun c i=>by
  unfold ir at i;rcases qA.1 i with i|i
  ·exact Nat.le_of_eq (CU i)
  ·exact Tp i
 refine⟨x,(G.box 2 rfl).aL _ rfl,(Og s b x m j ((E.bi 2 [1]).NB fun _=>rfl) ok (K.at [_,_,_] G) z).mono ?_⟩;rintro _ h3 ⟨r,rfl,O⟩;obtain⟨rs,y⟩:=(G.cS O).aaL fun _=>rfl;have y:=y.bi 4 [1,2,0];refine⟨r,rfl,(Rs r (ir m d.l) y (St.dU 0 rfl fun h' I=>?_) (by omega) fun c i=>q7 (A c i) (by decide)).mono ?_⟩
 ·exact⟨rs,I.1,I.2.1,I.2.2⟩
 rintro _ T ⟨rfl,M⟩;exact⟨_,rfl,rfl,M.bi 3 [0,1]⟩
end
section
variable {B:aB} {h0 h:Heap} {As:List HP} {a pw b:Addr} {x:bD} {offs:Int} {da:List aO} {w:Pow} {ds:aT} {d:bB}
theorem aa.aaW(n:Nat)(e:n<64)(j:ds[n]?=some none)(H:aa B h0 h (aV bj a pw (aP x) offs da w ds::mw pw b d::As)){K:Unit->Heap->Prop}
  (i:∀h',aa B h0 h' (aV bj a pw (aP x) offs (da.set n (some b)) w (ds.set n (some d))::As)->K () h'):
  ag xx (qf 48 (xo (some ((a.add 10).add n))) (xo (some b))) h K:=by
 obtain⟨ok,g⟩:=Go.Vc.aa.rv H;have f:(a.add 10).add n=a.add (10+n):=by unfold Addr.add;simp[w8]
 rw[f];refine g.storeAt ae 0 rfl rfl rfl rfl rfl (by simp[ok.la];omega) fun h' c=>i h' ?_;rw[zC,Yr ok.l8]at c;exact aa.adv ok e j c
end
end Go.Qw
namespace Wl
open Go
theorem Cx(ds:aT)(n:Nat)(d:bB)(s:Int)(b:n<64)(c:ds.length=64):bp (jE ds (n:Int) d) s=if s=(n:Int)then some d else bp ds s:=by
 unfold bp jE;rw[qo];by_cases h:0<=s/\s<64
 ·rw[if_pos h,if_pos h,qX];by_cases a:s=(n:Int)
  ·subst a;rw[if_pos rfl,qo,if_pos rfl,if_pos (by omega)];rfl
  ·rw[if_neg a,if_neg (by omega)]
 ·rw[if_neg h,if_neg h,if_neg (by omega)]
theorem oA{ds:aT}{s:Int}{d:bB}(h:bp ds s=some d):∃n:Nat,s=(n:Int)/\n<64:=by
 unfold bp at h;by_cases a:0<=s/\s<64
 ·exact⟨s.toNat,by omega,by omega⟩
 ·rw[if_neg a]at h;cases h
structure Fit (ds:aT) (S Q:aC):Prop where
 len:ds.length=64
 at_:∀s∈S,∃d,bp ds s=some d/\d.lost=false/\d.l.length+Q.count s<=d.room
theorem Tq{d:bB}{n:Nat}(w:Pow)(b:aX)(a:d.lost=false)(g:d.l.length+(n+1)<=d.room)(f:b.length=64):
  ((d.append w b).1=0∨(d.append w b).1=14)/\(d.append w b).2.2.lost=false/\(d.append w b).2.2.l.length+n<=(d.append w b).2.2.room:=by
 unfold bB.append;rw[if_neg (by omega),if_neg (by simp[a]),if_neg (by omega)];by_cases c:w.off
 ·rw[if_pos c];exact⟨.inr rfl,a,by dsimp only;omega⟩
 ·rw[if_neg c];by_cases e:w.step.1
  ·rw[if_pos e];exact⟨.inl rfl,a,by simp;omega⟩
  ·rw[if_neg e];exact⟨.inr rfl,a,by simp;omega⟩
theorem Yz{d:bB}(w:Pow)(a:d.lost=false):((d.sync w).1=0∨(d.sync w).1=14)/\(d.sync w).2.2.lost=false/\(d.sync w).2.2.l=d.l/\(d.sync w).2.2.room=d.room:=by
 unfold bB.sync;rw[if_neg (by simp[a])];by_cases b:w.step.1
 ·rw[if_pos b];exact⟨.inl rfl,a,rfl,rfl⟩
 ·rw[if_neg b];exact⟨.inr rfl,a,rfl,rfl⟩
theorem Pd{ds:aT}{S Q:aC}{x:Int}(w:Pow)(b:aX)(F:Fit ds S (x::Q))(k:x∈S)(l:b.length=64):
  ((fu w ds x b).1=0∨(fu w ds x b).1=14)/\Fit (fu w ds x b).2.2 S Q:=by
 obtain⟨d,f,q,j⟩:=F.at_ x k;rw[List.count_cons_self]at j;obtain⟨n,rfl,i⟩:=oA f;have A:=Tq w b q (n:=Q.count (n:Int)) (by omega) l;have e:fu w ds (n:Int) b=((d.append w b).1,(d.append w b).2.1,jE ds (n:Int) (d.append w b).2.2):=by unfold fu;rw[f]
 rw[e];refine⟨A.1,by unfold jE;rw[zA];exact F.len,fun s p=>?_⟩;rw[Cx _ _ _ _ i F.len];by_cases a:s=(n:Int)
 ·subst a;rw[if_pos rfl];exact⟨_,rfl,A.2⟩
 ·rw[if_neg a];obtain⟨m,g,o,c⟩:=F.at_ s p;rw[List.count_cons_of_ne (fun h=>a h.symm)]at c;exact⟨m,g,o,c⟩
theorem Tr{ds:aT}{S:aC}{x:Int}(w:Pow)(F:Fit ds S [])(g:x∈S):((hG w ds x).1=0∨(hG w ds x).1=14)/\Fit (hG w ds x).2.2 S []:=by
 obtain⟨d,b,l,f⟩:=F.at_ x g;obtain⟨n,rfl,c⟩:=oA b;obtain⟨k,A2,i,h⟩:=Yz w l;have e:hG w ds (n:Int)=((d.sync w).1,(d.sync w).2.1,jE ds (n:Int) (d.sync w).2.2):=by unfold hG;rw[b]
 rw[e];refine⟨k,by unfold jE;rw[zA];exact F.len,fun s j=>?_⟩;rw[Cx _ _ _ _ c F.len];by_cases a:s=(n:Int)
 ·subst a;rw[if_pos rfl];exact⟨_,rfl,A2,by rw[i,h];exact f⟩
 ·rw[if_neg a];exact F.at_ s j
end Wl
namespace Go.Vc
open Go Wl Go.Qw
theorem Nj(l:aC)(k:Nat):(bm l k).Nodup:=by
 unfold bm;refine List.Pairwise.filter _ (wz.2 ?_);exact(List.nodup_range (n:=k)).imp fun h=>by omega
theorem Wd{l:aC}(h:(fc l).2=true):(fc l).1=bm l l.length/\l.length<=64/\∀n:Nat,l.getD n 0<=512:=by
 unfold fc at h⊢;by_cases a:l.all (fd · 0 512)=true
 ·rw[if_pos a]at h⊢;refine⟨rfl,by simp at h;exact h.1,fun n=>?_⟩;rw[qe];by_cases b:n<l.length
  ·rw[qd b];have:=qN.1 a _ (qh b);unfold fd at this;simp at this⊢;omega
  ·rw[zg (by omega)];simp
 ·rw[if_neg a]at h;cases h
theorem Ru(l:aC)(i n:Nat)(g:i<(bm l l.length).length)(e:(bm l l.length)[i]=(n:Int))(d:n<64):(gP l i)[n]?=some none:=by
 unfold gP;rw[qO,zw d,qL,if_neg];intro f;obtain⟨j,h,c⟩:=List.mem_take_iff_getElem.1 f;have:=Fh (Nj l l.length) (a:=j) (b:=i) (by omega) g (by rw[c,e]);omega
theorem By(m:aG):∀S:aC,(bA m S).length=S.length*(aY m).length
 |[]=>by simp[bA]
 |n::S=>by
  have e:bA m (n::S)=(aY m).map (fun c=>(n,c))++bA m S:=by unfold bA;rw[zl]
  rw[e,qx,qu,By m S,q9,zJ,Nat.add_comm]
theorem Lv(p:Pm)(extra:Int)(l:aC)(a:l.length<=64):cO (ck p extra l):=⟨by have:=pA l l.length;simp[ck];omega,by simp[ck],by simp[ck]⟩
end Go.Vc
namespace Go.Qw
open Go Go.Vc Go.Proofs Wl
section
variable {B:aB} {h0 h:Heap} {As:List HP} {pw:Addr} {w:Pow}
theorem IE(p:Pm)(extra:Int)(s:Sl)(l:aC)(hS:St B h0 As fun h=>Rd h s 1 aD l)(hl:l.length<=2^20)(H:aa B h0 h (dN 101 pw w::As)):
  ac xx 7 #[kh p,xl xt extra,xo (some pw),s] h fun v h'=>
   ((eN p extra w l).1≠0->v=.tuple #[xo none,xl xt (eN p extra w l).1]/\aa B h0 h' As)/\
   ((eN p extra w l).1=0->∃(a:Addr) (x:bD) (da:List aO),v=.tuple #[xo (some a),xl xt 0]/\aa B h0 h' (aV bj a pw (aP x) w.offs da (eN p extra w l).2.1 (eN p extra w l).2.2::bU x (ck p extra l)::As)):=by
 refine Je p extra (some pw) s ?_;unfold BO;refine H.boxed fun a1 h1 H1=>?_;have H1:=H1.bC;refine(nh s l h1 (hS.at [_,_] H1) hl).mono ?_;rintro _ h2 ⟨r,rfl,R2⟩;have H2:=H1.cS R2;refine⟨(r,(fc l).2),rfl,?_⟩;have o:∀{h':Heap},aa B h0 h' As->((fc l).2&&(bL p&&fd extra 0 16))=false->
   ((eN p extra w l).1≠0->Value.tuple #[xo none,xl xt 1]=.tuple #[xo none,xl xt (eN p extra w l).1]/\aa B h0 h' As)/\
   ((eN p extra w l).1=0->∃(a:Addr) (x:bD) (da:List aO),Value.tuple #[xo none,xl xt 1]=.tuple #[xo (some a),xl xt 0]/\aa B h0 h' (aV bj a pw (aP x) w.offs da (eN p extra w l).2.1 (eN p extra w l).2.2::bU x (ck p extra l)::As)):=fun{h'} H' hc=>by
  have e:eN p extra w l=(1,w,[]):=by unfold eN;rw[hc];rfl
  rw[e];exact⟨fun _=>⟨rfl,H'⟩,fun h=>absurd h (show¬(1:Int)=0 by decide)⟩
 refine be (bh (fun e=>o H2.rest.rest.rest (by rw[e];rfl)) fun e=>?_);have ep:(fc l).2=true:=by simpa using e
 obtain⟨a3,A,J⟩:=Wd ep;refine⟨p,(H2.box 1 rfl).aL _ rfl,(ey p h2).mono ?_⟩;rintro _ h3 ⟨rfl,R3⟩;have z:aa B h0 h3 (ar 3 r 1 aD (fc l).1::aq a1 24 [xl xt p.1,xl xt p.2.1,xl xt p.2.2]::dN 101 pw w::As):=by
  have:=H2.comp R3;rw[qS]at this;exact this
 refine⟨_,rfl,bh (fun e2=>o z.rest.rest.rest (by rw[e2];simp)) fun e2=>?_⟩;have em:bL p=true:=by simpa using e2
 refine al (fun e3=>o z.rest.rest.rest (by unfold fd;simp;omega)) fun e3=>al (fun e4=>o z.rest.rest.rest (by unfold fd;simp;omega)) fun e4=>bw (fun e5=>by cases e5) fun _=>?_;rw[a3]at z;refine be ⟨p,(z.box 1 rfl).aL _ rfl,?_⟩;obtain⟨lw,b1,a8⟩:=(z.bi 3 [2,1,0]).Cp;refine(Oa lw (a8.box 0 rfl)).mono ?_;rintro _ h4 ⟨rfl,rfl⟩;have F:=z.box 1 rfl;refine⟨_,rfl,⟨F.cell0 rfl,F.cell rfl,F.cell rfl,trivial⟩,?_⟩;obtain⟨m,M⟩:∃m,m=ck p extra l:=⟨_,rfl⟩
 refine⟨_,Yq (1,0,p.1,p.2.1,p.2.2,extra,r,⟨none,0,0⟩) pw w.offs,?_⟩;refine z.boxed fun a9 h6 g=>?_;obtain⟨x,hx⟩:∃x:bD,x=(1,0,p.1,p.2.1,p.2.2,extra,r,⟨none,0,0⟩):=⟨_,rfl⟩
 rw[<-hx]at g;have L:(Value.agg (dh (aP x) pw w.offs (qg 64 none)).toArray).cells.toList=dh (aP x) pw w.offs (qg 64 none):=by simp[Value.cells]
 rw[L]at g;have g:=g.bC;have G:=g.box 2 rfl;refine⟨⟨G.cell0 rfl,G.cell rfl,G.cell rfl,trivial⟩,?_⟩;have g:aa B h0 h6 (aq a9 95 (dh (aP x) pw w.offs (qg 64 none))::dN 101 pw w::ar 3 r 1 aD (bm l l.length)::As):=g.bi 4 [0,3,1];have g:=aa.Yp (k:=bj) (h8:=by simp) g;obtain⟨P,j⟩:∃P,P=bm l l.length:=⟨_,rfl⟩
 rw[<-j]at g;have hz:cO m:=M▸Lv p extra l A;have a2:P.length<=64:=by rw[j];exact q7 (pA _ _) A
 have Y:∀{h':Heap} {Bs:List HP} {X:HP},aa B h0 h' (X::ar 3 r 1 aD P::Bs)->dK h' x m:=fun{h' Bs X} H'=>by
  have hs:=H'.seq 1 rfl fun _=>rfl;have hc:=(H'.own 1 rfl).cap;subst hx;subst M;exact⟨rfl,rfl,rfl,rfl,by show Seq _ _ r 1 aD (bm l l.length);rw[<-j];exact hs,cF.nil _ _ _ _,hc,ql _⟩
 have Z:((fc l).2&&(bL p&&fd extra 0 16))=true:=by
  rw[ep,em];unfold fd;simp;omega
 have ab:(P.any fun i=>decide (l.getD i.toNat 0<((aY m).length:Int)))=true->eN p extra w l=(7,w,[]):=fun hh=>by
  unfold eN;rw[if_pos Z,<-j,<-M,if_pos hh]
 have V:(P.any fun i=>decide (l.getD i.toNat 0<((aY m).length:Int)))=false->eN p extra w l=layAll (bA m P) w (gP l P.length):=fun hh=>by
  unfold eN;rw[if_pos Z,<-j,<-M,hh,if_neg (by decide)]
 have I:∀i (O:i<P.length),∃n:Nat,n<l.length/\P[i]=(n:Int)/\0<l.getD n 0:=by
  subst j;exact fun i O=>Th l l.length i O
 refine aw (fun i:Nat=>(i:Int)) (fun i h'=>i<=P.length/\((P.take i).any fun i=>decide (l.getD i.toNat 0<((aY m).length:Int)))=false/\aa B h0 h' (aV bj a9 pw (aP x) w.offs (qg 64 none) w (qg 64 none)::ar 3 r 1 aD P::As)) (fun i=>P.length-i) 0 rfl ⟨by omega,by simp,g⟩ ?_;rintro i h7 ⟨O,f,D⟩;dsimp only at*;obtain⟨br,ax⟩:=aa.cB D;have b3:r.len=P.length:=(D.own 1 rfl).len;refine al (fun e5=>?_) (fun e5=>?_)
 ·have c:i<P.length:=by omega
  obtain⟨n,N,E,ah⟩:=I i c;refine(D.seq 1 rfl fun _=>rfl).bx i rfl c (n:Int) (by rw[E];rfl) ?_;refine(hS.at [_,_] D).Ps n rfl N (l.getD n 0) (by rw[getD_lt N];rfl) fun b4 T=>?_;refine⟨a9,rfl,x,ax.aL _ (by rfl),(kY x m h7 (Y D) hz).mono ?_⟩;rintro _ h9 ⟨u,rfl,R9⟩;have H9:=D.cS R9;have bd:=(aa.AZ H9).1;refine⟨u,rfl,jL R9.ai ⟨T,trivial⟩,?_⟩;refine al (fun e6=>?_) (fun e6=>?_)
  ·rw[ab (wV.2 ⟨P[i],qh c,by rw[E,qo];exact decide_eq_true (by omega)⟩)];exact⟨fun _=>⟨rfl,H9.rest.rest.rest⟩,fun h=>absurd h (show¬(7:Int)=0 by decide)⟩
  ·refine⟨i+1,by rw[ak _];rfl,⟨by omega,?_,H9.rest⟩,by omega⟩;rw[aI _ _ c,y6,f,vp,List.any_cons,List.any_nil,Bool.or_false,E,qo];exact decide_eq_false (by omega)
 ·have K:i=P.length:=by omega
  subst K;rw[qQ]at f;have a7:=V f;rw[<-Ro l]at D;refine aw (fun t:Nat×List aO=>(t.1:Int)) (fun t h'=>t.1<=P.length/\aa B h0 h' (aV bj a9 pw (aP x) w.offs t.2 w (gP l t.1)::ar 3 r 1 aD P::As)) (fun t=>P.length-t.1) (0,qg 64 none) rfl ⟨by simp,D⟩ ?_;rintro⟨i,da⟩ W ⟨O,d⟩;dsimp only at*;obtain⟨bl,U⟩:=aa.cB d;refine al (fun e6=>?_) (fun e6=>?_)
  ·have c:i<P.length:=by omega
   obtain⟨n,N,E,ah⟩:=I i c;have bb:=J n;refine(d.seq 1 rfl fun _=>rfl).bx i rfl c (n:Int) (by rw[E];rfl) ?_;refine(hS.at [_,_] d).bx n rfl N (l.getD n 0) (by rw[getD_lt N];rfl) ?_;refine⟨a9,rfl,(VQ (l.getD n 0) pw W).mono ?_⟩;rintro _ b0 ⟨Q1,_⟩;obtain⟨b,rfl,ao⟩:=Q1 (by omega);have a0:=(d.cS ao).bi 2 [1,0];refine⟨_,rfl,trivial,⟨by omega,by omega⟩,?_⟩;rw[qo,zT];have am:i<(bm l l.length).length:=by rw[<-j];exact c
   have Q:(bm l l.length)[i]=(n:Int):=by rw[<-E];simp only[j]
   refine Go.Qw.aa.aaW n (by omega) (Ru l i n am Q (by omega)) a0 fun b2 ap=>?_;refine⟨trivial,(i+1,da.set n (some b)),by dsimp only;rw[ak _];rfl,⟨by dsimp only;omega,?_⟩,by dsimp only;omega⟩;dsimp only;rw[<-Rp l i n am Q (by omega)];exact ap
  ·have K:i=P.length:=by omega
   subst K;refine⟨a9,rfl,x,U.aL _ (by rfl),(IB x m r P W (Y d) hz (d.seq 1 rfl fun _=>rfl) (by omega)).mono ?_⟩;rintro _ bk ⟨u,ys,rfl,a6⟩;have ay:=(d.cS a6).bi 2 [1,0];refine⟨u,rfl,?_⟩;have R:=jb m hz;refine(AL u ys (bA m P) (St.dU 0 rfl fun _ S=>S) ?_ ?_ ay).mono ?_
   ·rw[By];have:=wh a2 R;omega
   ·intro y hy;obtain⟨a5,a4⟩:=ke hy;obtain⟨i,O,e⟩:=qH a5;obtain⟨n,N,E,_⟩:=I i O;rw[<-e,E,a4];exact⟨⟨by omega,by omega⟩,by decide⟩
   rintro _ bq ⟨rfl,ad⟩;rw[a7];refine⟨_,rfl,ca (fun e7=>⟨fun _=>⟨rfl,ad.rest.rest.rest⟩,fun h=>absurd h e7⟩) fun e7=>⟨fun h=>absurd e7 h,fun _=>⟨a9,x,da,rfl,?_⟩⟩⟩;rw[<-M];exact ad.Hs.fO 1 rfl fun q S=>by
    subst hx;subst M;exact⟨rfl,rfl,rfl,rfl,by show Seq _ _ r 1 aD (bm l l.length);rw[<-j];exact S.1.seq (fun _=>rfl) S.2,cF.nil _ _ _ _,S.1.cap,ql _⟩
end
end Go.Qw
namespace Wl
open Go
def fk(m:aG)(ds:aT)(k n:Int):Bool:=match bp ds k with|some d=>jT m d n|none=>false
def cH(m:aG)(ds:aT)(l:aC)(N:Int->Int):Bool:=l.all fun k=>fk m ds k (N k)
def dv(m:aG)(w:Pow)(ds:aT)(k n:Int):Int×Pow×aT:=
 match bp ds k with
 |none=>(5,w,ds)
 |some d=>((fW m w d n).1,(fW m w d n).2.1,jE ds k (fW m w d n).2.2)
def makes(m:aG)(N:Int->Int):aC->Pow->aT->Int×Pow×aT
 |[],w,ds=>(0,w,ds)
 |k::l,w,ds=>if(dv m w ds k (N k)).1=0 then makes m N l (dv m w ds k (N k)).2.1 (dv m w ds k (N k)).2.2 else dv m w ds k (N k)
end Wl
namespace Go.Qw
open Go Go.Vc Go.Proofs Wl
theorem GG(f:FuncId)(pre post:Array Value)(P:Int->Bool)(s:Sl)(l:aC)(h:Heap)(u:C.fns[f]?=some true)(n:Rd h s 1 aD l)(y:l.length<=2^30)
  (p:∀k∈l,∀h',Sp h h' []->ac xx f (pre.toList++[Value.int .i64 k]++post.toList).toArray h' fun v g=>v=xq (P k)/\Sp h' g []):
  ac xx 134 #[s,.func (.func f) pre post] h fun v h'=>v=xq (l.any P)/\Sp h h' []:=by
 refine jC s (f,pre,post) ?_;unfold gV;refine(ic s (f,pre,post) (R:=fun v h'=>(∃i:Int,v=xl xt i/\decide (i>=0)=l.any P)/\Sp h h' []) ?_).mono ?_
 ·unfold fU;have t:=n.len;refine aw (fun i:Nat=>(i:Int)) (fun i h'=>i<=l.length/\(l.take i).any P=false/\Sp h h' []) (fun i=>l.length-i) 0 rfl ⟨by omega,by simp,Sp.refl h⟩ ?_;rintro i o ⟨m,a,c⟩;refine al (fun d=>?_) (fun d=>?_)
  ·have b:i<l.length:=by
    have q:(i:Int)<(s.len:Int):=d;omega
   refine(Seq.up n c.ai).bx i rfl b l[i] rfl (ee u ?_);refine(p l[i] (qh b) o c).mono ?_;rintro _ x ⟨rfl,w⟩;have j:=c.up w.ai;refine⟨_,rfl,bw (fun e=>⟨⟨i,rfl,?_⟩,j⟩) (fun e=>?_)⟩
   ·rw[wV.2 ⟨_,qh b,e⟩];exact decide_eq_true (by omega)
   ·refine⟨i+1,by rw[ak _];rfl,⟨by omega,?_,j⟩,by omega⟩;rw[aI _ _ b,y6,a,List.any_cons,List.any_nil,e];rfl
  ·have q:¬(i:Int)<(s.len:Int):=d;rw[qi (by omega)]at a;exact⟨⟨-1,rfl,by rw[a];rfl⟩,c⟩
 ·rintro _ o ⟨⟨i,rfl,m⟩,r⟩;exact⟨i,rfl,by rw[m],r⟩
section
variable {B:aB} {h0 h:Heap} {As:List HP} {a pw:Addr} {offs:Int} {da:List aO} {w:Pow} {ds:aT}
def Pw(f:FuncId)(pre post:Array Value)(N:Int->Int)(l:aC)(h:Heap):Prop:=∀k∈l,ac xx f (pre.toList++[Value.int .i64 k]++post.toList).toArray h fun v h'=>v=xl xt (N k)/\Sp h h' []
theorem Lw(f:FuncId)(pre post:Array Value)(N:Int->Int)(x:bD)(m:aG)(s:Sl)(l:aC)(hf:C.fns[f]?=some true)(Q:St B h0 As fun h=>dK h x m/\Pw f pre post N l h)(X:cO m)(hs:Rd h s 1 aD l)(Y:l.length<=2^30)(J:∀k∈l,0<=k/\k<64)(H:aa B h0 h (aV bj a pw (aP x) offs da w ds::As)):
  ac xx 60 #[xo (some a),s,.func (.func f) pre post] h fun v h'=>v=xq (cH m ds l N)/\Sp h h' []:=by
 refine Dp (some a) s (f,pre,post) ?_;unfold sp;refine(Sp.refl h).boxed fun r h1 Z=>Z.boxed fun O E t=>?_;have H2:aa B h0 E (aV bj a pw (aP x) offs da w ds::As):=H.up t.ai;have g:bX E r 27 [xo (some a)]:=t.box 0 rfl;have P:=t.box 1 rfl;refine(GG 135 #[] #[xo (some r),xo (some O)] (fun k=>!fk m ds k (N k)) s l E (by rfl) (hs.up t.ai) Y ?_).mono ?_
 ·intro k R h3 i;have D:=H2.up i.ai;have T:=(g.ai i.ai g.lt).cell0 rfl;have W:=(P.ai i.ai P.lt).cell0 rfl;obtain⟨ok,u⟩:=aa.cB D;have U:=J k R;refine Bi k r O ?_;unfold pf;obtain⟨n,rfl⟩:∃n:Nat,k=n:=⟨k.toNat,by omega⟩
  have z:n<da.length:=by rw[ok.la];omega
  have V:cellOf h3 ((a.add 10).add ((n:Int).toNat*1))=some (.pointer da[n]):=by
   rw[qo,zT];refine u.tK 10 n ?_;rw[oy ok.l8,qd z];rfl
  obtain⟨ab,G⟩:=Q.at [_] D;refine⟨some a,T,a,rfl,⟨by omega,by omega⟩,da[n],V,some a,T,a,rfl,x,u.aL _ rfl,(f,pre,post),W,ee hf ?_⟩;refine(G n R).mono ?_;rintro _ A ⟨rfl,p⟩;have M:=D.up p.ai;have q:=((g.ai i.ai g.lt).ai p.ai (g.ai i.ai g.lt).lt).cell0 rfl;have c:=u.ai p.ai u.lt;have L:cellOf A ((a.add 10).add ((n:Int).toNat*1))=some (.pointer da[n]):=by
   rw[qo,zT];refine c.tK 10 n ?_;rw[oy ok.l8,qd z];rfl
  refine⟨_,rfl,⟨c.cell0 rfl,c.cell rfl,c.cell rfl,c.cell rfl,c.cell rfl,c.cell rfl,c.cell rfl,c.cell rfl,q,L,q,trivial⟩,?_⟩;have F:iR da (n:Int)=da[n]:=by unfold iR;rw[if_pos (by omega),qo,qd z];rfl
  rw[<-F];have fin:∀{K:Bool} {o:Heap},K=fk m ds n (N n)->Sp A o []->av.ok [(r,xo (some a)),(r,xo (some a))] o/\(Value.bool (!K)=xq (!fk m ds n (N n))/\Sp h3 o []):=fun{K o} he j=>by
   have S:=(g.ai i.ai g.lt).ai p.ai (g.ai i.ai g.lt).lt;have:=(S.ai j.ai S.lt).cell0 rfl;exact⟨⟨this,this,trivial⟩,by rw[he],.zip (aa.up p j.ai).ai⟩
  rcases lc ok (n:Int)with⟨e1,e2⟩|⟨n',d,b,e0,e1,e2,e3,e4,e5⟩
  ·rw[e2];refine(GF x _ A).mono ?_;rintro _ o ⟨rfl,j⟩;exact⟨_,rfl,fin (by unfold fk;rw[e1]) j⟩
  ·rw[e5];obtain⟨b',e,H5⟩:=Go.Vc.aa.kP M e2;rw[e4]at e;injection e with e
   injection e with e
   subst e;obtain⟨y,sd,bd,I⟩:=aa.ui H5;refine(GD sd bd x m (N n) (I.box 0 rfl) ((I.bi 2 [1]).NB fun _=>rfl) (aa.AZ (I.bi 2 [1])).1 y (Q.at [_] M).1 X).mono ?_;rintro _ o ⟨rfl,j⟩;exact⟨_,rfl,fin (by unfold fk;rw[e3]) j⟩
 ·rintro _ h3 ⟨rfl,i⟩;refine⟨_,rfl,?_,.zip (aa.up t i.ai).ai⟩;unfold cH;rw[List.not_any_eq_all_not];simp
theorem GH(x:bD)(n:Int)(h:Heap):ac xx 78 #[xo none,eT x,xl xt n] h fun v h'=>v=xl xt 5/\Sp h h' []:=by
 refine Ed none x n ?_;unfold Bg;refine(Sp.refl h).boxed fun b c a=>?_;exact be (be (bw (fun _=>bw (fun _=>⟨rfl,.zip a.ai⟩) fun e=>by cases e) fun e=>by cases e))
theorem Lx(m:aG)(N:Int->Int)(l:aC)(w:Pow)(ds:aT)(i:Nat)(a:i<l.length):makes m N (l.drop i) w ds=if(dv m w ds l[i] (N l[i])).1=0 then makes m N (l.drop (i+1)) (dv m w ds l[i] (N l[i])).2.1 (dv m w ds l[i] (N l[i])).2.2 else dv m w ds l[i] (N l[i]):=by
 rw[qV a];rfl
theorem Ly(f:FuncId)(pre post:Array Value)(N:Int->Int)(x:bD)(m:aG)(s:Sl)(l:aC)(hf:C.fns[f]?=some true)(J:St B h0 As fun h=>dK h x m/\Pw f pre post N l h/\Rd h s 1 aD l)(V:cO m)(hl:l.length<=2^30)(L:∀k∈l,0<=k/\k<64)(H:aa B h0 h (aV bj a pw (aP x) offs da w ds::As)):
  ac xx 61 #[xo (some a),s,.func (.func f) pre post] h fun v h'=>v=xl xt (makes m N l w ds).1/\aa B h0 h' (aV bj a pw (aP x) offs da (makes m N l w ds).2.1 (makes m N l w ds).2.2::As):=by
 refine BU (some a) s (f,pre,post) ?_;unfold pP;have ad:=(J.at [_] H).2.2.len;obtain⟨Z,R⟩:∃Z,Z=makes m N l w ds:=⟨_,rfl⟩
 rw[<-R];refine aw (fun t:Nat×Pow×aT=>(t.1:Int)) (fun t h'=>t.1<=l.length/\Z=makes m N (l.drop t.1) t.2.1 t.2.2/\aa B h0 h' (aV bj a pw (aP x) offs da t.2.1 t.2.2::As)) (fun t=>l.length-t.1) (0,w,ds) rfl ⟨by simp,R,H⟩ ?_;rintro⟨i,D,y⟩ h1 ⟨hi,q,F⟩;dsimp only at*;refine al (fun e=>?_) fun e=>?_
 ·have p:i<l.length:=by omega
  rw[Lx _ _ _ _ _ _ p]at q;obtain⟨ab,M,O⟩:=J.at [_] F;refine O.bx i rfl p l[i] rfl (be ?_);have E:=L l[i] (qh p);obtain⟨k,K⟩:∃k,k=l[i]:=⟨_,rfl⟩
  have I:k∈l:=by rw[K];exact qh p
  rw[<-K]at q E;rw[<-K];obtain⟨n,rfl⟩:∃n:Nat,k=n:=⟨k.toNat,by omega⟩
  obtain⟨ok,z⟩:=aa.cB F;have P:n<da.length:=by rw[ok.la];omega
  have Q:∀{h':Heap},bX h' a 95 (dh (aP x) pw offs da)->cellOf h' ((a.add 10).add ((n:Int).toNat*1))=some (.pointer da[n]):=fun{h'} z=>by
   rw[qo,zT];refine z.tK 10 n ?_;rw[oy ok.l8,qd P];rfl
  refine⟨a,rfl,⟨by omega,by omega⟩,da[n],Q z,a,rfl,x,z.aL _ rfl,ee hf ?_⟩;refine(M n I).mono ?_;rintro _ U ⟨rfl,T⟩;have S:=F.up T.ai;have g:=z.ai T.ai z.lt;refine⟨_,rfl,⟨g.cell0 rfl,g.cell rfl,g.cell rfl,g.cell rfl,g.cell rfl,g.cell rfl,g.cell rfl,g.cell rfl,Q g,trivial⟩,?_⟩;have G:iR da (n:Int)=da[n]:=by unfold iR;rw[if_pos (by omega),qo,qd P];rfl
  rw[<-G];obtain⟨c,o⟩:∃c,c=dv m D y n (N n):=⟨_,rfl⟩
  rw[<-o]at q;have fin:∀{h3:Heap},aa B h0 h3 (aV bj a pw (aP x) offs da c.2.1 c.2.2::As)->av.ok [] h3/\Br (c.1 !=(0:Int)) (Value.int .i64 c.1=xl xt Z.1/\aa B h0 h3 (aV bj a pw (aP x) offs da Z.2.1 Z.2.2::As))
    (∃r:Nat×Pow×aT,qc xt ((i:Int)+1)=(r.1:Int)/\(r.1<=l.length/\Z=makes m N (l.drop r.1) r.2.1 r.2.2/\aa B h0 h3 (aV bj a pw (aP x) offs da r.2.1 r.2.2::As))/\l.length-r.1<l.length-i):=fun{h3} H3=>by
   refine⟨trivial,ca (fun u=>?_) fun u=>?_⟩
   ·rw[if_neg u]at q;rw[q];exact⟨rfl,H3⟩
   ·rw[if_pos u]at q;exact⟨(i+1,c.2.1,c.2.2),by dsimp only;rw[ak _];rfl,⟨by dsimp only;omega,q,H3⟩,by dsimp only;omega⟩
  rcases lc ok (n:Int)with⟨e1,u⟩|⟨n',d,b,e0,e1,u,e3,e4,e5⟩
  ·rw[u];have A:c=(5,D,y):=by rw[o];unfold dv;rw[e1]
   refine(GH x _ U).mono ?_;rintro _ h3 ⟨rfl,W⟩;exact⟨c.1,by rw[A],fin (h3:=h3) (by rw[A];exact S.up W.ai)⟩
  ·rw[e5];have en:n=n':=by omega
   subst en;obtain⟨b',j,H5⟩:=Go.Vc.aa.kP S u;rw[e4]at j;injection j with j
   injection j with j
   subst j;have A:c=((fW m D d (N n)).1,(fW m D d (N n)).2.1,y.set n (some (fW m D d (N n)).2.2)):=by rw[o];unfold dv;rw[e3];simp only[jE,qo]
   refine(Oh x m (N n) (fun Bs h' hh=>(J (Bs++[_]) h' (by rw[qp];exact hh)).1) V H5).mono ?_;rintro _ h3 ⟨rfl,Y⟩;have X:=Go.Vc.aa.DB (k:=bj) (n:=n) e4 Y;exact⟨c.1,by rw[A],fin (h3:=h3) (by rw[A];exact X)⟩
 ·rw[zb (by omega)]at q;rw[q];exact⟨rfl,F⟩
end
def aaX(a b:eK):Int:=if eU a.1 b.1 then-1 else if jm a.1 b.1 then 0 else 1
def jc(a b:eK):Bool:=jm a.1 b.1
theorem Rv(a b:eK):aaX a b<0↔¬jc b a=true:=by
 unfold aaX jc jm;cases h:eU a.1 b.1<;>simp;split<;>omega
theorem GI:Ord jc:=⟨fun a b c=>Fq a.1 b.1 c.1,fun a b=>Fs a.1 b.1⟩
abbrev Rw(x:eK):Value:=xr #[xp x.1,xl xt x.2.1,xl xt x.2.2.1,x.2.2.2]
theorem Pe(x y:ByteArray)(h:Heap):ac xx 133 #[xp x,xp y] h fun v h'=>v=xl xt (if eU x y then-1 else if jm x y then 0 else 1)/\h'=h:=by
 refine Bh x y ?_;unfold pe;have a:∀z:ByteArray,ac xx 226 #[xp z] h fun v h'=>v=xq false/\h'=h:=fun z=>by
  refine Dx z ?_;unfold sD;exact⟨by simp,rfl⟩
 refine(a x).mono ?_;rintro _ _ ⟨rfl,rfl⟩;refine⟨_,rfl,(a y).mono ?_⟩;rintro _ _ ⟨rfl,rfl⟩;refine⟨_,rfl,bw (fun e=>by cases e) fun _=>bw (fun e=>by cases e) fun _=>?_⟩;have c:Op.bytesLess x.toList y.toList=eU x y:=rfl;rw[Pt,c];have d:(!Op.bytesLess y.toList x.toList)=jm x y:=rfl;rw[d];refine bw (fun e=>⟨by rw[e];rfl,rfl⟩) fun e=>bh (fun b=>⟨by rw[e,b];rfl,rfl⟩) fun b=>⟨by rw[e,b];rfl,rfl⟩
theorem We(a b:eK)(h:Heap):ac xx 132 #[Rw a,Rw b] h fun v h'=>v=xl xt (aaX a b)/\Sp h h' []:=by
 refine Ji a b ?_;unfold BY;refine(Sp.refl h).boxed fun e i f=>f.boxed fun g d c=>?_;have c:Sp h d [aq e 105 (bI a),aq g 105 (bI b)]:=c;refine⟨a.1,(c.box 0 rfl).cell0 rfl,b.1,(c.box 1 rfl).cell0 rfl,(Pe a.1 b.1 d).mono ?_⟩;rintro _ _ ⟨rfl,rfl⟩;exact⟨_,rfl,rfl,.zip c.ai⟩
abbrev th(s:Sl)(d:List eK):HP:=ar 105 s 4 bI d
section
variable {B:aB} {h0 h h':Heap} {As:List HP} {s:Sl} {d:List eK}
theorem Ts{b d:List eK}{y:eK}(c:Sd jc (b++d))(g:∀z∈b,jc z y=true)(f:∀z∈d,¬jc z y=true):Sd jc (b++y::d):=
 Sd.app GI c.left (zP.2 ⟨fun z a=>GI.Fo (f z a),c.right⟩) fun x e z a=>by
  rcases q8.1 a with rfl|a
  ·exact g x e
  ·exact c.Hv x e z a
theorem Lz(X M Y:List eK)(a b:Int)(ha:a=(X.length:Int))(hb:b=(X.length+M.length:Nat))(ah:X.length+M.length+Y.length<=2^40)(H:aa B h0 h (th s (X++(M++Y))::As)):
  ac xx 292 #[s,xl xt a,xl xt b,.func (.func 132) #[] #[]] h fun v h'=>v=.tuple #[]/\∃V,Sd jc V/\ct jc M V/\aa B h0 h' (th s (X++(V++Y))::As):=by
 refine kJ s a b (132,#[],#[]) ?_;unfold gS;subst ha;subst hb;rw[ak ((X.length:Int)+1)];refine aw (fun t:Nat×List eK=>((X.length+1+t.1:Nat):Int)) (fun t h'=>(t.1+1<=M.length∨t.1=0)/\Sd jc t.2/\ct jc (M.take (t.1+1)) t.2/\t.2.length=(M.take (t.1+1)).length/\aa B h0 h' (th s (X++(t.2++(M.drop (t.1+1)++Y)))::As)) (fun t=>M.length-t.1) (0,M.take 1) rfl ?_ ?_
 ·refine⟨.inr rfl,?_,ct.refl _,rfl,?_⟩
  ·cases M with
   |nil=>exact List.Pairwise.nil
   |cons x M=>exact zP.2 ⟨fun _ h=>by simp at h,by simp⟩
  ·rw[<-qp (M.take (0+1)),List.take_append_drop];exact H
 rintro⟨t,P⟩ h1 ⟨ht,q,A,ad,T⟩;dsimp only at*;refine al (fun e=>?_) (fun e=>?_)
 ·have K:t+1<M.length:=by omega
  obtain⟨y,hy⟩:∃y,y=M[t+1]:=⟨_,rfl⟩
  have L:P.length=t+1:=by rw[ad];simp;omega
  have eD:M.drop (t+1)=y::M.drop (t+1+1):=by rw[qV K,hy]
  rw[eD]at T;refine aw (fun u:List eK×List eK=>((X.length+u.1.length:Nat):Int)) (fun u h'=>u.1++u.2=P/\(∀z∈u.2,¬jc z y=true)/\aa B h0 h' (th s (X++(u.1++(y::(u.2++(M.drop (t+1+1)++Y)))))::As)) (fun u=>u.1.length) (P,[]) (by dsimp only;rw[L];congr 1;omega) ⟨by simp,by simp,by simpa using T⟩ ?_;rintro⟨c,d⟩ Z ⟨J,l,G⟩;dsimp only at*;have am:c.length+d.length=t+1:=by rw[<-L,<-J,qx]
  have k:∀{h':Heap},(∀z∈c,jc z y=true)->aa B h0 h' (th s (X++(c++(y::(d++(M.drop (t+1+1)++Y)))))::As)->
    ∃f:Nat×List eK,qc xt (((X.length+1+t:Nat):Int)+1)=((X.length+1+f.1:Nat):Int)/\((f.1+1<=M.length∨f.1=0)/\Sd jc f.2/\ct jc (M.take (f.1+1)) f.2/\f.2.length=(M.take (f.1+1)).length/\aa B h0 h' (th s (X++(f.2++(M.drop (f.1+1)++Y)))::As))/\M.length-f.1<M.length-t:=fun{h'} hle H'=>by
   refine⟨(t+1,c++y::d),by dsimp only;rw[ak _];omega,⟨.inl (by dsimp only;omega),?_,?_,?_,?_⟩,by dsimp only;omega⟩
   ·exact Ts (by rw[J];exact q) hle l
   ·dsimp only;rw[aI M (t+1) K,<-hy];have h1:ct jc (M.take (t+1)++[y]) (P++[y]):=A.app (ct.refl _);refine h1.trans ?_;rw[<-J,qp];have Z:ct jc (d++[y]) ([y]++d):=ct.XA GI fun x hx z N=>by rw[qG.1 N];exact l x hx
    exact(ct.refl _).app Z
   ·dsimp only;simp;omega
   ·dsimp only;have:X++((c++y::d)++(M.drop (t+1+1)++Y))=X++(c++(y::(d++(M.drop (t+1+1)++Y)))):=by simp
    rw[this];exact H'
  obtain⟨D,U⟩:∃D,D=X++(c++(y::(d++(M.drop (t+1+1)++Y)))):=⟨_,rfl⟩
  refine cl (fun _ h'=>∃(Q:List eK) (z:eK),c=Q++[z]/\¬jc z y=true/\aa B h0 h' (th s D::As)) ?_ ?_
  ·rw[<-U]at G k;refine al (fun S=>?_) (fun S=>⟨trivial,k (fun z N=>?_) G⟩)
   ·have I:c≠[]:=fun h=>by rw[h]at S;simp at S
    obtain⟨Q,z,o⟩:∃(Q:List eK) (z:eK),c=Q++[z]:=⟨c.dropLast,c.getLast I,(List.dropLast_concat_getLast I).symm⟩
    have ab:c.length=Q.length+1:=by rw[o];simp
    have g1:D[X.length+c.length]?=some y:=by
     rw[U,qj (by omega),show X.length+c.length-X.length=c.length by omega,qj (by omega),zi];rfl
    have g2:D[X.length+c.length-1]?=some z:=by
     rw[U,qj (by omega),show X.length+c.length-1-X.length=Q.length by omega,o,qp,qj (ql _),zi];rfl
    obtain⟨O,r⟩:=qn.1 g1;obtain⟨R,p⟩:=qn.1 g2;refine(G.seq 0 rfl fun _=>rfl).dt (g:=bI) _ rfl O y (by rw[r]) ?_;have W:qc xt (((X.length+c.length:Nat):Int)-1)=((X.length+c.length-1:Nat):Int):=by rw[ak _];omega
    rw[W];refine(G.seq 0 rfl fun _=>rfl).dt (g:=bI) _ rfl R z (by rw[p]) (ee (by rfl) ?_);refine(We y z Z).mono ?_;rintro _ h3 ⟨rfl,R3⟩;have F:=G.up R3.ai;refine⟨_,rfl,trivial,al (fun e3=>⟨Q,z,o,(Rv y z).1 e3,F⟩) fun e3=>k (fun w m=>?_) F⟩;have n:jc z y=true:=by
     by_cases hc:jc z y=true
     ·exact hc
     ·exact absurd ((Rv y z).2 hc) e3
    rw[o]at m;rcases qA.1 m with m|m
    ·refine GI.trans _ _ _ ?_ n;have:Sd jc (Q++[z]):=by rw[<-o];exact Sd.left (v:=d) (by rw[J];exact q)
     exact this.Hv w m z (by simp)
    ·rw[qG.1 m];exact n
   ·have:c=[]:=by
     cases c with
     |nil=>rfl
     |cons x P=>exfalso;simp only[q9]at S;omega
    rw[this]at N;cases N
  ·rintro _ h3 ⟨Q,z,o,n,F⟩;have ab:c.length=Q.length+1:=by rw[o];simp
   have E:D=(X++Q)++z::([]++y::(d++(M.drop (t+1+1)++Y))):=by rw[U,o];simp
   obtain⟨q1,q2,q3,q4⟩:=Rg (X++Q) [] (d++(M.drop (t+1+1)++Y)) z y (i:=X.length+c.length-1) (j:=X.length+c.length) (by simp;omega) (by simp;omega);rw[<-E]at q1 q2 q3 q4;obtain⟨R,p⟩:=qn.1 q1;obtain⟨O,r⟩:=qn.1 q2;have W:qc xt (((X.length+c.length:Nat):Int)-1)=((X.length+c.length-1:Nat):Int):=by rw[ak _];omega
   rw[W];refine(F.seq 0 rfl fun _=>rfl).dt (g:=bI) _ rfl R z (by rw[p]) ?_;refine(F.seq 0 rfl fun _=>rfl).dt (g:=bI) _ rfl O y (by rw[r]) ?_;refine F.set ae 0 rfl (fun _=>rfl) rfl (X.length+c.length) rfl O z rfl rfl rfl fun h4 H4=>⟨trivial,?_⟩
   refine H4.set ae 0 rfl (fun _=>rfl) rfl (X.length+c.length-1) rfl (by simpa using R) y rfl rfl rfl fun h5 H5=>⟨trivial,?_⟩
   refine⟨(Q,z::d),by dsimp only;congr 1;omega,⟨by dsimp only;rw[<-J,o];simp,?_,?_⟩,by dsimp only;omega⟩
   ·dsimp only;intro w m;rcases q8.1 m with rfl|m
    ·exact n
    ·exact l w m
   ·dsimp only;have:X++(Q++(y::(z::d++(M.drop (t+1+1)++Y))))=(X++Q)++y::([]++z::(d++(M.drop (t+1+1)++Y))):=by simp
    rw[this,<-q4];exact H5
 ·refine⟨rfl,P,q,?_,?_⟩
  ·rw[qi (by omega)]at A;exact A
  ·rw[zb (by omega)]at T;simpa using T
theorem Rx(r:Nat)(h:Heap)(b:r<=2^32):ac xx 225 #[xl xw r] h fun v h'=>(∃k:Int,v=xl xt k)/\h'=h:=by
 intro w a;refine(Tryz.bits_Len (r:Int) w (by omega) (by omega)).mono ?_;rintro e w' ⟨rfl,rfl⟩;exact⟨_,rfl,cV.refl _,⟨_,rfl⟩,a⟩
theorem Wf(d:List eK)(m:d.length<=12)(H:aa B h0 h (th s d::As)):
  ac xx 131 #[s,.func (.func 132) #[] #[]] h fun v h'=>v=.tuple #[]/\aa B h0 h' (th s (d.mergeSort jc)::As):=by
 refine lr s (132,#[],#[]) ?_;unfold ij;have f:=(H.own 0 rfl).len;have a:∀k:Int,ac xx 224 #[s,xl xt 0,xl xt (s.len:Nat),xl xt k,.func (.func 132) #[] #[]] h fun v h'=>v=.tuple #[]/\aa B h0 h' (th s (d.mergeSort jc)::As):=fun k=>by
  refine mK s 0 (s.len:Nat) k (132,#[],#[]) ?_;unfold iY;refine aw (fun _:Unit=>((0:Int),((s.len:Nat):Int),k,true,true)) (fun _ h'=>h'=h) (fun _=>0) () rfl rfl ?_;rintro _ l rfl;refine al (fun _=>?_) fun e=>absurd (show qc xt (((s.len:Nat):Int)-0)<=12 by rw[ak _];omega) e;refine(Lz [] d [] 0 (s.len:Nat) rfl (by simp[f]) (by simp;omega) (by simpa using H)).mono ?_;rintro _ c ⟨rfl,M,j,i,b⟩;refine⟨(),rfl,rfl,?_⟩;rw[<-abX GI j i];simpa using b
 have g:qc xw ((s.len:Nat):Int)=((s.len:Nat):Int):=by unfold qc;simp[qk,yR];omega
 rw[g];refine(Rx s.len h (by omega)).mono ?_;rintro _ l ⟨⟨k,rfl⟩,rfl⟩;refine⟨k,rfl,(a k).mono ?_⟩;rintro _ c ⟨rfl,b⟩;exact⟨(),rfl,rfl,b⟩
end
section
variable {B:aB} {h0 h:Heap} {As:List HP}
def Cy:bD:=(0,0,0,0,0,0,⟨none,0,0⟩,⟨none,0,0⟩)
theorem Tt{m:aG}{e:Wl.bV}{xe:eK}{L:List (eK×Wl.bV)}{pool:List (Sl×aC)}(h:L.map zt=m.objs)(j:∀p∈L,DA pool p)(l:DA pool (xe,e)):
  ∃g:List (eK×Wl.bV),g.map qJ=(L.map qJ++[xe]).mergeSort jc/\g.map zt=(m.objs++[e]).mergeSort tW/\∀p∈g,DA pool p:=by
 have c:∀p∈L++[(xe,e)],DA pool p:=fun p d=>by
  rcases qA.1 d with d|d
  ·exact j p d
  ·rw[qG.1 d];exact l
 refine⟨(L++[(xe,e)]).mergeSort fun a b=>jc a.1 b.1,?_,?_,fun p d=>c p ((wK _ _).mem_iff.1 d)⟩
 ·rw[vA (r:=fun a b=>jc a.1 b.1) (s:=jc) (f:=qJ) (fun a _ b _=>rfl),qT];rfl
 ·rw[vA (r:=fun a b=>jc a.1 b.1) (s:=tW) (f:=zt) (fun a k b i=>by unfold jc tW;rw[(c a k).1.1,(c b i).1.1]),qT,h];rfl
theorem YA(x:bD)(m:aG)(xe:eK)(e:Wl.bV)(J:dK h x m)(I:cO m)(hs:0<=m.seq/\m.seq<=2^40)(Y:0<=m.next/\m.next<=2^40)(Z:m.objs.length<=11)(W:xe.1=e.name/\xe.2.1=e.object/\xe.2.2.1=e.length)(H:aa B h0 h (sV xe.2.2.2 1 aD e.tries::As)):
  ac xx 58 #[eT x,Rw xe] h fun v h'=>∃y:bD,v=eT y/\aa B h0 h' (bU y (db m e)::As):=by
 refine MJ x xe ?_;unfold FL;refine(Sp.refl h).boxed fun U h1 S=>S.boxed fun g h2 Q=>Q.alloc ae rfl fun a3 h3 j=>?_;have j:Sp h h3 [aq U 59 (aP x),aq g 105 (bI xe),aq a3 59 (aP Cy)]:=j;refine⟨x,(j.box 0 rfl).aL _ rfl,(rp x m h3 (J.up j.ai) I).mono ?_⟩;rintro _ h4 ⟨y,L,pool,rfl,s,E,D,F⟩;have G:=((j.bK [1,2]).comp F).front;refine⟨y,rfl,G.alloc ae rfl fun i h5 z=>?_⟩;have z:=z.bC;refine z.storeAll ae 0 rfl rfl (aP y) rfl rfl rfl rfl fun X r=>?_;have r:Sp h X [aq i 59 (aP y),eF 1 aD pool,ar 3 y.2.2.2.2.2.2.1 1 aD m.drives,ar 105 y.2.2.2.2.2.2.2 4 bI (L.map qJ),aq g 105 (bI xe),aq a3 59 (aP Cy)]:=r;refine⟨y.1,(r.box 0 rfl).cell0 rfl,?_⟩;have O:qc xt (y.1+1)=m.seq+1:=by rw[s.1,ak _]
 have R:qc xt (y.2.1+1)=m.next+1:=by rw[s.2.1,ak _]
 rw[O];refine r.kv ae 0 rfl rfl [xl xt (m.seq+1)] rfl rfl rfl (by simp[Value.cells]) fun N q=>?_;have q:Sp h N [aq i 59 (xl xt (m.seq+1)::(aP y).drop 1),eF 1 aD pool,ar 3 y.2.2.2.2.2.2.1 1 aD m.drives,ar 105 y.2.2.2.2.2.2.2 4 bI (L.map qJ),aq g 105 (bI xe),aq a3 59 (aP Cy)]:=q;refine⟨y.2.1,(q.box 0 rfl).cell rfl,?_⟩;rw[R];refine q.store ae 0 rfl rfl 1 [xl xt (m.next+1)] rfl rfl rfl (by simp[Value.cells]) fun h8 k=>?_;have k:Sp h h8 [aq i 59 (xl xt (m.seq+1)::xl xt (m.next+1)::(aP y).drop 2),eF 1 aD pool,ar 3 y.2.2.2.2.2.2.1 1 aD m.drives,ar 105 y.2.2.2.2.2.2.2 4 bI (L.map qJ),aq g 105 (bI xe),aq a3 59 (aP Cy)]:=k;have M:L.length=m.objs.length:=by rw[<-E,qu]
 refine⟨y.2.2.2.2.2.2.2,(k.box 0 rfl).cell rfl,xe,(k.box 4 rfl).aL _ rfl,?_⟩;refine k.push ae 3 rfl aaH rfl (by decide) (fun _=>rfl) Uw xe rfl (by decide) (by simp;omega) fun o P w=>?_;refine w.store ae 0 rfl rfl 7 [o] rfl rfl rfl (by simp[Value.cells]) fun u c=>?_;obtain⟨a,b⟩:∃a:bD,a=(m.seq+1,m.next+1,y.2.2.1,y.2.2.2.1,y.2.2.2.2.1,y.2.2.2.2.2.1,y.2.2.2.2.2.2.1,o):=⟨_,rfl⟩
 have T:a.2.2.2.2.2.2.1=y.2.2.2.2.2.2.1:=by rw[b]
 have K:a.2.2.2.2.2.2.2=o:=by rw[b]
 have c:Sp h u [aq i 59 (aP a),eF 1 aD pool,ar 3 a.2.2.2.2.2.2.1 1 aD m.drives,ar 105 a.2.2.2.2.2.2.2 4 bI (L.map qJ++[xe]),aq g 105 (bI xe),aq a3 59 (aP Cy)]:=by rw[T,K,b];exact c
 refine⟨a.2.2.2.2.2.2.2,(c.box 0 rfl).cell rfl,?_⟩;have c:=c.bi 6 [3,0,1,2,4,5];refine(Wf (L.map qJ++[xe]) (by simp;omega) c).mono ?_;rintro _ t ⟨rfl,f⟩;have f:Sp h t [th a.2.2.2.2.2.2.2 ((L.map qJ++[xe]).mergeSort jc),aq i 59 (aP a),eF 1 aD pool,ar 3 a.2.2.2.2.2.2.1 1 aD m.drives,aq g 105 (bI xe),aq a3 59 (aP Cy)]:=f;refine⟨(),rfl,a,(f.box 1 rfl).aL _ rfl,?_⟩;refine f.storeAll ae 5 rfl rfl (aP a) rfl rfl rfl rfl fun l d=>?_;have d:Sp h l [th a.2.2.2.2.2.2.2 ((L.map qJ++[xe]).mergeSort jc),aq i 59 (aP a),eF 1 aD pool,ar 3 a.2.2.2.2.2.2.1 1 aD m.drives,aq g 105 (bI xe),aq a3 59 (aP a)]:=d;refine⟨a,(d.box 5 rfl).aL _ rfl,a,rfl,?_⟩;obtain⟨L',l1,l2,V⟩:=Tt (pool:=(xe.2.2.2,e.tries)::pool) (m:=m) (e:=e) (xe:=xe) E (fun p A=>⟨(D p A).1,qR _ (D p A).2⟩) ⟨W,qW⟩;have n:=((H.comp (d.bK [2,3,0])).front).bi 4 [0,3,1,2];have n:aa B h0 l (eF 1 aD ((xe.2.2.2,e.tries)::pool)::ar 3 a.2.2.2.2.2.2.1 1 aD m.drives::ar 105 a.2.2.2.2.2.2.2 4 bI ((L.map qJ++[xe]).mergeSort jc)::As):=aa.Uy n;rw[<-l1]at n;refine aa.Jz (m:=db m e) ⟨by rw[b];rfl,by rw[b];rfl,by rw[b];exact s.2.2.1,by rw[b];exact s.2.2.2⟩ l2 V n
end
section
variable {B:aB} {h0 h:Heap} {As:List HP} {a pw:Addr} {offs:Int} {da:List aO} {w:Pow} {ds:aT}
theorem aa.YB{x y:bD}(H:aa B h0 h (aV bj a pw (aP x) offs da w ds::As)){K:Unit->Heap->Prop}(c:∀h',aa B h0 h' (aV bj a pw (aP y) offs da w ds::As)->K () h'):
  ag xx (qf 59 (xo (some a)) (eT y)) h K:=by
 obtain⟨ok,b⟩:=Go.Vc.aa.rv H;refine b.kv ae 0 rfl rfl (aP y) rfl rfl rfl (by simp) fun h' d=>c h' ?_;exact aa.sG (k:=bj) ⟨rfl,ok.la,ok.ls,ok.same⟩ d
theorem LA(x z:bD)(b:aG)(s:Sl)(l:aC)(m:St B h0 As fun h=>dK h z b/\Rd h s 1 aD l)(g:cO b)(p:l.length<=2^10)(n:∀k∈l,0<=k/\k<64)(H:aa B h0 h (aV bj a pw (aP x) offs da w ds::As)):
  ac xx 62 #[xo (some a),eT z,s] h fun v h'=>v=xl xt (layAll (bA b l) w ds).1/\
   ((layAll (bA b l) w ds).1≠0->aa B h0 h' (aV bj a pw (aP x) offs da (layAll (bA b l) w ds).2.1 (layAll (bA b l) w ds).2.2::As))/\
   ((layAll (bA b l) w ds).1=0->∃y,aa B h0 h' (aV bj a pw (aP y) offs da (layAll (bA b l) w ds).2.1 (layAll (bA b l) w ds).2.2::bU y b::As)):=by
 refine Dq (some a) z s ?_;unfold sq;refine H.boxed fun G J d=>?_;have d:=d.bC;refine⟨z,(d.box 0 rfl).aL _ rfl,(IB z b s l J (m.at [_,_] d).1 g (m.at [_,_] d).2 p).mono ?_⟩;rintro _ M ⟨r,t,rfl,I⟩;have E:=(d.cS I).bi 3 [2,0,1];have f:=jb b g;have u:=wh p f;refine⟨r,rfl,(AL r t (bA b l) (St.dU 0 rfl fun _ o=>o) (by rw[By];omega) (fun q o=>?_) E).mono ?_⟩
 ·obtain⟨j,i⟩:=ke o;rw[i];exact⟨n _ j,by decide⟩
 rintro _ h3 ⟨rfl,c⟩;obtain⟨R,K⟩:∃R,R=layAll (bA b l) w ds:=⟨_,rfl⟩
 rw[<-K]at c⊢;refine⟨_,rfl,ca (fun e=>⟨rfl,fun _=>c.bi 3 [0],fun h=>absurd h e⟩) fun e=>?_⟩;have c:aa B h0 h3 (aV bj a pw (aP x) offs da R.2.1 R.2.2::cu dX 2 piv r t (bA b l)::aq G 59 (aP z)::As):=c;refine⟨z,(c.box 2 rfl).aL _ rfl,(Lm z b h3 (m.at [_,_,_] c).1 g).mono ?_⟩;rintro _ L ⟨y,rfl,A⟩;have D:=(c.cS A).bi 4 [1,0];refine⟨y,rfl,a,rfl,aa.YB D fun N F=>?_⟩;exact⟨by rw[e],fun h=>absurd e h,fun _=>⟨y,F⟩⟩
def dP(name:ByteArray)(e:Wl.bV):Bool:=e.name.toList==name.toList
theorem find_spec(x:bD)(m:aG)(name:ByteArray)(r:dK h x m)(q:cO m)(H:aa B h0 h (aV bj a pw (aP x) offs da w ds::As)):
  ac xx 65 #[xo (some a),xp name] h fun v h'=>(∃i:Int,v=xl xt i/\VX (dP name) m.objs i)/\Sp h h' []:=by
 refine Dr (some a) name ?_;unfold su;refine(Sp.refl h).boxed fun e o b=>?_;have n:bX o e 9 [xp name]:=b.box 0 rfl;obtain⟨ok,k⟩:=aa.cB H;have g:=k.ai b.ai k.lt;have d:=q.ob;refine⟨a,rfl,x.2.2.2.2.2.2.2,g.cell rfl,?_⟩;refine(IC 139 #[] #[xo (some e)] (dP name) x.2.2.2.2.2.2.2 m.objs o (by rfl) (r.up b.ai).objs d ?_).mono ?_
 ·intro u E j f p z;refine Bl u e ?_;unfold pi;refine(Sp.refl j).boxed fun y h3 c=>?_;have l:=(n.ai f.ai n.lt)
  have s:=l.ai c.ai l.lt;refine⟨u.1,(c.box 0 rfl).cell0 rfl,name,s.cell0 rfl,?_,.zip c.ai⟩;unfold dP;rw[p.1.1]
 ·rintro _ j ⟨⟨i,rfl,t⟩,f⟩;exact⟨i,rfl,⟨i,rfl,t⟩,.zip (aa.up b f.ai).ai⟩
theorem sH{b:aW}(H:aa B h0 h (aV bj a pw b offs da w ds::As)):ac xx 63 #[xo (some a)] h fun v h'=>v=xq (dC w offs)/\h'=h:=by
 refine EJ (some a) ?_;unfold tw;refine bw (fun e=>by cases e) fun _=>(Cv H).mono ?_;rintro _ _ ⟨rfl,rfl⟩;exact⟨_,rfl,rfl,rfl⟩
def cK(m:aG)(down:Bool)(ds:aT)(name:ByteArray)(n:Nat):Int:=
 if down then 14 else if !jv name then 3 else if m.objs.any (dP name)then 4
 else if m.p.1*m.p.2.2*8<(n:Int)∨12<=m.objs.length then 6
 else if bc ds m.drives=[]∨16777215<m.next∨2147483647<=m.seq then 7 else 0
theorem Ry(x:bD)(m:aG)(name:ByteArray)(s:Sl)(n:Nat)(Y:s.len=n)(z:name.size<=2^40)(Q:dK h x m)(J:cO m)(U:bL m.p=true)(H:aa B h0 h (aV bj a pw (aP x) offs da w ds::As)):
  ac xx 54 #[xo (some a),xp name,s] h fun v h'=>v=xl xt (cK m (dC w offs) ds name n)/\Sp h h' []:=by
 refine yN (some a) name s ?_;unfold od;have L:=(bM m.p).1 U;refine(sH H).mono ?_;rintro _ G ⟨rfl,rfl⟩;refine⟨_,rfl,bw (fun e=>⟨by unfold cK;rw[e];rfl,Sp.refl _⟩) fun l=>?_⟩;refine(Oc name G z).mono ?_;rintro _ Z ⟨rfl,o⟩;refine⟨_,rfl,bh (fun e=>⟨by unfold cK;rw[l,e];rfl,o⟩) fun A=>?_⟩;have K:=H.up o.ai;have f:=Q.up o.ai;refine(find_spec x m name f J K).mono ?_;rintro _ h3 ⟨⟨i,rfl,V⟩,y⟩;have u:Sp G h3 []:=.zip (aa.up o y.ai).ai;have d:=Rm V;refine⟨i,rfl,bw (fun e=>⟨by unfold cK;rw[l,A,<-d,e];rfl,u⟩) fun R=>?_⟩;rw[R]at d;have I:=K.up y.ai;have b:=f.up y.ai;obtain⟨ok,k⟩:=aa.cB I;have N:=cF.len b.objs;have E:x.2.2.1=m.p.1:=congrArg (·.1) b.p;have D:x.2.2.2.2.1=m.p.2.2:=congrArg (·.2.2) b.p;have hk:m.p.1*m.p.2.2<=16*24:=Int.mul_le_mul (by omega) (by omega) (by omega) (by omega);have P:0<=m.p.1*m.p.2.2:=vg (by omega) (by omega);refine cl (fun(t:Bool) h'=>t=decide (m.p.1*m.p.2.2*8<(n:Int)∨12<=m.objs.length)/\h'=h3) ?_ ?_
 ·refine⟨a,rfl,x.2.2.1,k.cell rfl,a,rfl,x.2.2.2.2.1,by rw[addr_add];exact k.cell rfl,?_⟩;rw[E,D,ak (m.p.1*m.p.2.2),ak (m.p.1*m.p.2.2*8)];refine al (fun e=>⟨(decide_eq_true (.inl (by omega))).symm,rfl⟩) fun e=>?_;refine⟨a,rfl,x.2.2.2.2.2.2.2,k.cell rfl,?_,rfl⟩;rw[decide_eq_decide];omega
 rintro t _ ⟨rfl,rfl⟩;refine al (fun e=>⟨by unfold cK;rw[l,A,<-d,if_pos e];rfl,u⟩) fun X=>?_;have S:cK m (dC w offs) ds name n=if bc ds m.drives=[]∨16777215<m.next∨2147483647<=m.seq then 7 else 0:=by
  unfold cK;rw[l,A,<-d,if_neg X];rfl
 rw[S];refine(ez x m b J I).mono ?_;rintro _ M ⟨r,rfl,q⟩;have g:=(q.own 0 rfl).len;have c:Sp G M []:=.zip (aa.up u q.ai).ai;have j:=k.ai q.ai k.lt;refine⟨r,rfl,cI (fun e=>⟨by rw[if_pos (.inl (qZ (by omega)))],c⟩) fun e=>?_⟩;have F:bc ds m.drives≠[]:=fun T=>by rw[T]at g;simp at g;omega
 refine⟨a,rfl,x.2.1,j.cell rfl,al (fun e=>⟨by rw[if_pos (.inr (.inl (by rw[<-b.next];omega)))],c⟩) fun e6=>?_⟩;have O:=b.next;have W:=b.seq;refine⟨a,rfl,x.1,j.cell0 rfl,al (fun e=>⟨by rw[if_pos (.inr (.inr (by omega)))],c⟩) fun e7=>⟨?_,c⟩⟩;rw[if_neg];rintro(h|h|h)
 ·exact F h
 ·omega
 ·omega
end
theorem Rz:∃i a,C.T.get 35=some i/\i.cU=.slice a:=⟨_,_,rfl,rfl⟩
def oB(A B:aS)(k:Nat):aS:=eI (A.take k) (B.take k)++A.drop k
theorem sI{A B:aS}(h:B.length=A.length)(k:Nat):(oB A B k).length=A.length:=by simp[oB,eI,h];omega
theorem YC{A B:aS}(h:B.length=A.length){k:Nat}(a:k<A.length):(oB A B k)[k]?=some A[k]:=by
 have:(eI (A.take k) (B.take k)).length=k:=by simp[eI];omega
 rw[oB,qj (by omega),this,zi,wC,yu,qd a]
theorem YD{A B:aS}(h:B.length=A.length){k:Nat}(a:k<A.length):(oB A B k).set k (A[k]++B[k]'(by omega))=oB A B (k+1):=by
 have b:(eI (A.take k) (B.take k)).length=k:=by simp[eI];omega
 rw[oB,zc _ _ (by omega),b,zi,qV a,zC,oB,aI _ _ a,aI _ _ (show k<B.length by omega),eI,eI,List.zipWith_append (by simp;omega),qp];rfl
theorem YE{A B:aS}(h:B.length=A.length):oB A B A.length=eI A B:=by
 rw[oB,qQ,<-h,qQ,h,List.drop_length,qS]
theorem Wg(f:Addr)(a b:Sl)(A B:aS)(n w:Nat)(h:Heap)(hf:gN h f)(N:gx h a 1 aE A)(P:gx h b 1 aE B)(hl:A.length=n)(a7:B.length=n)(g:bg n A)(I:bg w B)(a0:1<=n)(hn:n+w<=64)(hr:cR A=n):
  ac xx 211 #[xo (some f),a,b] h fun v h'=>∃r:Sl,v=.tuple #[r,xl xt 0]/\Sp h h' [fS 35 r 1 aE (fI n A B)]:=by
 have d:B.length=A.length:=by omega
 have W:=N.len;have u:=P.len;refine Ep (some f) a b ?_;unfold Bn;refine be ?_;refine(my a A n h N g).mono ?_;rintro v h1 ⟨rfl,rfl⟩;refine⟨_,rfl,bh (fun e=>by cases e) fun _=>?_⟩;refine(my b B w h1 P I).mono ?_;rintro v H ⟨rfl,rfl⟩;refine⟨_,rfl,bh (fun e=>by cases e) fun _=>?_⟩;refine ca (fun e=>absurd (by rw[W,u,d]) e) fun _=>?_;refine cI (fun e=>by omega) fun _=>?_;refine(rz a A H N).mono ?_;rintro v h3 ⟨rfl,rfl⟩;have ab:fP A=n:=by
  cases A with
  |nil=>simp at hl;omega
  |cons x t=>rw[fP,bv (by simp)];exact g _ (by simp)
 refine⟨_,rfl,?_⟩;rw[ab];refine(xK a A n h3 N g).mono ?_;rintro v h4 ⟨r,rs,rfl,bb,R4⟩;refine⟨r,rfl,?_⟩;have ah:=(R4.own 0 rfl).len;refine aw (fun t:Nat×List Sl=>(t.1:Int)) (fun t h'=>t.1<=n/\t.2.length=n/\Sp h3 h' (ne r t.2 (oB A B t.1))) (fun t=>n-t.1) (0,rs) rfl ⟨by simp,by dsimp only;omega,by simpa[oB,eI]using R4⟩ ?_;rintro⟨k,rs⟩ h5 ⟨hk,a2,y⟩;dsimp only at*;have F:rs.length=(oB A B k).length:=by rw[sI d];omega
 refine al (fun e=>?_) (fun e=>?_)
 ·have l:k<n:=by omega
  have z:k<A.length:=by omega
  have K:=oz (a:=r) F k (by rw[sI d];omega);have eg:(oB A B k)[k]'(by rw[sI d];omega)=A[k]:=by
   have:=YC d z;rw[qd (by rw[sI d];omega)]at this;exact zM.inj this
  rw[eg]at K;have l1:A[k].length=n:=g _ (qh _);have l2:(B[k]'(by omega)).length=w:=I _ (qh _);refine(y.seq 0 rfl (fun _=>rfl)).oJ k rfl (by omega) fun a1 Y R=>?_;refine(P.up y.ai).get k rfl (by omega) fun rb V=>?_;refine y.append ae (k+1) K ga Rz rfl (by decide) (fun _=>rfl) V gw (by omega) fun L h6 H6=>⟨trivial,?_⟩
  refine H6.set ae 0 rfl (fun _=>rfl) rfl k rfl (by omega) L rfl rfl rfl fun h7 H7=>⟨trivial,?_⟩
  refine⟨(k+1,rs.set k L),by dsimp only;rw[ak _];rfl,⟨by dsimp only;omega,by dsimp only;simp;omega,?_⟩,by dsimp only;omega⟩;dsimp only;rw[<-YD d z];show Sp h3 h7 (ar 35 r 1 bJ (rs.set k L)::bR 5 1 aE (rs.set k L) ((oB A B k).set k _));rw[<-lC F];exact H7
 ·have O:k=A.length:=by omega
  subst O;rw[YE d]at y;refine(tg f h5).mono ?_;rintro v h6 ⟨rfl,rfl⟩;refine⟨some f,rfl,?_⟩;have o:=mf d.symm g I;have a9:=lD d.symm;refine(Bw (m:=eI A B) (n:=n+w) hf hf.lt (by omega) o (by omega) (by omega) (by omega) y).mono ?_;rintro v h7 ⟨i,rfl,am,j⟩;rw[IX d.symm g,hr];refine⟨_,rfl,?_⟩;dsimp only;have ao:=(j.own 0 rfl).cap;have a6:=(j.own 0 rfl).len;have H:=il o n;refine al (fun e=>absurd (show(n:Int)<(n:Int)from e) (by omega)) fun _=>?_;refine⟨⟨zX _,yK.2 (show n<=r.len by omega)⟩,?_⟩;refine aw (fun _:Unit=>(0:Int)) (fun _ h'=>h'=h7) (fun _=>0) () rfl rfl ?_;rintro _ h8 rfl;rw[qo];refine al (fun e=>by omega) fun _=>?_;refine⟨⟨zX _,yK.2 (show n<=r.cap by omega)⟩,?_⟩;obtain⟨M,J⟩:∃M,M=(bG (eI A B) n).2:=⟨_,rfl⟩
  have ay:M.length=n:=by have:=H.2;rw[<-J]at this;omega
  have U:bg (n+w) M:=by rw[J];exact H.1
  have p:∀k (hk:k<n),(fI n A B).take (k+1)=(fI n A B).take k++[(M[k]'(by omega)).drop n]:=fun k hk=>by
   have e1:fI n A B=M.map (List.drop n):=by rw[fI,<-J,qi (by omega)]
   rw[e1,aI _ _ (by simp;omega),zS]
  have a8:(fI n A B).length=n:=(uA d.symm g I hr).1;rw[<-J]at j;refine aw (fun t:Sl×Nat=>(t.1,(t.2:Int))) (fun t h'=>t.2<=n/\Sp h8 h' [fS 35 t.1 1 aE ((fI n A B).take t.2)]) (fun t=>n-t.2) (⟨none,0,0⟩,0) rfl ⟨by simp,(Sp.refl h8).Kb 35 1 aE⟩ ?_;rintro⟨s,k⟩ h9 ⟨ax,G⟩;dsimp only at*;have S:=j.comp G;have X:i.length=M.length:=by omega
  refine al (fun e=>?_) (fun e=>?_)
  ·have l:k<n:=by omega
   have K:=oz (a:=r) X k (by omega);have D:(ne r i M++[fS 35 s 1 aE ((fI n A B).take k)])[k+1]?=some (ar 5 (i[k]'(by omega)) 1 aE (M[k]'(by omega))):=by
    rw[qm (by simp[bR];omega)];exact K
   have a3:(M[k]'(by omega)).length=n+w:=U _ (qh _);have E:=S.own (k+1) D;have Z:=S.seq (k+1) D (fun _=>rfl);have ap:=E.len;have q:=(S.seq 0 rfl (fun _=>rfl)).take n (by omega);rw[qi (by omega)]at q;refine q.oJ k rfl (by omega) fun a1 Y R=>?_;refine⟨⟨zX _,yK.2 (by omega)⟩,?_⟩;refine(fR _ _ h9 (Z.drop n E.cap) (by simp;omega)).mono ?_;rintro v a5 ⟨c,rfl,Q⟩;have ad:=(G.comp Q).freeze 1 rfl (fun _=>rfl);refine⟨c,rfl,?_⟩;refine ad.uw ae 0 1 (by decide) rfl rfl fG (by simp;omega) fun s' a4 T=>?_;refine⟨(s',k+1),by dsimp only;rw[ak _];rfl,⟨by dsimp only;omega,?_⟩,by dsimp only;omega⟩;dsimp only;rw[p k l];exact T.del 1
  ·rw[qi (by omega)]at G;refine⟨s,rfl,?_⟩;have:=(Sp.zip j.ai).comp G;exact this
def nQ(p:Pm)(seed:Int)(l:Nat):Int:=if bL p&&decide ((l:Int)=p.1*p.2.2)then(if fT p seed (eV p)then 0 else 8)else 1
abbrev JD(p:Pm)(seed:Int)(m:Sl):aW:=[xl xt p.1,xl xt p.2.1,xl xt p.2.2,xl xv seed,m]
theorem aaY(p:Pm)(seed:Int)(data:Sl)(d:Row)(h:Heap)(hd:Rd h data 1 aE d)(hc:data.len<=data.cap):
  ac xx 126 #[kh p,xl xv seed,data] h fun v h'=>
   (nQ p seed d.length=0->∃(b:Addr) (m:Sl),v=.tuple #[xo (some b),xl xt 0]/\Sp h h' [fS 35 m 1 aE (eW p seed d),aq b 241 (JD p seed m)])/\
   (nQ p seed d.length≠0->v=.tuple #[xo none,xl xt (nQ p seed d.length)]/\Sp h h' []):=by
 have ad:=hd.len;refine MM p seed data ?_;unfold FS;refine(Sp.refl h).boxed fun a h1 H1=>?_;refine be ?_;refine⟨p,(H1.box 0 rfl).aL _ rfl,(ey p h1).mono ?_⟩;rintro v h2 ⟨rfl,R2⟩;have M:=H1.comp R2;have no:∀{h3:Heap} (x:Int),x≠0->nQ p seed d.length=x->Sp h h3 [aq a 24 [xl xt p.1,xl xt p.2.1,xl xt p.2.2]]->
   (nQ p seed d.length=0->∃(b:Addr) (m:Sl),Value.tuple #[xo none,xl xt x]=.tuple #[xo (some b),xl xt 0]/\Sp h h3 [fS 35 m 1 aE (eW p seed d),aq b 241 (JD p seed m)])/\
   (nQ p seed d.length≠0->Value.tuple #[xo none,xl xt x]=.tuple #[xo none,xl xt (nQ p seed d.length)]/\Sp h h3 []):=fun x hx O H=>by
  refine⟨fun e=>absurd (O.symm.trans e) hx,fun _=>⟨by rw[O],.zip H.ai⟩⟩
 refine⟨_,rfl,bh (fun e=>no 1 (by decide) (by rw[nQ,e];rfl) M) fun R=>?_⟩;have am:=(bM p).1 R;obtain⟨K,hK⟩:∃K:Nat,p.1=K:=⟨p.1.toNat,by omega⟩
 obtain⟨u,hH⟩:∃H:Nat,p.2.1=H:=⟨p.2.1.toNat,by omega⟩
 obtain⟨w,N⟩:∃w:Nat,p.2.2=w:=⟨p.2.2.toNat,by omega⟩
 have a0:K*w<=16*24:=wh (by omega) (by omega);have J:p.1*p.2.2=((K*w:Nat):Int):=by rw[hK,N,wj]
 refine⟨p.1,(M.box 0 rfl).cell0 rfl,p.2.2,(M.box 0 rfl).cell rfl,?_⟩;rw[J,ak _];refine ca (fun e=>no 1 (by decide) (by rw[nQ,R,decide_eq_false (by rw[J];intro e2;exact e (by rw[ad];exact e2))];rfl) M) fun el=>?_;have F:d.length=K*w:=by omega
 refine⟨p,(M.box 0 rfl).aL _ rfl,(Lu p seed h2).mono ?_⟩;rintro v h3 ⟨rfl,R3⟩;have T:=M.comp R3;have y:nQ p seed d.length=if fT p seed (eV p)then 0 else 8:=by rw[nQ,R,decide_eq_true (by rw[J,F])];rfl
 refine⟨_,rfl,bh (fun e=>no 8 (by decide) (by rw[y,e];rfl) T) fun hf=>?_⟩;rw[hf,if_pos rfl]at y;have B:bT p seed d K u w (K+u):=⟨R,hf,hK,hH,N,rfl,by omega,by omega,by omega,by omega,by omega,by omega,F⟩
 refine⟨p.2.1,(T.box 0 rfl).cell rfl,?_⟩;refine aw (fun t:Sl×List Sl=>(t.1,(t.2.length:Int))) (fun t h'=>t.2.length<=u/\Sp h h' (aq a 24 [xl xt p.1,xl xt p.2.1,xl xt p.2.2]::ne t.1 t.2 (qg t.2.length (aN w)))) (fun t=>u-t.2.length) (⟨none,0,0⟩,[]) rfl ⟨by simp,T.nil 35 1 bJ⟩ ?_;rintro⟨s,rs⟩ h4 ⟨hk,P⟩;dsimp only at*;refine al (fun e=>?_) (fun e=>?_)
 ·refine⟨p.2.2,(P.box 0 rfl).cell rfl,?_⟩;refine P.make ae aE ga (by decide) 0 rfl rfl w w N N (ql _) (by omega) fun z Y ay ao D=>?_;refine D.push ae 1 rfl fG rfl (by decide) (fun _=>rfl) lY z rfl (by decide) (by omega) fun Z h6 X=>?_;refine⟨(Z,rs++[z]),by dsimp only;rw[ak _];simp,⟨by simp;omega,?_⟩,by simp;omega⟩;dsimp only;have e7:ne Z (rs++[z]) (qg rs.length (aN w)++[aN w])=ar 35 Z 1 bJ (rs++[z])::(bR 5 1 aE rs (qg rs.length (aN w))++[ar 5 z 1 aE (aN w)]):=congrArg _ (uL (by simp) z (aN w));rw[show(rs++[z]).length=rs.length+1 by simp,List.replicate_succ',e7];exact X
 ·have L:rs.length=u:=by omega
  rw[L]at P;refine⟨p.1,(P.box 0 rfl).cell0 rfl,?_⟩;let own:=bR 5 1 aE rs (qg u (aN w));refine aw (fun t:Sl×Nat=>(t.1,(t.2:Int))) (fun t h'=>t.2<=K/\Sp h h' (aq a 24 [xl xt p.1,xl xt p.2.1,xl xt p.2.2]::ar 35 t.1 1 bJ (rs++(qE t.2).map (Mu data w))::own)) (fun t=>K-t.2) (s,0) rfl ⟨by simp,by simpa using P⟩ ?_;rintro⟨t,k⟩ Y ⟨ap,D⟩;dsimp only at*;refine al (fun e2=>?_) (fun e2=>?_)
  ·have U:k<K:=by omega
   have m1:(k+1)*w<=K*w:=zu w U;have m2:k*w<=(k+1)*w:=zu w (by omega);refine⟨p.2.2,(D.box 0 rfl).cell rfl,p.2.2,(D.box 0 rfl).cell rfl,?_⟩;rw[ak ((k:Int)+1)];have e5:(k:Int)*p.2.2=((k*w:Nat):Int):=by rw[N,wj]
   have e6:((k:Int)+1)*p.2.2=(((k+1)*w:Nat):Int):=by rw[N,wj];rfl
   rw[e5,e6,tR _,tR _,qo,qo];refine⟨⟨zX _,yK.2 m2,yK.2 (by omega)⟩,?_⟩;refine D.push ae 1 rfl fG rfl (by decide) (fun _=>rfl) lY (Mu data w k) rfl (by decide) (by simp;omega) fun t' h6 X=>?_;refine⟨(t',k+1),rfl,⟨by dsimp only;omega,?_⟩,by dsimp only;omega⟩;dsimp only;rw[zI,qT,<-qp];exact X
  ·have ab:k=K:=by omega
   subst ab;refine be ?_;have E:gx Y t 1 aE (gh k u w d):=by
    refine⟨rs++(qE k).map (Mu data w),D.seq 1 rfl (fun _=>rfl),by rw[Fv];simp;omega,fun i r l o n=>?_⟩;by_cases G:i<u
    ·rw[qm (by omega),qd (by omega)]at o;rw[gh,qm (by simpa using G)]at n;have hz:l=aN w:=by simp[G]at n;exact n.symm
     have hr:rs[i]'(by omega)=r:=zM.inj o;have g:(aq a 24 [xl xt p.1,xl xt p.2.1,xl xt p.2.2]::ar 35 t 1 bJ (rs++(qE k).map (Mu data w))::own)[i+2]?=some (ar 5 (rs[i]'(by omega)) 1 aE ((qg u (aN w))[i]'(by simpa using G))):=jX (by simpa using L) i (by simpa using G);have:=D.seq (i+2) g (fun _=>rfl);rw[List.getElem_replicate,hr]at this;rw[hz];exact this
    ·obtain⟨j,rfl⟩:∃j,i=u+j:=⟨i-u,by omega⟩
     rw[qj (by omega),L,zq]at o;rw[gh,qj (by simp),List.length_replicate,zq]at n;have hj:j<k:=by
      have:=(qn.1 o).1;simpa using this
     simp[hj]at o n;have m1:(j+1)*w<=k*w:=zu w hj;rw[<-o,<-n];exact(Seq.up hd D.ai).piece hc w j (by omega)
   have c:=D.box 0 rfl;refine⟨p,c.aL _ rfl,p,c.aL _ rfl,(un Y).mono ?_⟩;rintro v h6 ⟨f,rfl,R6⟩;have q:=c.ai R6.ai c.lt;refine⟨some f,rfl,⟨q.cell0 rfl,q.cell rfl,q.cell rfl,q.cell0 rfl,q.cell rfl,q.cell rfl,trivial⟩,(Lt p h6).mono ?_⟩;rintro v h7 ⟨r7,rfl,R7⟩;have W:=R6.comp R7;have I:=c.ai W.ai c.lt;refine⟨r7,rfl,⟨I.cell0 rfl,I.cell rfl,I.cell rfl,trivial⟩,?_⟩;refine(ID p seed r7 (eV p) h7 (W.seq 1 rfl (fun _=>rfl)) (by rw[eV,gy];omega)).mono ?_;rintro v h8 ⟨r8,rfl,R8⟩;have S:=W.comp R8;refine⟨r8,rfl,trivial,?_⟩;refine(Wg f r8 t _ _ (k+u) w h8 (S.box 0 rfl) (S.Ie 2 rfl) (E.up S.ai) B.Fu (by rw[Fv]) B.HD (tZ B.len) (by omega) (by omega) B.MD).mono ?_;rintro v h9 ⟨r9,rfl,R9⟩;have Q9:=S.comp R9;refine⟨(r9,0),rfl,trivial,?_⟩;refine ca (fun e=>absurd rfl e) fun _=>?_;have V:=c.ai Q9.ai c.lt;refine⟨p,V.aL _ rfl,?_⟩;refine Q9.boxed (t:=241) fun b ax ah=>?_;refine⟨fun _=>⟨b,r9,rfl,?_⟩,fun e=>absurd y e⟩;have Q:=(Sp.zip D.ai).comp ah;rw[<-B.DU]at Q;exact Q.take 3 (fun i A G=>by
    cases i with
    |zero=>exact G
    |succ i=>cases i with
     |zero=>exact G
     |succ i=>simp at G)
def Nk(h:Heap)(b:Addr)(p:Pm)(seed:Int)(M:aS):Prop:=∃m:Sl,bX h b 241 (JD p seed m)/\gx h m 1 aE M
theorem Nk.up{h h':Heap}{b:Addr}{p:Pm}{seed:Int}{M:aS}(d:Nk h b p seed M)(a:aU (fun b=>b<h.size) h h'):Nk h' b p seed M:=by
 obtain⟨m,c,e⟩:=d;exact⟨m,c.ai a c.lt,e.up a⟩
theorem Tu{a t:Row}(b:a.length=t.length){k:Nat}(d:k<t.length):(zo (fun x y=>y^^^Gf.mul 1 x) (a.take k) (t.take k)++t.drop k).set k (t[k]^^^(a[k]'(by omega)))=zo (fun x y=>y^^^Gf.mul 1 x) (a.take (k+1)) (t.take (k+1))++t.drop (k+1):=by
 have:=xL (c:=1) b d;rw[Gf.one_mul]at this;exact this
theorem aeN{a t:Row}(c:a.length=t.length){k:Nat}(d:k<t.length):(zo (fun x y=>y^^^Gf.mul 1 x) (a.take k) (t.take k)++t.drop k)[k]?=some t[k]:=by
 have b:(zo (fun x y=>y^^^Gf.mul 1 x) (a.take k) (t.take k)).length=k:=by simp;omega
 rw[qj (by omega),b,zi,wC,yu,qd d]
theorem Tv(b:Addr)(p:Pm)(seed id:Int)(M:aS)(n w:Nat)(h:Heap)(hb:Nk h b p seed M)(H:bL p=true)(V:p.2.2=w)(hn:(cg p).toNat=n)(T:bg w M)(Z:M.length=n):
  ac xx 128 #[xo (some b),xl xt id] h fun v h'=>∃r:Sl,v=r/\Sp h h' [ar 5 r 1 aE (if bS id then fE w M (dj n seed id)else[])]:=by
 obtain⟨m,f,O⟩:=hb;have ax:=O.len;have ah:=(bM p).1 H;have hc:cg p=p.1+p.2.1:=by rw[cg,if_pos H]
 refine Ab (some b) id ?_;unfold ol;have Y:bS id=false->∃r:Sl,Value.slice none 0 0=xn r.ptr r.len r.cap/\Sp h h [ar 5 r 1 aE (if bS id then fE w M (dj n seed id)else[])]:=fun e=>by
  rw[e];exact⟨⟨none,0,0⟩,rfl,(Sp.refl h).nil 5 1 aE⟩
 refine be (bw (fun e=>by cases e) fun _=>al (fun e=>Y (by simp[bS];omega)) fun e1=>al (fun e=>Y (by simp[bS];omega)) fun W=>?_);have hid:bS id=true:=by simp[bS];omega
 refine⟨b,rfl,p.2.2,f.cell rfl,?_⟩;refine(Sp.refl h).make ae aE ga (by decide) 0 rfl rfl w w V V (ql _) (by omega) fun o h1 ao ab X=>?_;have u:=f.ai X.ai f.lt;refine⟨b,rfl,p,u.aL _ rfl,b,rfl,seed,u.cell rfl,(AO p seed id h1).mono ?_⟩;rintro v h2 ⟨c,rfl,P⟩;rw[H,hid,Bool.and_self,if_pos rfl,hn]at P;rw[hid,if_pos rfl];have F:=X.comp P;obtain⟨d,j⟩:∃d,d=dj n seed id:=⟨_,rfl⟩
 have s:∀x∈d,0<=x/\x<(n:Int):=fun x Q=>ma (by omega) (by omega) (by rw[<-j];exact Q);have N:d.length<=n:=by rw[j];exact Ao (by omega) (by omega) _ _
 rw[<-j]at F⊢;have ad:=(F.seq 1 rfl (fun _=>rfl)).len;refine⟨c,rfl,trivial,?_⟩;refine aw (fun i:Nat=>(i:Int)) (fun i h'=>i<=d.length/\Sp h h' [ar 5 o 1 aE (fE w M (d.take i)),ar 3 c 1 aD d]) (fun i=>d.length-i) 0 rfl ⟨by omega,F⟩ ?_;rintro i h3 ⟨E,l⟩;refine al (fun e=>?_) (fun e=>?_)
 ·have q:i<d.length:=by omega
  have Q:=s _ (qh q);refine(l.seq 1 rfl (fun _=>rfl)).bx i rfl q _ rfl ?_;have G:=f.ai l.ai f.lt;refine⟨b,rfl,m,G.cell rfl,?_⟩;obtain⟨a2,R⟩:=O;refine(R.ai l.ai).get d[i].toNat (by omega) (by omega) fun r U L=>?_;have z:=R.row _ r _ L (qd (show d[i].toNat<M.length by omega));obtain⟨row,g⟩:∃row,row=M[d[i].toNat]'(by omega):=⟨_,rfl⟩
  have a0:row.length=w:=by rw[g];exact T _ (qh _)
  rw[<-g]at U z;obtain⟨S,K⟩:∃S,S=fE w M (d.take i):=⟨_,rfl⟩
  have ay:S.length=w:=by rw[K];exact oU T Z s i E
  have ap:=U.len;have W:fE w M (d.take (i+1))=dl 1 row S:=by rw[aI _ _ q,Da,K,g,bv (by omega)]
  rw[<-K]at l;refine aw (fun k:Nat=>(k:Int)) (fun k h'=>k<=w/\Sp h h' [ar 5 o 1 aE (zo (fun x y=>y^^^Gf.mul 1 x) (row.take k) (S.take k)++S.drop k),ar 3 c 1 aD d]) (fun k=>w-k) 0 rfl ⟨by omega,by simpa using l⟩ ?_;rintro k h4 ⟨hk,B⟩;have I:=z.ai B.ai;have a1:(zo (fun x y=>y^^^Gf.mul 1 x) (row.take k) (S.take k)++S.drop k).length=w:=by simp;omega
  refine al (fun e3=>?_) (fun e3=>?_)
  ·have am:k<w:=by omega
   have D:(zo (fun x y=>y^^^Gf.mul 1 x) (row.take k) (S.take k)++S.drop k)[k]'(by omega)=S[k]'(by omega):=by
    have:=aeN (a:=row) (t:=S) (by omega) (show k<S.length by omega);rw[qd (by omega)]at this;exact zM.inj this
   refine I.bx k rfl (by omega) _ rfl ?_;refine(B.seq 0 rfl (fun _=>rfl)).bx k rfl (by omega) _ rfl ?_;rw[D,pC];refine B.set ae 0 rfl (fun _=>rfl) rfl k rfl (by omega) _ rfl rfl rfl fun h5 H5=>?_;refine⟨k+1,by rw[ak _];rfl,⟨by omega,?_⟩,by omega⟩;rw[<-Tu (by omega) (show k<S.length by omega)];exact H5
  ·have J:k=w:=by omega
   subst J;rw[qi (by omega),qi (by omega),zb (by omega),qS]at B;refine⟨i+1,by rw[ak _];rfl,⟨by omega,?_⟩,by omega⟩;rw[W];exact B
 ·rw[qi (by omega)]at l;exact⟨o,rfl,l.take 0 (fun i A E=>by cases i with|zero=>exact E|succ i=>simp at E)⟩
theorem _root_.Wl.bT.nQ{p:Pm}{seed:Int}{d:Row}{K H w n:Nat}(B:bT p seed d K H w n):nQ p seed d.length=0:=by
 rw[Go.Qw.nQ,B.may,B.full,B.len,B.k,B.s,decide_eq_true (by rw[wj])];rfl
theorem aeO{p:Pm}{seed:Int}{d:Row}{K H w n:Nat}(B:bT p seed d K H w n)(data:Sl)(h:Heap)(e:Rd h data 1 aE d)(a:data.len<=data.cap):
  ac xx 126 #[kh p,xl xv seed,data] h fun v h'=>
   ∃(b:Addr) (m:Sl),v=.tuple #[xo (some b),xl xt 0]/\Sp h h' [fS 35 m 1 aE (eW p seed d),aq b 241 (JD p seed m)]:=
 (aaY p seed data d h e a).mono fun _ _ c=>c.1 B.nQ
theorem _root_.Wl.bT.symbol{p:Pm}{seed:Int}{d:Row}{K H w n:Nat}(B:bT p seed d K H w n)(b:Addr)(id:Int)(h:Heap)(a:Nk h b p seed (eW p seed d)):
  ac xx 128 #[xo (some b),xl xt id] h fun v h'=>∃r:Sl,v=r/\Sp h h' [ar 5 r 1 aE (if bS id then fE w (eW p seed d) (dj n seed id)else[])]:=
 Tv b p seed id _ n w h a B.may B.s B.oV B.rZ.2 B.rZ.1
def Cz(s:DV):aW:=[.complex .f64 s.ax s.ay,.complex .f64 s.sx s.sy,xl xt s.left,xl xt s.leg,xq s.second]
theorem oC{o:Option Nat}(h:o.isSome=true):o=some (o.getD 0):=by
 cases o with
 |none=>cases h
 |some x=>rfl
theorem Wh(h:Heap):ac xx 287 #[] h fun v h'=>∃a:Addr,v=xo (some a)/\Sp h h' [aq a 323 (Cz fs0)]:=by
 refine Ld ?_;unfold Ev;refine(Sp.refl h).boxed (t:=323) fun a c b=>?_;exact⟨a,rfl,b⟩
theorem YF(a b:Nat)(h:Heap)(j:(gB.mul a 0).isSome=true)(f:(gB.mul b oW).isSome=true)(h3:(gB.sub (sY a 0) (sY b oW)).isSome=true)(c:(gB.mul a oW).isSome=true)(d:(gB.mul b 0).isSome=true)(i:(gB.add (sY a oW) (sY b 0)).isSome=true):
  ac xx 364 #[.complex .f64 a b,xl xt 1] h fun v h'=>v=.complex .f64 (tx a b) (ty a b)/\h'=h:=by
 refine Nc (a,b) 1 ?_;unfold Gp;refine⟨by decide,by decide,?_⟩;refine aw (fun k:Nat=>(if k=0 then(a,b)else(tx a b,ty a b),(k:Int))) (fun k h'=>k<=1/\h'=h) (fun k=>1-k) 0 rfl ⟨by omega,rfl⟩ ?_;rintro k h' ⟨l,rfl⟩;have g:z7 (qc xt (z7 1 4+4)) 4=1:=by decide
 dsimp only;rw[g];refine al (fun e=>?_) (fun e=>?_)
 ·have:k=0:=by omega
  subst this;refine⟨(tx a b,ty a b),ade (oC j) (oC f) (oC h3) (oC c) (oC d) (oC i),?_⟩;exact⟨1,rfl,⟨by omega,rfl⟩,by omega⟩
 ·have:k=1:=by omega
  subst this;exact⟨rfl,rfl⟩
theorem aaZ(a:Addr)(s:DV)(h:Heap)(f:bX h a 323 (Cz s))(c:s.ok=true):ac xx 288 #[xo (some a)] h fun v h'=>v=.tuple #[]/\bX h' a 323 (Cz s.on)/\aU (fun b=>b≠a.block) h h':=by
 simp only[DV.ok,qz,decide_eq_true_eq]at c;obtain⟨⟨⟨⟨⟨⟨⟨⟨⟨⟨⟨y,I⟩,F⟩,D⟩,t⟩,G⟩,z⟩,B⟩,M⟩,w⟩,J⟩,u⟩:=c;refine EN (some a) ?_;unfold tG;have K:aa (fun b=>b<h.size/\¬b=a.block) h h [aq a 323 (Cz s)]:=.Xm (fun b=>b=a.block) (fun b i=>by rw[i];exact f.lt) ⟨f,rfl⟩;have fin:∀{h':Heap},aa (fun b=>b<h.size/\¬b=a.block) h h' [aq a 323 (Cz s.on)]->Value.tuple #[]=.tuple #[]/\bX h' a 323 (Cz s.on)/\aU (fun b=>b≠a.block) h h':=fun H=>
  ⟨rfl,H.box 0 rfl,H.ai.1,fun k q n=>H.ai.2 k q ⟨q,n⟩⟩
 refine⟨a,rfl,(s.ax,s.ay),f.cell0 rfl,a,rfl,(s.sx,s.sy),f.cell rfl,(nO s.ax s.sx,nO s.ay s.sy),adb (oC y) (oC I),a,rfl,?_⟩;refine K.kv ae 0 rfl rfl [.complex .f64 (nO s.ax s.sx) (nO s.ay s.sy)] rfl rfl rfl (by simp[Cz]) fun Q r=>⟨trivial,?_⟩
 refine⟨a,rfl,s.left,(r.box 0 rfl).cell (j:=2) rfl,a,rfl,?_⟩;rw[ak (s.left-1)];refine r.storeAt ae 0 rfl rfl (off:=2) rfl rfl rfl (by simp[Cz]) fun x g=>?_;refine⟨a,rfl,s.left-1,(g.box 0 rfl).cell (j:=2) rfl,?_⟩;refine al (fun e=>?_) (fun e=>?_)
 ·have l:Cz s.on=[.complex .f64 (nO s.ax s.sx) (nO s.ay s.sy),.complex .f64 s.sx s.sy,xl xt (s.left-1),xl xt s.leg,xq s.second]:=by rw[DV.on,if_pos e];rfl
  refine fin ?_;rw[l];exact g
 ·refine⟨a,rfl,(s.sx,s.sy),(g.box 0 rfl).cell (j:=1) rfl,(YF s.sx s.sy x F D t G z B).mono ?_⟩;rintro v h3 ⟨rfl,rfl⟩;refine⟨(tx s.sx s.sy,ty s.sx s.sy),rfl,a,rfl,?_⟩;refine g.storeAt ae 0 rfl rfl (off:=1) rfl rfl rfl (by simp[Cz]) fun L d=>?_;refine cl (fun _ h'=>aa (fun b=>b<h.size/\¬b=a.block) h h' [aq a 323 [.complex .f64 (nO s.ax s.sx) (nO s.ay s.sy),.complex .f64 (tx s.sx s.sy) (ty s.sx s.sy),xl xt (s.left-1),xl xt (if s.second then s.leg+1 else s.leg),xq s.second]]) ?_ ?_
  ·refine⟨a,rfl,s.second,(d.box 0 rfl).cell (j:=4) rfl,bw (fun m=>?_) (fun m=>?_)⟩
   ·refine⟨a,rfl,s.leg,(d.box 0 rfl).cell (j:=3) rfl,a,rfl,?_⟩;rw[ak (s.leg+1)];refine d.storeAt ae 0 rfl rfl (off:=3) rfl rfl rfl (by simp[Cz]) fun O E=>?_;rw[if_pos m];exact E
   ·rw[if_neg (by rw[m];decide)];exact d
  ·rintro _ P p;refine⟨a,rfl,s.second,(p.box 0 rfl).cell (j:=4) rfl,a,rfl,?_⟩;refine p.storeAt ae 0 rfl rfl (off:=4) rfl rfl rfl (by simp) fun N o=>?_;refine⟨a,rfl,_,(o.box 0 rfl).cell (j:=3) rfl,a,rfl,?_⟩;refine o.storeAt ae 0 rfl rfl (off:=2) rfl rfl rfl (by simp) fun h8 A=>?_;have l:Cz s.on=[.complex .f64 (nO s.ax s.sx) (nO s.ay s.sy),.complex .f64 (tx s.sx s.sy) (ty s.sx s.sy),xl xt (if s.second then s.leg+1 else s.leg),xl xt (if s.second then s.leg+1 else s.leg),xq (!s.second)]:=by rw[DV.on,if_neg e];rfl
   refine fin ?_;rw[l];exact A
theorem UB(n:Nat)(h:Heap)(i:n<64):ac xx 215 #[xl xt n] h fun v h'=>v=.complex .f64 (kg n).ax (kg n).ay/\Sp h h' []:=by
 refine QQ n ?_;unfold KS;refine al (fun e=>by omega) fun _=>al (fun e=>by omega) fun _=>?_;refine(Wh h).mono ?_;rintro v l ⟨a,rfl,g⟩;refine⟨some a,rfl,?_⟩;refine aw (fun k:Nat=>(k:Int)) (fun k h'=>k<=n/\Sp h h' [aq a 323 (Cz (kg k))]) (fun k=>n-k) 0 rfl ⟨by omega,g⟩ ?_;rintro k f ⟨j,b⟩;refine cI (fun e=>?_) (fun e=>?_)
 ·have:k=n:=by omega
  subst this;exact⟨a,rfl,((kg k).ax,(kg k).ay),(b.box 0 rfl).cell0 rfl,rfl,.zip b.ai⟩
 ·refine(aaZ a (kg k) f (b.box 0 rfl) (afv k (by omega))).mono ?_;rintro v h3 ⟨rfl,d,c⟩;refine⟨(),rfl,k+1,by rw[ak _];rfl,⟨by omega,b.BG 0 rfl c d⟩,by omega⟩
theorem Oi{a b:Int}(e:-4<=a:=by omega)(d:a<=4:=by omega)(h3:-4<=b:=by omega)(c:b<=4:=by omega):gB.sub (cW a) (cW b)=some (cW (a-b)):=by
 have:=ael (a+4).toNat (by omega) (b+4).toNat (by omega);rw[show((a+4).toNat:Int)-4=a by omega,show((b+4).toNat:Int)-4=b by omega,show((a+4).toNat:Int)-((b+4).toNat:Int)=a-b by omega]at this;exact this
theorem Oj{a:Int}(c:-8<=a:=by omega)(b:a<=8:=by omega):gB.mul (cW a) (cW a)=some (cW (a*a)):=by
 have:=aem (a+8).toNat (by omega);rw[show((a+8).toNat:Int)-8=a by omega]at this;exact this
theorem RB(a:Int):((a.natAbs:Nat):Int)*(a.natAbs:Nat)=a*a:=Int.natAbs_mul_self
theorem YG{a b:Int}(e:-8<=a)(d:a<=8)(h3:-8<=b)(c:b<=8):gB.add (cW (a*a)) (cW (b*b))=some (cW (a*a+b*b)):=by
 have:=aen a.natAbs (by omega) b.natAbs (by omega);rw[RB,RB]at this;exact this
def GJ(i j:Nat):Int:=((fJ i).x-(fJ j).x)*((fJ i).x-(fJ j).x)+((fJ i).y-(fJ j).y)*((fJ i).y-(fJ j).y)
theorem acD{a:Int}(c:-8<=a)(b:a<=8):0<=a*a/\a*a<=64:=by
 rw[<-RB,<-wj];have:a.natAbs*a.natAbs<=8*8:=wh (by omega) (by omega);omega
theorem AP{n:Nat}(h:n<64):(kg n).ax=cW (fJ n).x/\(kg n).ay=cW (fJ n).y/\-4<=(fJ n).x/\(fJ n).x<=4/\-4<=(fJ n).y/\(fJ n).y<=4:=by
 have:=aek n h;simp only[qz,decide_eq_true_eq,beq_iff_eq]at this;obtain⟨⟨⟨⟨⟨a,b⟩,c⟩,d⟩,e⟩,f⟩:=this;exact⟨a,b,c,d,e,f⟩
theorem YH{i j:Nat}(c:i<64)(d:j<64):0<=GJ i j/\GJ i j<=128:=by
 have a:=AP c;have b:=AP d;have f:=acD (a:=(fJ i).x-(fJ j).x) (by omega) (by omega);have e:=acD (a:=(fJ i).y-(fJ j).y) (by omega) (by omega);unfold GJ;omega
theorem aba(i j:Nat)(h:Heap)(d:i<64)(e:j<64):ac xx 216 #[.complex .f64 (kg i).ax (kg i).ay,.complex .f64 (kg j).ax (kg j).ay] h fun v h'=>v=.float .f64 (cW (GJ i j))/\h'=h:=by
 have a:=AP d;have b:=AP e;refine OU ((kg i).ax,(kg i).ay) ((kg j).ax,(kg j).ay) ?_;unfold It;have f:gB.sub (kg i).ax (kg j).ax=some (cW ((fJ i).x-(fJ j).x)):=by rw[a.1,b.1];exact Oi
 have c:gB.sub (kg i).ay (kg j).ay=some (cW ((fJ i).y-(fJ j).y)):=by rw[a.2.1,b.2.1];exact Oi
 refine⟨(cW ((fJ i).x-(fJ j).x),cW ((fJ i).y-(fJ j).y)),adc f c,_,Oj,_,Oj,_,YG (by omega) (by omega) (by omega) (by omega),rfl,rfl⟩
abbrev acE:bW C.toBE 22 3 1 [xl xt 0] 8:=⟨_,_,rfl,rfl,rfl,rfl,rfl,rfl⟩
def mA(a b:Int):Int:=if a<b then-1 else if a>b then 1 else 0
theorem RC(m:Nat)(h:Heap)(a:m<129):ac xx 290 #[.float .f64 (cW (m:Nat))] h fun v h'=>v=xq false/\h'=h:=by
 refine Ci _ ?_;unfold pV;have:=XR m a m a;rw[show(FloatKind.format .f64).order (cW (m:Nat)) (cW (m:Nat))=some (compare m m)from this,Nat.compare_eq_eq.2 rfl];exact⟨rfl,rfl⟩
theorem YI(m n:Nat)(h:Heap)(b:m<129)(c:n<129):ac xx 220 #[.float .f64 (cW (m:Nat)),.float .f64 (cW (n:Nat))] h fun v h'=>v=xl xt (mA m n)/\h'=h:=by
 refine Ae _ _ ?_;unfold ot;refine(RC m h b).mono ?_;rintro v a ⟨rfl,rfl⟩;refine⟨_,rfl,(RC n a c).mono ?_⟩;rintro v f ⟨rfl,rfl⟩;refine⟨_,rfl,bw (fun e=>by cases e) fun _=>bw (fun e=>by cases e) fun _=>?_⟩;have d:(FloatKind.format .f64).order (cW (m:Nat)) (cW (n:Nat))=some (compare m n):=XR m b n c;rw[d];rcases Nat.lt_trichotomy m n with a|a|a
 ·rw[Nat.compare_eq_lt.2 a];refine bw (fun _=>⟨by rw[mA,if_pos (by omega)],rfl⟩) (fun e=>by cases e)
 ·subst a;rw[Nat.compare_eq_eq.2 rfl];refine bw (fun e=>by cases e) fun _=>bw (fun e=>by cases e) fun _=>⟨by rw[mA,if_neg (by omega),if_neg (by omega)],rfl⟩
 ·rw[Nat.compare_eq_gt.2 a];refine bw (fun e=>by cases e) fun _=>bw (fun _=>⟨by rw[mA,if_neg (by omega),if_pos (by omega)],rfl⟩) (fun e=>by cases e)
theorem Ol(m:Int)(h:Heap):ac xx 291 #[xl xt m] h fun v h'=>v=xq false/\h'=h:=by
 refine tH _ ?_;unfold pq;exact⟨by simp,rfl⟩
theorem YJ(m n:Int)(h:Heap):ac xx 221 #[xl xt m,xl xt n] h fun v h'=>v=xl xt (mA m n)/\h'=h:=by
 refine pT _ _ ?_;unfold nc;refine(Ol m h).mono ?_;rintro v b ⟨rfl,rfl⟩;refine⟨_,rfl,(Ol n b).mono ?_⟩;rintro v c ⟨rfl,rfl⟩;refine⟨_,rfl,bw (fun e=>by cases e) fun _=>bw (fun e=>by cases e) fun _=>?_⟩;refine al (fun e=>⟨by rw[mA,if_pos e],rfl⟩) fun e=>al (fun a=>⟨by rw[mA,if_neg e,if_pos a],rfl⟩) fun a=>⟨by rw[mA,if_neg e,if_neg a],rfl⟩
def UC(a b:Int):Int:=if a≠0 then a else b
theorem adw(s:Sl)(a b:Int)(h:Heap)(f:Rd h s 1 aD [a,b]):ac xx 219 #[s] h fun v h'=>v=xl xt (UC a b)/\h'=h:=by
 refine Cd s ?_;unfold xz;have l:s.len=2:=f.len;refine aw (fun k:Nat=>(k:Int)) (fun k h'=>h'=h/\k<=2/\(1<=k->a=0)/\(2<=k->b=0)) (fun k=>2-k) 0 rfl ⟨rfl,by omega,by omega,by omega⟩ ?_;rintro k h' ⟨rfl,m,g,j⟩;refine al (fun e=>?_) (fun e=>?_)
 ·rcases(show k=0∨k=1 by omega)with rfl|rfl
  ·refine f.bx 0 rfl (by simp) a rfl ?_;refine ca (fun c=>⟨by rw[UC,if_pos c],rfl⟩) (fun c=>?_);exact⟨1,rfl,⟨rfl,by omega,fun _=>c,by omega⟩,by omega⟩
  ·refine f.bx 1 rfl (by simp) b rfl ?_;have d:=g (by omega);refine ca (fun c=>⟨by rw[UC,if_neg (by simp[d])],rfl⟩) (fun c=>?_);exact⟨2,rfl,⟨rfl,by omega,fun _=>d,fun _=>c⟩,by omega⟩
 ·have d:=g (by omega);have i:=j (by omega);exact⟨by rw[UC,if_neg (by simp[d]),i],rfl⟩
abbrev Fr:=Int×Fin 129
def xM(x:Fr):aW:=[xl xt x.1,.float .f64 (cW ((x.2:Nat):Int))]
def xN(x y:Fr):Int:=UC (mA (x.2:Nat) (y.2:Nat)) (mA x.1 y.1)
theorem RD(x y:Fr)(h:Heap):ac xx 218 #[xr (xM x).toArray,xr (xM y).toArray] h fun v h'=>v=xl xt (xN x y)/\aU (fun b=>b<h.size) h h':=by
 refine HR (x.1,cW ((x.2:Nat):Int)) (y.1,cW ((y.2:Nat):Int)) ?_;unfold AG;refine(Sp.refl h).boxed (t:=249) fun a l g=>?_;refine g.boxed (t:=249) fun b e c=>?_;refine⟨_,(c.box 0 rfl).cell (j:=1) rfl,_,(c.box 1 rfl).cell (j:=1) rfl,_,(c.box 0 rfl).cell0 rfl,_,(c.box 1 rfl).cell0 rfl,?_⟩;refine(YI x.2 y.2 e x.2.isLt y.2.isLt).mono ?_;rintro v h3 ⟨rfl,rfl⟩;refine⟨_,rfl,⟨(c.box 1 rfl).cell0 rfl,(c.box 0 rfl).cell0 rfl,trivial⟩,(YJ _ _ h3).mono ?_⟩;rintro v i ⟨rfl,rfl⟩;refine⟨_,rfl,trivial,?_⟩;refine c.lit ae aD acE rfl [mA (x.2:Nat) (y.2:Nat),mA x.1 y.1] rfl (show 2*1<=2^20 by decide) rfl fun s f d=>⟨trivial,?_⟩
 refine(adw s _ _ f (d.seq 2 rfl (fun _=>rfl))).mono ?_;rintro v k ⟨rfl,rfl⟩;exact⟨_,rfl,trivial,rfl,d.ai⟩
theorem UD{a b:Int}:mA a b<0↔a<b:=by unfold mA;split<;>(try split)<;>omega
theorem Om{a b:Int}:mA a b=0↔a=b:=by unfold mA;split<;>(try split)<;>omega
theorem acF{x y:Fr}:ltOf xN x y=true↔((x.2:Nat):Int)<(y.2:Nat)∨(((x.2:Nat):Int)=(y.2:Nat)/\x.1<y.1):=by
 have h0:ltOf xN x y=true↔xN x y<0:=by simp[ltOf]
 rw[h0,xN,UC];by_cases h:mA (x.2:Nat) (y.2:Nat)=0
 ·rw[if_neg (by simp[h]),UD];have:=Om.1 h;constructor
  ·exact fun a=>.inr ⟨this,a⟩
  ·rintro(a|a)
   ·omega
   ·exact a.2
 ·rw[if_pos h,UD];have b:((x.2:Nat):Int)≠(y.2:Nat):=fun e=>h (Om.2 e);constructor
  ·exact .inl
  ·rintro(a|a)
   ·exact a
   ·exact absurd a.1 b
theorem GK{x y:Fr}:ltOf xN x y=false↔¬(((x.2:Nat):Int)<(y.2:Nat)∨(((x.2:Nat):Int)=(y.2:Nat)/\x.1<y.1)):=by
 rw[<-acF];simp
theorem aeP:Sort.SWO (ltOf xN) where
 irrefl x:=GK.2 (by omega)
 trans x y z h1 h2:=by rw[acF]at*;omega
 ntrans x y z h1 h2:=by rw[GK]at*;omega
theorem aeQ(x y:Fr)(b:ltOf xN x y=false)(a:ltOf xN y x=false):x=y:=by
 rw[GK]at b a;refine yU (by omega) (Fin.ext (by omega))
theorem RE{e:TypeId}{s:Sl}{l:List Fr}{h:Heap}(d:Own h e s 2 xM l)(a:l.length<2^40):
  ac xx 217 #[s,.func (.func 218) #[] #[]] h fun v h'=>v=.tuple #[]/\Own h' e s 2 xM (l.mergeSort fun x y=>!(ltOf xN) y x)/\aU (fun b=>¬s.on b) h h':=by
 have n:∀x:Fr,(xM x).length=2:=fun _=>rfl;refine OH (P:=xx) (id_:=217) (g:=218) (enc:=xM) (k:=2) (cf:=xN) n ?_ ?_ (fun x y h=>RD x y h) d a
 ·intro fy cap l w f j m i;have:=AnyQ.slices_SortFunc_total Tryz.Uv 2 Tryz.aes Tryz.adk xM (fun _=>rfl) (fun x v c=>by simp[xM]at c;rcases c with rfl|rfl<;>rfl) xN aeP 218 #[] fy 0 cap l.toArray w (enters_of Tryz.adl (by kernel_rfl) rfl) (by simpa using f) j m (by simpa using i) aeQ;simp at this;exact this
 ·intro p cap w;exact AnyF.slices_SortFunc_none Tryz.Uv p cap _ w
def xO(a:aC)(n:Int):aC:=if 0<=n/\n<64/\a.contains n=false then a++[n]else a
def gZ(l:aC):aC:=l.foldl xO []
theorem AQ(l:aC){k:Nat}(a:k<l.length:=by omega):gZ (l.take (k+1))=xO (gZ (l.take k)) l[k]:=by
 rw[gZ,aI _ _ a,List.foldl_append];rfl
theorem RF(l:aC):∀k,k<=l.length->∀x,x∈gZ (l.take k)↔x∈l.take k/\0<=x/\x<64
 |0,_,x=>by simp[gZ]
 |k+1,hk,x=>by
  have c:=RF l k (by omega);rw[AQ l,aI _ _ (show k<l.length by omega),xO];by_cases h:0<=l[k]/\l[k]<64/\(gZ (l.take k)).contains l[k]=false
  ·rw[if_pos h,qA,qA,qG,c x];constructor
   ·rintro(a|rfl)
    ·exact⟨.inl a.1,a.2⟩
    ·exact⟨.inr rfl,h.1,h.2.1⟩
   ·rintro⟨a|a,b⟩
    ·exact .inl ⟨a,b⟩
    ·exact .inr a
  ·rw[if_neg h,qA,qG,c x];constructor
   ·rintro a;exact⟨.inl a.1,a.2⟩
   ·rintro⟨a|rfl,b⟩
    ·exact⟨a,b⟩
    ·have:(gZ (l.take k)).contains l[k]=true:=by
      cases hc:(gZ (l.take k)).contains l[k]with
      |true=>rfl
      |false=>exact absurd ⟨b.1,b.2,hc⟩ h
     exact(c _).1 (by simpa using this)
theorem LB(l:aC):∀k,k<=l.length->(gZ (l.take k)).Nodup
 |0,_=>by simp[gZ]
 |k+1,hk=>by
  have c:=LB l k (by omega);rw[AQ l,xO];split
  ·rename_i h;rw[List.nodup_append];refine⟨c,by simp,fun a e b d=>?_⟩;rw[qG.1 d];rintro rfl;have:=h.2.2;rw[List.contains_eq_mem]at this;simp[e]at this
  ·exact c
theorem abb(l:aC)(k:Nat):(gZ (l.take k)).length<=k:=by
 induction k with
 |zero=>simp[gZ]
 |succ k ih=>
  by_cases a:k<l.length
  ·rw[AQ l a,xO];split
   ·simp;omega
   ·omega
  ·rw[qi (by omega)]at ih⊢;omega
def DF(c:Nat)(n:Int):Fr:=(n,Fin.ofNat 129 (GJ n.toNat c).toNat)
theorem aeR{c:Nat}{n:Int}(a:c<64)(d:0<=n)(b:n<64):(((DF c n).2:Nat):Int)=GJ n.toNat c:=by
 have:=YH (i:=n.toNat) (j:=c) (by omega) a;show(((GJ n.toNat c).toNat%129:Nat):Int)=_;omega
def sJ(c:Nat)(l:aC):aC:=(((gZ l).map (DF c)).mergeSort fun x y=>!(ltOf xN) y x).map (·.1)
def dG(a block:Int)(l:aC):aC:=if 0<=a/\a<=16777215/\0<=block/\block<8 then sJ ((8*a+block)%64).toNat l else[]
def rQ(a:aC):aW:=(qE 64).map fun i:Nat=>xq (a.contains (i:Int))
theorem adx(a:aC){n:Int}(c:0<=n)(b:n<64):(rQ a)[n.toNat]?=some (xq (a.contains n)):=by
 rw[rQ,qO,zw (by omega),qL,show((n.toNat:Nat):Int)=n by omega]
theorem abc(a:aC){n:Int}(d:0<=n)(c:n<64):(rQ a).set n.toNat (xq true)=rQ (a++[n]):=by
 apply zD;intro i;rw[qX,rQ,rQ,qO,qO,qu,zx];by_cases b:i<64
 ·rw[zw b,qL,qL];by_cases h:n.toNat=i
  ·rw[if_pos h,if_pos (by omega),show((i:Nat):Int)=n by omega];simp
  ·rw[if_neg h];have:(a++[n]).contains (i:Int)=a.contains (i:Int):=by
    rw[List.contains_eq_mem,List.contains_eq_mem];simp;omega
   rw[this]
 ·rw[if_neg (by omega),zg (by simp;omega)];rfl
abbrev eFr:bW C.toBE 244 249 2 [xl xt 0,.float .f64 0] 16:=⟨_,_,rfl,rfl,rfl,rfl,rfl,rfl⟩
theorem aeS:∀x,∀c∈xM x,c.oneCell'=true:=by
 intro x c a;simp[xM]at a;rcases a with rfl|rfl<;>rfl
theorem IF(b block:Int)(live:Sl)(l:aC)(h:Heap)(T:Rd h live 1 aD l)(ad:l.length<=2^30:=by omega):
  ac xx 127 #[xl xt b,xl xt block,live] h fun v h'=>∃r:Sl,v=r/\Sp h h' [ar 3 r 1 aD (dG b block l)]:=by
 have ab:=T.len;refine KH b block live ?_;unfold Ef;have H:¬(0<=b/\b<=16777215/\0<=block/\block<8)->∃r:Sl,Value.slice none 0 0=xn r.ptr r.len r.cap/\Sp h h [ar 3 r 1 aD (dG b block l)]:=fun M=>by
  rw[dG,if_neg M];exact⟨⟨none,0,0⟩,rfl,(Sp.refl h).nil 3 1 aD⟩
 refine be (al (fun e=>H (by omega)) fun e1=>al (fun e=>H (by omega)) fun e2=>al (fun e=>H (by omega)) fun e3=>al (fun e=>H (by omega)) fun e4=>?_);have O:0<=b/\b<=16777215/\0<=block/\block<8:=by omega
 rw[dG,if_pos O];rw[ak (8*b),ak (8*b+block),yC (by omega)];obtain⟨c,W⟩:∃c:Nat,(8*b+block)%64=c:=⟨((8*b+block)%64).toNat,by omega⟩
 have g:c<64:=by omega
 rw[W,qo];refine⟨by decide,(UB c h g).mono ?_⟩;rintro v h2 ⟨rfl,Y⟩;refine⟨((kg c).ax,(kg c).ay),rfl,?_⟩;refine Y.alloc ae rfl fun a h3 H3=>?_;have I:Sp h h3 [aq a 245 (rQ []),ar 249 ⟨none,0,0⟩ 2 xM []]:=H3.nil 249 2 xM;refine aw (fun t:Sl×Nat=>(t.1,(t.2:Int))) (fun t h'=>t.2<=l.length/\Sp h h' [aq a 245 (rQ (gZ (l.take t.2))),ar 249 t.1 2 xM ((gZ (l.take t.2)).map (DF c))]) (fun t=>l.length-t.2) (⟨none,0,0⟩,0) rfl ⟨by simp,I⟩ ?_;rintro⟨s,k⟩ h4 ⟨hk,p⟩;dsimp only at*;have B:=abb l k;refine al (fun e=>?_) (fun e=>?_)
 ·have w:k<l.length:=by omega
  have G:=AQ l w;obtain⟨f,E⟩:∃f,f=gZ (l.take k):=⟨_,rfl⟩
  rw[<-E]at p B G;refine(Seq.up T p.ai).bx k rfl w _ rfl ?_;obtain⟨x,hx⟩:∃x,x=l[k]:=⟨_,rfl⟩
  rw[<-hx]at G⊢;refine cl (fun t h'=>(t=true↔0<=x/\x<64/\f.contains x=false)/\h'=h4) ?_ ?_
  ·refine al (fun m=>al (fun q=>?_) (fun q=>⟨⟨fun e=>(by cases e),fun z=>absurd z.2.1 q⟩,rfl⟩)) (fun m=>⟨⟨fun e=>(by cases e),fun z=>absurd z.1 m⟩,rfl⟩);refine⟨⟨m,q⟩,f.contains x,?_,?_,rfl⟩
   ·rw[zT];exact(p.box 0 rfl).cell (adx f m q)
   ·cases f.contains x<;>simp<;>omega
  ·rintro t h5 ⟨U,rfl⟩;refine bw (fun e=>?_) (fun e=>?_)
   ·obtain⟨m,q,x2⟩:=U.1 e;refine⟨⟨m,q⟩,?_⟩;rw[zT];refine p.storeAt ae 0 rfl rfl rfl rfl rfl (by simp[rQ];omega) fun S u=>?_;have L:Sp h S [aq a 245 (rQ (f++[x])),ar 249 s 2 xM (f.map (DF c))]:=by
     rw[<-abc f m q];exact u
    obtain⟨n,M⟩:∃n:Nat,x=n:=⟨x.toNat,by omega⟩
    subst M;refine(UB n S (by omega)).mono ?_;rintro v V ⟨rfl,Z⟩;refine⟨((kg n).ax,(kg n).ay),rfl,(aba n c V (by omega) g).mono ?_⟩;rintro v h8 ⟨rfl,rfl⟩;have F:=L.up Z.ai;have ev:cW (GJ n c)=cW (((DF c (n:Int)).2:Nat):Int):=by rw[aeR g (by omega) (by omega),qo]
    refine⟨_,rfl,?_⟩;rw[ev];refine F.push ae 1 rfl eFr rfl (by decide) (fun _=>rfl) aeS (DF c (n:Int)) rfl (by decide) (by simp;omega) fun s' X K=>?_;refine⟨(s',k+1),by dsimp only;rw[ak _];rfl,⟨by dsimp only;omega,?_⟩,by dsimp only;omega⟩;dsimp only;rw[G,xO,if_pos ⟨m,q,x2⟩,qT];exact K
   ·refine⟨(s,k+1),by dsimp only;rw[ak _];rfl,⟨by dsimp only;omega,?_⟩,by dsimp only;omega⟩;dsimp only;rw[G,xO,if_neg (fun z=>by rw[U.2 z]at e;cases e)];exact p
 have N:k=l.length:=by omega
 subst N;rw[qQ]at p B;refine(RE (p.own 1 rfl) (by simp;omega)).mono ?_;rintro v h5 ⟨rfl,J,R⟩;have P:=p.nU 1 rfl R J;obtain⟨d,j⟩:∃d,d=((gZ l).map (DF c)).mergeSort fun x y=>!(ltOf xN) y x:=⟨_,rfl⟩
 have am:d.length=(gZ l).length:=by rw[j,wO,qu]
 have eo:sJ c l=d.map (·.1):=by rw[sJ,<-j]
 rw[<-j]at P;have ah:=(P.own 1 rfl).len;rw[eo];refine⟨(),rfl,?_⟩;refine aw (fun t:Sl×Nat=>(t.1,(t.2:Int))) (fun t h'=>t.2<=d.length/\Sp h h' [ar 249 s 2 xM d,ar 3 t.1 1 aD ((d.take t.2).map (·.1))]) (fun t=>d.length-t.2) (⟨none,0,0⟩,0) rfl ⟨by simp,(P.del 0).nil 3 1 aD⟩ ?_;rintro⟨o,i⟩ S ⟨Q,u⟩;dsimp only at*;refine al (fun e=>?_) (fun e=>?_)
 ·have D:i<d.length:=by omega
  refine(u.seq 0 rfl (fun _=>rfl)).dt i rfl D (d[i].1,cW ((d[i].2:Nat):Int)) rfl ?_;refine u.alloc ae rfl fun y V H7=>?_;refine H7.storeAll ae 2 rfl rfl [xl xt d[i].1,.float .f64 (cW ((d[i].2:Nat):Int))] rfl rfl rfl rfl fun h8 F=>?_;refine⟨d[i].1,(F.box 2 rfl).cell0 rfl,?_⟩;refine F.push ae 1 rfl acE rfl (by decide) (fun _=>rfl) jf d[i].1 rfl (by decide) (by simp;omega) fun o' X K=>?_;refine⟨(o',i+1),by dsimp only;rw[ak _];rfl,⟨by dsimp only;omega,?_⟩,by dsimp only;omega⟩;dsimp only;rw[aI _ _ D,qT];exact K.del 2
 ·rw[qi (by omega)]at u;exact⟨o,rfl,u.take 1 (fun i A Q=>by cases i with|zero=>exact Q|succ i=>simp at Q)⟩
theorem abd(l:aC)(x:Int):x∈gZ l↔x∈l/\0<=x/\x<64:=by
 have:=RF l l.length (ql _) x
 rwa [qQ]at this
theorem ady(l:aC):(gZ l).Nodup:=by
 have:=LB l l.length (ql _)
 rwa [qQ]at this
theorem LC(c:Nat)(l:aC):(sJ c l).Perm (gZ l):=by
 have h:=(wK ((gZ l).map (DF c)) fun x y=>!(ltOf xN) y x).map (·.1);rw[wR]at h;have e:((fun x:Fr=>x.1)∘DF c)=id:=rfl;rw[e,List.map_id]at h;exact h
theorem GL(c:Nat)(l:aC)(x:Int):x∈sJ c l↔x∈l/\0<=x/\x<64:=by rw[(LC c l).mem_iff,abd]
theorem RG(c:Nat)(l:aC):(sJ c l).Nodup:=(LC c l).nodup_iff.2 (ady l)
def Px(l:aC)(i:Nat):Int:=l.getD i 0
def kQ(o:aC)(id:Int):Int:=if o=[]∨id<0 then-1 else Px o (id%(o.length:Int)).toNat
theorem UE(s:Sl)(o:aC)(id:Int)(h:Heap)(g:Rd h s 1 aD o):ac xx 129 #[s,xl xt id] h fun v h'=>v=xl xt (kQ o id)/\h'=h:=by
 have f:=g.len;refine QN s id ?_;unfold KI;refine be (cI (fun e=>⟨by rw[kQ,if_pos (.inl (qZ (by omega)))],rfl⟩) fun e=>al (fun b=>⟨by rw[kQ,if_pos (.inr b)],rfl⟩) fun b=>?_);refine⟨e,?_⟩;have d:¬(o=[]∨id<0):=by
  rintro(rfl|h2)
  ·simp at f;omega
  ·exact b h2
 have c:z7 id ((s.len:Nat):Int)=((id%(o.length:Int)).toNat:Int):=by
  rw[yC (by omega),f];have:=yp id (show(o.length:Int)≠0 by omega);omega
 have a:(id%(o.length:Int)).toNat<o.length:=by
  have:=wE id (show(0:Int)<o.length by omega);omega
 rw[c];refine g.bx _ rfl a _ rfl ⟨?_,rfl⟩;rw[kQ,if_neg d,Px,qe,qd a];rfl
def xP(p:Pm)(seed:Int)(d:Row)(id:Int):aX:=if bS id then fE p.2.2.toNat (eW p seed d) (dj (cg p).toNat seed id)else[]
def jF(m:aG)(o b seed:Int)(d:Row)(id:Int):cC:=⟨o,b,id,m.p,seed,xP m.p seed d id⟩
def LD(m:aG)(o b seed:Int)(d:Row)(a:aC)(id:Int):Int×aX:=(kQ a id,cy (jF m o b seed d id))
def mB(m:aG)(o:Int)(a:aC)(b:cD)(live:aC)(i:Nat):List (Int×aX):=
 (qE (m.p.1+m.extra).toNat).map fun id:Nat=>LD m o i (cN o i (a.getD i 0)) (b.getD i []) (dG o i live) id
def di(m:aG)(o:Int)(a:aC)(b:cD)(live:aC)(n:Nat):List (Int×aX):=(qE n).flatMap (mB m o a b live)
theorem tj(m:aG)(o:Int)(a:aC)(b:cD)(live:aC)(n:Nat):di m o a b live (n+1)=di m o a b live n++mB m o a b live n:=by
 unfold di;rw[zI,zh,zl,z8,qS]
theorem DG(m:aG)(o:Int)(a:aC)(b:cD)(live:aC)(i:Nat):(mB m o a b live i).length=(m.p.1+m.extra).toNat:=by simp[mB]
theorem xQ(m:aG)(o:Int)(a:aC)(b:cD)(live:aC):∀n,(di m o a b live n).length=n*(m.p.1+m.extra).toNat
 |0=>by simp[di]
 |n+1=>by rw[tj,qx,xQ m o a b live n,DG,zJ]
theorem jd(o b t:Int):0<=cN o b t/\cN o b t<4294967296:=by unfold cN;omega
section
variable {B:aB} {h0 h:Heap} {As:List HP} {a pw:Addr} {offs:Int} {da:List aO} {w:Pow} {ds:aT}
theorem Pf(x:bD)(m:aG)(xe:eK)(e:Wl.bV)(s:Sl)(b:aX)(hS:St B h0 As fun h=>dK h x m/\fx nC h xe e/\Rd h s 1 aE b)(cr:s.len<=s.cap)(hz:cO m)(S:bL m.p=true)(dz:0<=m.extra/\m.extra<=16)(c0:b.length<=2^20)
  (ht:cG m.p e.object (bo m.p b).length=some e.tries) (H:aa B h0 h (aV bj a pw (aP x) offs da w ds::As)):
  ac xx 57 #[xo (some a),Rw xe,s] h fun v h'=>∃(r:Sl) (ys:List (Int×Sl)),v=.tuple #[r,xq true]/\
   aa B h0 h' (aV bj a pw (aP x) offs da w ds::cu dX 2 piv r ys (di m e.object e.tries (bo m.p b) (bc ds m.drives) (bo m.p b).length)::As):=by
 refine yP (some a) xe s ?_;unfold oe;refine H.boxed fun O h1 H1=>?_;have H1:=H1.bC;have H1:aa B h0 h1 (aV bj a pw (aP x) offs da w ds::aq O 105 (bI xe)::As):=H1.bi 2 [1,0];refine(ez x m (hS.at [_,_] H1).1 hz H1).mono ?_;rintro _ h2 ⟨lv,rfl,R2⟩;have H2:=(H1.cS R2).bi 3 [1,0,2];obtain⟨ok,ab⟩:=aa.cB H2;obtain⟨bb,d3,cc⟩:=hS.at [_,_,_] H2;have X:(x.2.2.1,x.2.2.2.1,x.2.2.2.2.1)=m.p:=bb.p;have dy:=(bM m.p).1 S;obtain⟨s1,s2,s3⟩:=kG S;obtain⟨c1,c2,c3⟩:=lx S b.length;have b7:(bc ds m.drives).length<=m.drives.length:=qP _ _;have c7:=hz.dr;obtain⟨live,ao⟩:∃live,live=bc ds m.drives:=⟨_,rfl⟩
 rw[<-ao]at H2 b7⊢;obtain⟨g,A⟩:∃g,g=bo m.p b:=⟨_,rfl⟩
 have bq:g.length<=2^20:=by rw[A];unfold bo;simp;omega
 have a2:∀r∈g,r.length=dH m.p:=by
  rw[A];intro r hr;unfold bo at hr;obtain⟨i,_,rfl⟩:=qq.1 hr;exact Gy _ _ _
 refine⟨lv,rfl,a,rfl,(x.2.2.1,x.2.2.2.1,x.2.2.2.2.1),⟨by rw[addr_add];exact ab.cell rfl,by rw[addr_add];exact ab.cell rfl,by rw[addr_add];exact ab.cell rfl,trivial⟩,?_⟩;rw[X];refine(Ti m.p s b h2 S cc cr (by omega)).mono ?_;rintro _ h3 ⟨q,rfl,R3⟩;rw[<-A]at R3 ht⊢;obtain⟨rs,Y⟩:=Go.Qw.aa.acC (H2.cS R3) fun _=>rfl;have Y:=(Y.My 112 2 piv dX).bC;have Y:aa B h0 h3 (aV bj a pw (aP x) offs da w ds::cx 112 ⟨none,0,0⟩ 2 piv dX (di m e.object e.tries g live 0)::cu (nG 1 aE) 1 bJ q rs g::ar 3 lv 1 aD live::aq O 105 (bI xe)::As):=Y.bi 5 [2,0,1,3,4];have d2:=(Y.dV 2 rfl).1.len;have d0:=(Y.dV 2 rfl).2.1;have c5:=iq ht;refine⟨q,rfl,?_⟩;obtain⟨k,F⟩:∃k:Nat,k=(m.p.1+m.extra).toNat:=⟨_,rfl⟩
 have J:k<=32:=by omega
 refine aw (fun t:Sl×Nat=>(t.1,(t.2:Int))) (fun t h'=>t.2<=g.length/\aa B h0 h' (aV bj a pw (aP x) offs da w ds::cx 112 t.1 2 piv dX (di m e.object e.tries g live t.2)::cu (nG 1 aE) 1 bJ q rs g::ar 3 lv 1 aD live::aq O 105 (bI xe)::As)) (fun t=>g.length-t.2) (⟨none,0,0⟩,0) rfl ⟨by simp,Y⟩ ?_;rintro⟨o,i⟩ h4 ⟨hi,H4⟩;dsimp only at*;refine al (fun e1=>?_) (fun e1=>?_)
 ·have ap:i<g.length:=by omega
  have F4:=H4.dV 2 rfl;have U:=H4.box 4 rfl;obtain⟨ch,a8,d1⟩:=hS.at [_,_,_,_,_] H4;obtain⟨_,b1⟩:=aa.cB H4;obtain⟨t,a6,cf⟩:=AN ht i (by omega);have ce:e.tries.getD i 0=(t:Int):=by rw[qe,qd (by omega)];exact a6
  have b5:g.getD i []=g[i]:=by rw[qe,qd ap];rfl
  have N:∀{h':Heap},bX h' O 105 (bI xe)->cellOf h' (O.add 1)=some (xl xt e.object):=fun{h'} hb=>by rw[<-a8.1.2.1];exact hb.cell rfl
  have cp:∀{h':Heap},bX h' a 95 (dh (aP x) pw offs da)->aj h' (a.add 2) 0 [xl xt m.p.1,xl xt m.p.2.1,xl xt m.p.2.2]:=fun{h'} hb=>by
   rw[<-X];exact⟨by rw[addr_add];exact hb.cell rfl,by rw[addr_add];exact hb.cell rfl,by rw[addr_add];exact hb.cell rfl,trivial⟩
  have a4:=Fix.row F4 ap;refine F4.1.bx i rfl (by omega) (rs[i]'(by omega)) rfl ?_;refine⟨e.object,N U,xe.2.2.2,U.cell rfl,?_⟩;refine Seq.bx (f:=aD) a8.2 i rfl (by omega) (t:Int) (by rw[a6];rfl) ?_;refine(ul _ _ _ h4).mono ?_;rintro _ _ ⟨rfl,rfl⟩;refine⟨_,rfl,⟨U.cell rfl,trivial⟩,a,rfl,m.p,cp b1,?_⟩;obtain⟨seed,l⟩:∃seed,seed=cN e.object i t:=⟨_,rfl⟩
  have hg:=(Gz cf).2.1;have ah:fT m.p seed (eV m.p)=true:=by rw[l];exact hg
  obtain⟨K,Hh,w',n,BK⟩:=abZ (seed:=seed) (d:=g[i]) S ah (by rw[a2 _ (qh ap),s3]);rw[<-l];refine(aeO BK (rs[i]'(by omega)) _ a4.1 a4.2).mono ?_;rintro _ h6 ⟨bk,mm,rfl,R6⟩;have H6:=(H4.comp R6).front;have H6:aa B h0 h6 (aV bj a pw (aP x) offs da w ds::cx 112 o 2 piv dX (di m e.object e.tries g live i)::cu (nG 1 aE) 1 bJ q rs g::ar 3 lv 1 aD live::aq O 105 (bI xe)::fS 35 mm 1 aE (eW m.p seed g[i])::aq bk 241 (JD m.p seed mm)::As):=H6.bi 7 [2,3,4,5,6,0,1];refine⟨(some bk,0),rfl,ca (fun e2=>absurd rfl e2) fun _=>?_⟩;have b6:=H6.box 4 rfl;refine⟨e.object,N b6,(IF e.object i lv live h6 (H6.seq 3 rfl fun _=>rfl)).mono ?_⟩;rintro _ h7 ⟨L,rfl,R7⟩;have H7:=(H6.cS R7).bi 8 [1,2,3,4,5,6,7,0];obtain⟨c,y⟩:∃c,c=dG e.object i live:=⟨_,rfl⟩
  rw[<-y]at H7;have a5:=(aa.cB H7).2;have br:x.2.2.1=m.p.1:=congrArg (·.1) X;refine⟨L,rfl,a,rfl,x.2.2.1,a5.cell rfl,a,rfl,x.2.2.2.2.2.1,a5.cell rfl,?_⟩;have en:qc xt (x.2.2.1+x.2.2.2.2.2.1)=(k:Int):=by rw[br,ch.extra,ak _];omega
  rw[en];have R:mB m e.object e.tries g live i=(qE k).map fun id:Nat=>LD m e.object i seed g[i] c id:=by
   unfold mB;rw[ce,b5,<-l,<-y,<-F]
  have cd:(mB m e.object e.tries g live i).length=k:=by rw[DG,<-F]
  obtain⟨E,I⟩:∃E,E=di m e.object e.tries g live i:=⟨_,rfl⟩
  have dd:E.length<=2^26:=by
   rw[I,xQ,<-F];have:=wh (show i<=2^20 by omega) J;omega
  obtain⟨Q,hQ⟩:∃Q,Q=mB m e.object e.tries g live i:=⟨_,rfl⟩
  rw[<-hQ]at R cd;rw[<-I]at H7;refine aw (fun t:Sl×Nat=>(t.1,(t.2:Int))) (fun t h'=>t.2<=k/\aa B h0 h' (aV bj a pw (aP x) offs da w ds::cx 112 t.1 2 piv dX (E++Q.take t.2)::cu (nG 1 aE) 1 bJ q rs g::ar 3 lv 1 aD live::aq O 105 (bI xe)::fS 35 mm 1 aE (eW m.p seed g[i])::aq bk 241 (JD m.p seed mm)::ar 3 L 1 aD c::As)) (fun t=>k-t.2) (o,0) rfl ⟨by simp,by simpa using H7⟩ ?_;rintro⟨o2,id⟩ h8 ⟨hid,P⟩;dsimp only at*;refine al (fun e3=>?_) fun e3=>?_
  ·have cs:id<k:=by omega
   have V:=P.box 4 rfl;have ad:=(aa.cB P).2;have G:Nk h8 bk m.p seed (eW m.p seed g[i]):=⟨mm,P.box 6 rfl,P.Ie 5 rfl⟩
   have T:xP m.p seed g[i] id=if bS id then fE w' (eW m.p seed g[i]) (dj n seed id)else[]:=by
    unfold xP;rw[BK.oV,show m.p.2.2.toNat=w' by have:=BK.s;omega]
   have held:∀{h':Heap},aU (fun b=>b<h8.size) h8 h'->av.ok [((a.add 2),xl xt m.p.1),((a.add 2).add 1,xl xt m.p.2.1),((a.add 2).add 2,xl xt m.p.2.2),(O.add 1,xl xt e.object)] h':=fun{h'} S=>by
    obtain⟨q1,q2,q3,_⟩:=cp (ad.ai S ad.lt);exact⟨q1,q2,q3,N (V.ai S V.lt),trivial⟩
   refine cl (fun(a7:Addr) h'=>∃r:Sl,aa B h0 h' (aq a7 139 (bn (e.object,(i:Int),(id:Int),m.p.1,m.p.2.1,m.p.2.2,seed,r))::ar 5 r 1 aE (xP m.p seed g[i] id)::aV bj a pw (aP x) offs da w ds::cx 112 o2 2 piv dX (E++Q.take id)::cu (nG 1 aE) 1 bJ q rs g::ar 3 lv 1 aD live::aq O 105 (bI xe)::fS 35 mm 1 aE (eW m.p seed g[i])::aq bk 241 (JD m.p seed mm)::ar 3 L 1 aD c::As)) ?_ ?_
   ·refine⟨e.object,N V,a,rfl,m.p,cp ad,?_,?_⟩
    ·refine(BK.symbol bk id h8 G).mono ?_;rintro _ h9 ⟨r,rfl,R9⟩;rw[<-T]at R9;have H9:=P.cS R9;refine⟨r,rfl,held R9.ai,H9.Fi ae rfl fun a28 dx b9 ay=>⟨held (aa.up R9 b9).ai,?_⟩⟩;have ay:=ay.bC;refine ay.storeAll ae 0 rfl rfl (bn (e.object,(i:Int),(id:Int),m.p.1,m.p.2.1,m.p.2.2,seed,r)) rfl rfl rfl rfl fun du b4=>⟨trivial,r,b4⟩
    ·refine P.Fi ae rfl fun c9 cn a0 W=>⟨held a0,?_⟩
     have W:=W.bC;refine(BK.symbol bk id cn (G.up a0)).mono ?_;rintro _ c4 ⟨r,rfl,am⟩;rw[<-T]at am;have b3:=(W.cS am).bi 2 [1,0];refine⟨r,rfl,held (aa.up (Sp.zip a0) am.ai).ai,?_⟩;refine b3.storeAll ae 0 rfl rfl (bn (e.object,(i:Int),(id:Int),m.p.1,m.p.2.1,m.p.2.2,seed,r)) rfl rfl rfl rfl fun c6 cq=>⟨trivial,r,cq⟩
   ·rintro a7 b0 ⟨r,M⟩;have j:=M.box 0 rfl;have ax:=jd e.object i t;rw[<-l]at ax;refine⟨(e.object,(i:Int),(id:Int),m.p.1,m.p.2.1,m.p.2.2,seed,r),j.aL _ rfl,(UE L c id b0 (M.seq 9 rfl fun _=>rfl)).mono ?_⟩;rintro _ b2 ⟨rfl,rfl⟩;refine⟨_,rfl,⟨j.cell0 rfl,j.cell rfl,j.cell rfl,j.cell rfl,j.cell rfl,j.cell rfl,j.cell rfl,j.cell rfl,trivial⟩,?_⟩;refine(rP (e.object,(i:Int),(id:Int),m.p.1,m.p.2.1,m.p.2.2,seed,r) (jF m e.object i seed g[i] id) b2 ⟨⟨rfl,rfl,rfl,rfl,rfl,ax.1,ax.2⟩,M.seq 1 rfl fun _=>rfl⟩).mono ?_;rintro _ c8 ⟨u,rfl,cm⟩;have a9:=(M.cS cm).fO 0 rfl (D:=EA dX (kQ c id,u) (LD m e.object i seed g[i] c id)) fun z hz=>⟨rfl,hz.1.seq (fun _=>rfl) hz.2⟩
    have a3:Q[id]'(by omega)=LD m e.object i seed g[i] c id:=by simp[R]
    refine⟨u,rfl,trivial,?_⟩;refine a9.nV ae piv Gx rfl [(kQ c id,u)] rfl (show 1*2<=2^20 by decide) rfl trivial ?_;refine aa.CR ae a9 4 0 (by decide) (a:=(kQ c id,u)) rfl rfl Gx rfl (by decide) (fun _=>rfl) HK (parts:=#[(0,xr #[xl xt (kQ c id),u])]) (by kernel_rfl) (by decide) (by simp;omega) fun o3 dk bd=>⟨trivial,?_⟩
    refine⟨(o3,id+1),by dsimp only;rw[ak _];rfl,⟨by dsimp only;omega,?_⟩,by dsimp only;omega⟩;dsimp only;rw[aI Q id,a3,<-qp];exact bd.rest.rest.rest
  ·have Z:id=k:=by omega
   subst Z;rw[qi (by omega)]at P;refine⟨(o2,i+1),by dsimp only;rw[ak _];rfl,⟨by dsimp only;omega,?_⟩,by dsimp only;omega⟩;dsimp only;rw[tj,<-I,<-hQ];exact P.bi 8 [0,1,2,3,4]
 ·have Z:i=g.length:=by omega
  subst Z;obtain⟨ys,H5⟩:=H4.IU 1 rfl fun _=>rfl;exact⟨o,ys,rfl,H5.bi 5 [0,1]⟩
end
end Go.Qw
namespace Wl
open Go
def iU(pages:Nat)(l:List (Int×aX))(k:Int):Int:=(pages:Int)+(l.filter fun y=>decide (y.1=k)).length
end Wl
namespace Go.Qw
open Go Go.Vc Go.Proofs Wl
theorem YK(k:Int)(b c:Addr)(pages:Nat)(r:Sl)(n:List (Int×Sl))(l:List (Int×aX))(h:Heap)(A:pages<=2^30)(E:l.length<=2^30)(s:bX h b 3 [xl xt pages])(p:bX h c 98 [r])(t:nk dX 2 piv h r n l):
  ac xx 59 #[xl xt k,xo (some b),xo (some c)] h fun v h'=>v=xl xt (iU pages l k)/\Sp h h' []:=by
 refine BS k b c ?_;unfold pO;have x:=t.1.len;have B:=t.2.1;refine⟨(pages:Int),s.cell0 rfl,r,p.cell0 rfl,?_⟩;refine aw (fun i:Nat=>(iU pages (l.take i) k,(i:Int))) (fun i h'=>i<=l.length/\Sp h h' []) (fun i=>l.length-i) 0 (by simp[iU]) ⟨by omega,Sp.refl h⟩ ?_;rintro i G ⟨F,q⟩;dsimp only;have u:(((l.take i).filter fun y=>decide (y.1=k)).length:Int)<=i:=by
  have:=qP (fun y:Int×aX=>decide (y.1=k)) (l.take i);simp at this;omega
 refine al (fun e=>?_) fun e=>?_
 ·have f:i<l.length:=by omega
  have j:=nk.up t q.ai;refine j.1.dt (g:=piv) i rfl (by omega) (n[i]'(by omega)) rfl ?_;refine q.alloc ae rfl fun w D z=>?_;refine z.storeAll ae 0 rfl rfl (piv (n[i]'(by omega))) rfl rfl rfl rfl fun h3 d=>?_;have d:Sp h h3 [aq w 112 (piv (n[i]'(by omega)))]:=d;have m:=Fix.row j f;have a:iU pages (l.take (i+1)) k=iU pages (l.take i) k+(if l[i].1=k then 1 else 0):=by
   unfold iU;rw[aI _ _ f,zj,qx,zr,yZ];split
   ·rename_i o;rw[if_pos (of_decide_eq_true o)];simp;omega
   ·rename_i o;rw[if_neg (by simpa using o)];simp
  refine⟨l[i].1,by rw[<-m.1];exact(d.box 0 rfl).cell0 rfl,cI (fun g=>?_) fun g=>?_⟩
  ·refine⟨i+1,?_,⟨by omega,.zip d.ai⟩,by omega⟩;rw[a,if_pos g,ak (iU pages (l.take i) k+1) (by unfold iU;omega) (by unfold iU;omega),ak _];rfl
  ·refine⟨i+1,?_,⟨by omega,.zip d.ai⟩,by omega⟩;rw[a,if_neg g,Int.add_zero,ak _];rfl
 ·rw[qi (by omega)];exact⟨rfl,q⟩
def gf(m:aG)(offs:Int)(w:Pow)(ds:aT)(name:ByteArray)(b:aX):Int×aG×Pow×aT:=
 if cK m (dC w offs) ds name b.length≠0 then(cK m (dC w offs) ds name b.length,m,w,ds)else
 match cG m.p m.next (bo m.p b).length with
 |none=>(8,m,w,ds)
 |some t=>
  let live:=bc ds m.drives;let l:=di m m.next t (bo m.p b) live (bo m.p b).length;let n:=db m ⟨name,m.next,b.length,t⟩;let N:=iU (aY n).length l
  if cH m ds live N=false then(7,m,w,ds)else
  if(makes m N live w ds).1≠0 then((makes m N live w ds).1,m,(makes m N live w ds).2)else
  let a:=layAll l (makes m N live w ds).2.1 (makes m N live w ds).2.2
  if a.1≠0 then(a.1,m,a.2)else
  ((layAll (bA n live) a.2.1 a.2.2).1,if(layAll (bA n live) a.2.1 a.2.2).1=0 then n else m,(layAll (bA n live) a.2.1 a.2.2).2)
theorem jq{m:aG}{d:Bool}{ds:aT}{name:ByteArray}{n:Nat}(h:cK m d ds name n=0):
  d=false/\jv name=true/\m.objs.any (dP name)=false/\¬(m.p.1*m.p.2.2*8<(n:Int)∨12<=m.objs.length)/\¬(bc ds m.drives=[]∨16777215<m.next∨2147483647<=m.seq):=by
 unfold cK at h;split at h
 ·cases h
 ·rename_i e;split at h
  ·cases h
  ·rename_i c;split at h
   ·cases h
   ·rename_i h3;split at h
    ·cases h
    ·rename_i a;split at h
     ·cases h
     ·rename_i b;exact⟨by simpa using e,by simpa using c,by simpa using h3,a,b⟩
theorem uF{m:aG}{b:aX}(a:bL m.p=true)(h:¬m.p.1*m.p.2.2*8<(b.length:Int)):(bo m.p b).length<=8:=by
 obtain⟨g,f,c⟩:=kG a;obtain⟨e,d,c3⟩:=lx a b.length;unfold bo;rw[qu,zx];refine Nat.le_of_not_lt fun h8=>?_;have:=c3 8 (by omega);rw[<-c]at h;omega
theorem YL{o:aC}(b:o≠[])(id:Nat):kQ o id∈o:=by
 unfold kQ Px;rw[if_neg (by rintro(h|h);exact b h;omega)];have c:0<o.length:=by cases o with|nil=>exact absurd rfl b|cons=>simp
 have a:((id:Int)%(o.length:Int)).toNat<o.length:=by
  have:=wE (id:Int) (show(0:Int)<o.length by omega);have:=yp (id:Int) (show(o.length:Int)≠0 by omega);omega
 rw[qe,qd a];exact qh a
theorem RH{m:aG}{o:Int}{c:aC}{p:cD}{live:aC}(t:0<=o/\o<=16777215)(q:live≠[])(f:∀k∈live,0<=k/\k<64){n:Nat}(s:n<=8){y:Int×aX}(d:y∈di m o c p live n):y.1∈live/\y.2.length<=64:=by
 unfold di at d;obtain⟨i,j,d⟩:=zm.1 d;have j:=qD.1 j;unfold mB at d;obtain⟨id,_,rfl⟩:=qq.1 d;refine⟨?_,?_⟩
 ·show kQ _ _∈live;have e:dG o i live=sJ ((8*o+i)%64).toNat live:=by unfold dG;rw[if_pos (by omega)]
  have b:∀a,a∈dG o i live↔a∈live/\0<=a/\a<64:=fun a=>by rw[e];exact GL _ _ _
  have g:dG o i live≠[]:=fun h=>by
   cases live with
   |nil=>exact q rfl
   |cons a l=>
    have:=(b a).2 ⟨qW,f a qW⟩;rw[h]at this;cases this
  exact((b _).1 (YL g id)).1
 ·show(cy _).length<=64;unfold cy;split
  ·rename_i r;refine Nat.le_of_eq (nl (by decide) (by decide) ?_);have:=nX r;omega
  ·simp
theorem adz{m:aG}{e:Wl.bV}(b:cO m)(g:m.objs.length<=11)(c:e.name.size<=2^30)(d:e.tries.length<=2^30):cO (db m e):=by
 refine⟨b.dr,?_,fun f a=>?_⟩
 ·show((m.objs++[e]).mergeSort tW).length<=2^30;rw[wO];simp;omega
 ·have a:f∈(m.objs++[e]).mergeSort tW:=a;rcases qA.1 ((wK _ _).mem_iff.1 a)with h|h
  ·exact b.nm f h
  ·rw[qG.1 h];exact⟨c,d⟩
section
variable {B:aB} {h0 h:Heap} {As:List HP} {a pw:Addr} {offs:Int} {da:List aO} {w:Pow} {ds:aT}
theorem abe(x:bD)(m:aG)(name:ByteArray)(s:Sl)(b:aX)(hS:St B h0 As fun h=>Rd h s 1 aE b)(dd:s.len<=s.cap)(hn:name.size<=2^40)(S:cO m)(hp:bL m.p=true)(c2:0<=m.extra/\m.extra<=16)(b7:∀k∈m.drives,0<=k/\k<64)(c4:m.drives.length<=64)(cd:0<=m.seq)(bd:0<=m.next)(b1:b.length<=2^20)
  (H:aa B h0 h (aV bj a pw (aP x) offs da w ds::bU x m::As)):
  ac xx 10 #[xo (some a),xp name,s] h fun v h'=>v=xl xt (gf m offs w ds name b).1/\
   ∃y,aa B h0 h' (aV bj a pw (aP y) offs da (gf m offs w ds name b).2.2.1 (gf m offs w ds name b).2.2.2::bU y (gf m offs w ds name b).2.1::As):=by
 refine EG (some a) name s ?_;unfold tt;have ay:=(hS.at [_,_] H).len;refine(Ry x m name s b.length ay hn (H.at 1 rfl) S hp H).mono ?_;rintro _ h1 ⟨rfl,R1⟩;have H1:=H.up R1.ai;refine⟨_,rfl,ca (fun e=>?_) fun e1=>?_⟩
 ·have ep:gf m offs w ds name b=(cK m (dC w offs) ds name b.length,m,w,ds):=by unfold gf;rw[if_pos e]
  rw[ep];exact⟨rfl,x,H1⟩
 obtain⟨z1,z2,z3,z4,z5⟩:=jq e1;have cs:¬m.p.1*m.p.2.2*8<(b.length:Int):=fun h=>z4 (.inl h);have bk:m.objs.length<=11:=by have:¬12<=m.objs.length:=fun h=>z4 (.inr h);omega
 have cn:bc ds m.drives≠[]:=fun h=>z5 (.inl h);have c9:m.next<=16777215:=by have:¬16777215<m.next:=fun h=>z5 (.inr (.inl h));omega
 have ec:m.seq<=2147483646:=by have:¬2147483647<=m.seq:=fun h=>z5 (.inr (.inr h));omega
 have h8:=uF hp cs;have dy:name.size<=12:=by unfold jv at z2;simp at z2;omega
 have c5:=(aa.cB H1).2;have a3:dK h1 x m:=H1.at 1 rfl;refine⟨a,rfl,x.2.1,c5.cell rfl,H1.alloc ae rfl fun a4 h2 H2=>?_⟩;have H2:=H2.bC;refine H2.storeAll ae 0 rfl rfl (bI (name,x.2.1,(s.len:Int),⟨none,0,0⟩)) rfl rfl rfl rfl fun h3 H3=>?_;have H3:aa B h0 h3 (aq a4 105 (bI (name,m.next,(b.length:Int),⟨none,0,0⟩))::aV bj a pw (aP x) offs da w ds::bU x m::As):=by rw[<-a3.next,<-ay];exact H3
 have cp:∀{h':Heap},bX h' a 95 (dh (aP x) pw offs da)->aj h' (a.add 2) 0 [xl xt m.p.1,xl xt m.p.2.1,xl xt m.p.2.2]:=fun{h'} hb=>by
  rw[<-a3.p];exact⟨by rw[addr_add];exact hb.cell rfl,by rw[addr_add];exact hb.cell rfl,by rw[addr_add];exact hb.cell rfl,trivial⟩
 obtain⟨nb,K⟩:∃nb,nb=(bo m.p b).length:=⟨_,rfl⟩
 have bq:countP m.p (s.len:Nat)=(nb:Int):=by
  have:=(lx hp b.length).1;rw[K,ay];unfold bo;rw[qu,zx];omega
 refine cl (fun(t:Sl×Bool) h'=>(cG m.p m.next nb=none->t.2=false/\aa B h0 h' (aV bj a pw (aP x) offs da w ds::bU x m::As))/\(∀l,cG m.p m.next nb=some l->t.2=true/\aa B h0 h' (ar 3 t.1 1 aD l::aq a4 105 (bI (name,m.next,(b.length:Int),⟨none,0,0⟩))::aV bj a pw (aP x) offs da w ds::bU x m::As))) ?_ ?_
 ·have b6:=H3.box 0 rfl;have Z:=(aa.cB (H3.bi 3 [1,0,2])).2;refine⟨a,rfl,m.p,cp Z,m.next,b6.cell rfl,a,rfl,m.p,cp Z,(uk m.p s.len h3).mono ?_⟩;rintro _ h4 ⟨rfl,R4⟩;have H4:=H3.up R4.ai;have b4:=Z.ai R4.ai Z.lt;obtain⟨q1,q2,q3,_⟩:=cp b4;refine⟨_,rfl,⟨(H4.box 0 rfl).cell rfl,q1,q2,q3,trivial⟩,?_⟩;rw[bq];refine(Wb m.p m.next nb h4 (by omega)).mono ?_;rintro _ h5 ⟨T0,T1⟩;cases ht:cG m.p m.next nb with
  |none=>
   obtain⟨rfl,R5⟩:=T0 ht;exact⟨(⟨none,0,0⟩,false),rfl,trivial,fun _=>⟨rfl,(H4.up R5.ai).bi 3 [1,2]⟩,fun l h=>by cases h⟩
  |some l=>
   obtain⟨r,rfl,R5⟩:=T1 l ht;exact⟨(r,true),rfl,trivial,fun h=>(by cases h),fun l' h=>(by injection h with h;subst h;exact⟨rfl,H4.cS R5⟩)⟩
 rintro⟨j,tb⟩ h6 ⟨T0,T1⟩;dsimp only at T0 T1⊢;cases ht:cG m.p m.next nb with
 |none=>
  obtain⟨rfl,H6⟩:=T0 ht;have ep:gf m offs w ds name b=(8,m,w,ds):=by
   unfold gf;rw[if_neg (by rw[e1];decide),<-K,ht]
  rw[ep];exact bh (fun _=>⟨rfl,x,H6⟩) fun e=>by cases e
 |some t=>
  obtain⟨rfl,H6⟩:=T1 t ht;refine bh (fun e=>by cases e) fun _=>?_;have d2:=iq ht;refine H6.store ae 1 rfl rfl 3 [j] rfl rfl rfl (by simp) fun h7 H7=>?_;obtain⟨e,he⟩:∃e:Wl.bV,e=⟨name,m.next,b.length,t⟩:=⟨_,rfl⟩
  have H7:aa B h0 h7 (ar 3 j 1 aD e.tries::aq a4 105 (bI (name,m.next,(b.length:Int),j))::aV bj a pw (aP x) offs da w ds::bU x m::As):=by rw[he];exact H7
  have H7:=H7.bi 4 [2,3,0,1];have cq:St B h0 (bU x m::ar 3 j 1 aD e.tries::aq a4 105 (bI (name,m.next,(b.length:Int),j))::As) fun h=>dK h x m/\fx nC h (name,m.next,(b.length:Int),j) e/\Rd h s 1 aE b:=fun Bs h' i=>
   ⟨(St.dU 0 rfl fun _ o=>o) Bs h' i,(St.dU (A:=ar 3 j 1 aD e.tries) (Q:=fun h=>fx nC h (name,m.next,(b.length:Int),j) e) 1 rfl fun h' o=>⟨by rw[he];exact⟨rfl,rfl,rfl⟩,o.1.seq (fun _=>rfl) o.2⟩) Bs h' i,(hS.cons.cons.cons) Bs h' i⟩
  refine⟨(name,m.next,(b.length:Int),j),(H7.box 3 rfl).aL _ rfl,?_⟩;refine(Pf x m (name,m.next,(b.length:Int),j) e s b cq dd S hp c2 b1 (by rw[he,<-K];exact ht) H7).mono ?_;rintro _ dz ⟨r,ys,rfl,H8⟩;obtain⟨live,c⟩:∃live,live=bc ds m.drives:=⟨_,rfl⟩
  obtain⟨l,hl⟩:∃l,l=di m m.next t (bo m.p b) live nb:=⟨_,rfl⟩
  have ce:di m e.object e.tries (bo m.p b) (bc ds m.drives) (bo m.p b).length=l:=by rw[hl,he,<-c,<-K]
  rw[ce]at H8;refine⟨(r,true),rfl,H8.alloc ae rfl fun f h9 H9=>?_⟩;have H9:=H9.bC;refine H9.storeAll ae 0 rfl rfl [r] rfl rfl rfl rfl fun ax q=>?_;refine bh (fun e=>by cases e) fun _=>?_;obtain⟨n,Y⟩:∃n,n=db m e:=⟨_,rfl⟩
  have q:aa B h0 ax (aq f 98 [r]::aV bj a pw (aP x) offs da w ds::cu dX 2 piv r ys l::bU x m::ar 3 j 1 aD e.tries::aq a4 105 (bI (name,m.next,(b.length:Int),j))::As):=q;have q:aa B h0 ax (sV j 1 aD e.tries::aV bj a pw (aP x) offs da w ds::bU x m::cu dX 2 piv r ys l::aq f 98 [r]::aq a4 105 (bI (name,m.next,(b.length:Int),j))::As):=(q.freeze 4 rfl fun _=>rfl).bi 6 [4,1,3,2,0,5];have ch:((name,m.next,(b.length:Int),j):eK).1=e.name/\((name,m.next,(b.length:Int),j):eK).2.1=e.object/\((name,m.next,(b.length:Int),j):eK).2.2.1=e.length:=by rw[he];exact⟨rfl,rfl,rfl⟩
  have L:∀{h':Heap} {Cs:List HP},aa B h0 h' (sV j 1 aD e.tries::Cs)->dK h' x m->ac xx 58 #[eT x,Rw (name,m.next,(b.length:Int),j)] h' fun v dr=>∃y:bD,v=eT y/\aa B h0 dr (bU y n::Cs):=fun{h' Cs} i hx'=>by
   rw[Y];exact YA x m _ e hx' S ⟨cd,by omega⟩ ⟨bd,by omega⟩ bk ch i
  have J:=(aa.cB (q.bi 2 [1,0])).2;have M:=q.box 5 rfl;have a5:dK ax x m:=q.at 2 rfl;refine cl (fun(t:Addr×Sl) h'=>∃y,aa B h0 h' (aV bj a pw (aP x) offs da w ds::bU x m::cu dX 2 piv r ys l::aq f 98 [r]::aq t.1 59 (aP y)::bU y n::ar 3 t.2 1 aD live::As)) ?_ ?_
  ·refine⟨a,rfl,x,J.aL _ rfl,(name,m.next,(b.length:Int),j),M.aL _ rfl,?_,?_⟩
   ·refine(L q a5).mono ?_;rintro _ ed ⟨y,rfl,G⟩;have G:=G.bi 6 [1,2,3,4,0];refine⟨y,rfl,trivial,?_,?_⟩
    ·refine(ez x m (G.at 1 rfl) S G).mono ?_;rintro _ ej ⟨I,rfl,a8⟩;rw[<-c]at a8;have b3:=G.cS a8;refine⟨I,rfl,trivial,b3.alloc ae rfl fun ei d1 ah=>⟨trivial,?_⟩⟩;have ah:=ah.bC;refine ah.storeAll ae 0 rfl rfl (aP y) rfl rfl rfl rfl fun d5 c8=>⟨trivial,y,?_⟩
     exact c8.bi 7 [2,3,4,5,0,6,1]
    ·refine G.alloc ae rfl fun a22 d3 V=>⟨trivial,?_⟩
     have V:=V.bC;have ad:=V.bi 6 [1,2,3,4,5,0];refine(ez x m (ad.at 1 rfl) S ad).mono ?_;rintro _ d4 ⟨I,rfl,a6⟩;rw[<-c]at a6;have c0:=(V.cS a6).bi 2 [1,0];refine⟨I,rfl,trivial,c0.storeAll ae 0 rfl rfl (aP y) rfl rfl rfl rfl fun d6 dk=>⟨trivial,y,?_⟩⟩;exact dk.bi 7 [2,3,4,5,0,6,1]
   ·refine q.Fi ae rfl fun el ek a1 U=>?_;have d:=J.ai a1 J.lt;have F:=M.ai a1 M.lt;refine⟨⟨F.cell0 rfl,F.cell rfl,F.cell rfl,F.cell rfl,d.cell0 rfl,d.cell rfl,d.cell rfl,d.cell rfl,d.cell rfl,d.cell rfl,d.cell rfl,d.cell rfl,trivial⟩,?_⟩;have U:=(U.bC).bi 7 [1,0,2,3,4,5];refine(L U (U.at 3 rfl)).mono ?_;rintro _ ea ⟨y,rfl,b2⟩;have O:=b2.bi 6 [2,3,4,5,0,1];refine⟨y,rfl,trivial,(ez x m (O.at 1 rfl) S O).mono ?_⟩;rintro _ ef ⟨I,rfl,a0⟩;rw[<-c]at a0;have c7:=(O.cS a0).bi 7 [6,0,1,2,3,4,5];refine⟨I,rfl,trivial,c7.storeAll ae 0 rfl rfl (aP y) rfl rfl rfl rfl fun eb b9=>⟨trivial,y,?_⟩⟩;exact b9.bi 7 [2,3,4,5,0,6,1]
  rintro⟨am,I⟩ cr ⟨y,R⟩;dsimp only at R⊢;have ap:cO n:=by rw[Y];exact adz S bk (by rw[he];show name.size<=2^30;omega) (by rw[he];show t.length<=2^30;omega)
  have du:n.drives=m.drives:=by rw[Y];rfl
  have d9:live.length<=64:=by rw[c];exact q7 (qP _ _) c4
  have u:∀k∈live,0<=k/\k<64:=fun k hk=>by rw[c]at hk;exact b7 k (qB.1 hk).1
  have a9:(m.p.1+m.extra).toNat<=32:=by have:=(bM m.p).1 hp;omega
  have dx:l.length<=256:=by
   rw[hl,xQ];exact wh (show nb<=8 by omega) a9
  have cm:∀z∈l,(0<=z.1/\z.1<64)/\z.2.length<=2^20:=fun z bl=>by
   rw[hl]at bl;obtain⟨p1,p2⟩:=RH (m:=m) ⟨bd,c9⟩ (by rw[c];exact cn) u (show nb<=8 by omega) bl;exact⟨u _ p1,q7 p2 (by decide)⟩
  refine⟨y,(R.box 4 rfl).aL _ rfl,(kY y n cr (R.at 5 rfl) ap).mono ?_⟩;rintro _ d8 ⟨pg,rfl,bb⟩;have ab:=(aa.AZ bb).1;have a7:=jb n ap;obtain⟨pn,b0⟩:∃pn,pn=(aY n).length:=⟨_,rfl⟩
  rw[<-b0]at ab a7;have cc:=R.up bb.ai;refine⟨pg,rfl,cc.alloc ae rfl fun D eg ao=>?_⟩;have ao:=ao.bC;refine ao.storeAll ae 0 rfl rfl [xl xt (pg.len:Int)] rfl rfl rfl rfl fun cf E=>?_;rw[ab]at E;have E:aa B h0 cf (aV bj a pw (aP x) offs da w ds::bU x m::cu dX 2 piv r ys l::aq f 98 [r]::aq am 59 (aP y)::bU y n::ar 3 I 1 aD live::aq D 3 [xl xt (pn:Int)]::As):=E.bi 8 [1,2,3,4,5,6,7,0];obtain⟨N,hN⟩:∃N,N=iU pn l:=⟨_,rfl⟩
  obtain⟨T,P⟩:∃T,T=bU x m::cu dX 2 piv r ys l::aq f 98 [r]::aq am 59 (aP y)::bU y n::ar 3 I 1 aD live::aq D 3 [xl xt (pn:Int)]::As:=⟨_,rfl⟩
  have tX:St B h0 T fun h=>dK h x m:=by rw[P];exact St.dU 0 rfl fun _ o=>o
  have tF:St B h0 T fun h=>nk dX 2 piv h r ys l:=by rw[P];exact St.dU 1 rfl fun _ o=>o
  have tB:St B h0 T fun h=>bX h f 98 [r]:=by rw[P];exact St.dU (A:=aq f 98 [r]) 2 rfl fun _ o=>o.1
  have tM:St B h0 T fun h=>bX h am 59 (aP y):=by rw[P];exact St.dU (A:=aq am 59 (aP y)) 3 rfl fun _ o=>o.1
  have tY:St B h0 T fun h=>dK h y n:=by rw[P];exact St.dU 4 rfl fun _ o=>o
  have tL:St B h0 T fun h=>Rd h I 1 aD live:=by rw[P];exact St.dU (A:=ar 3 I 1 aD live) 5 rfl fun _ o=>o.1.seq (fun _=>rfl) o.2
  have tN:St B h0 T fun h=>bX h D 3 [xl xt (pn:Int)]:=by rw[P];exact St.dU (A:=aq D 3 [xl xt (pn:Int)]) 6 rfl fun _ o=>o.1
  have tT:St B h0 T fun h=>Pw 59 #[] #[xo (some D),xo (some f)] N live h:=fun Bs h' i k hk=>by
   rw[hN];exact YK k D f pn r ys l h' (by omega) (by omega) (tN Bs h' i) (tB Bs h' i) (tF Bs h' i)
  have fin:∀{h':Heap} {z:bD} {w':Pow} {ds':aT},aa B h0 h' (aV bj a pw (aP x) offs da w' ds'::T)->aa B h0 h' (aV bj a pw (aP x) offs da w' ds'::bU x m::As):=fun{h' z w' ds'} i=>by
   rw[P]at i;exact i.bi 8 [0,1]
  rw[<-P]at E;have ep:gf m offs w ds name b=(if cH m ds live N=false then(7,m,w,ds)else if(makes m N live w ds).1≠0 then((makes m N live w ds).1,m,(makes m N live w ds).2)else
    if(layAll l (makes m N live w ds).2.1 (makes m N live w ds).2.2).1≠0 then((layAll l (makes m N live w ds).2.1 (makes m N live w ds).2.2).1,m,(layAll l (makes m N live w ds).2.1 (makes m N live w ds).2.2).2)else
    ((layAll (bA n live) (layAll l (makes m N live w ds).2.1 (makes m N live w ds).2.2).2.1 (layAll l (makes m N live w ds).2.1 (makes m N live w ds).2.2).2.2).1,if(layAll (bA n live) (layAll l (makes m N live w ds).2.1 (makes m N live w ds).2.2).2.1 (layAll l (makes m N live w ds).2.1 (makes m N live w ds).2.2).2.2).1=0 then n else m,(layAll (bA n live) (layAll l (makes m N live w ds).2.1 (makes m N live w ds).2.2).2.1 (layAll l (makes m N live w ds).2.1 (makes m N live w ds).2.2).2.2).2)):=by
   rw[hN,b0,hl,Y,he,c];unfold gf;rw[if_neg (by rw[e1];decide),<-K,ht]
  rw[ep];refine(Lw 59 #[] #[xo (some D),xo (some f)] N x m I live (by rfl) (fun Bs h' i=>⟨tX Bs h' i,tT Bs h' i⟩) S (tL.at [_] E) (by omega) u E).mono ?_;rintro _ d7 ⟨rfl,c6⟩;have br:=E.up c6.ai;refine⟨_,rfl,bh (fun g=>?_) fun g=>?_⟩
  ·rw[if_pos g];exact⟨rfl,x,fin (z:=x) br⟩
  rw[if_neg (by rw[g];decide)];refine(Ly 59 #[] #[xo (some D),xo (some f)] N x m I live (by rfl) (fun Bs h' i=>⟨tX Bs h' i,tT Bs h' i,tL Bs h' i⟩) S (by omega) u br).mono ?_;rintro _ en ⟨rfl,W⟩;obtain⟨m1,c1⟩:∃m1,m1=makes m N live w ds:=⟨_,rfl⟩
  rw[<-c1]at W⊢;refine⟨_,rfl,ca (fun g2=>?_) fun g2=>?_⟩
  ·rw[if_pos g2];exact⟨rfl,x,fin (z:=x) W⟩
  rw[if_neg (by simpa using g2)];refine⟨r,(tB.at [_] W).cell0 rfl,(AL r ys l tF (by omega) cm W).mono ?_⟩;rintro _ eh ⟨rfl,X⟩;obtain⟨r2,b5⟩:∃r2,r2=layAll l m1.2.1 m1.2.2:=⟨_,rfl⟩
  rw[<-b5]at X⊢;refine⟨_,rfl,ca (fun g3=>?_) fun g3=>?_⟩
  ·rw[if_pos g3];exact⟨rfl,x,fin (z:=x) X⟩
  rw[if_neg (by simpa using g3)];refine⟨y,(tM.at [_] X).aL _ rfl,(LA x y n I live (fun Bs h' i=>⟨tY Bs h' i,tL Bs h' i⟩) ap (by omega) u X).mono ?_⟩;rintro _ d0 ⟨rfl,Q1,Q0⟩;refine⟨_,rfl,rfl,?_⟩;by_cases g4:(layAll (bA n live) r2.2.1 r2.2.2).1=0
  ·obtain⟨y2,a2⟩:=Q0 g4;rw[if_pos g4];rw[P]at a2;exact⟨y2,a2.bi 9 [0,1]⟩
  ·rw[if_neg g4];exact⟨x,fin (z:=x) (Q1 g4)⟩
end
theorem Wi(n:Nat)(x:Int)(h:Heap)(j:n<=2^30):ac xx 121 #[xl xt n,xl xt x] h fun v h'=>∃(r:Sl) (l:aX),v=r/\l.length=n/\Sp h h' [ar 5 r 1 aE l]:=by
 refine Aa n x ?_;unfold oh;refine aw (fun t:Sl×Nat×aX=>(t.1,(t.2.1:Int))) (fun t h'=>t.2.1<=n/\t.2.2.length=t.2.1/\Sp h h' [ar 5 t.1 1 aE t.2.2]) (fun t=>n-t.2.1) (⟨none,0,0⟩,0,[]) rfl ⟨by simp,rfl,(Sp.refl h).nil 5 1 aE⟩ ?_;rintro⟨o,i,l⟩ p ⟨m,f,a⟩;dsimp only at*;refine al (fun e=>?_) fun e=>?_
 ·have b:i<n:=by omega
  refine⟨by decide,Int.tmod_nonneg _ (by omega),?_⟩;rw[eu];generalize b8 (qc xt _)=c;refine a.push ae 0 rfl ga rfl (by decide) (fun _=>rfl) gw c rfl (by decide) (by omega) fun d k g=>?_;refine⟨(d,i+1,l++[c]),by dsimp only;rw[ak _];rfl,⟨by dsimp only;omega,?_,g⟩,by dsimp only;omega⟩;simp[f]
 ·exact⟨o,l,rfl,by omega,a⟩
end Go.Qw
namespace Go.Vc
open Go Wl Go.Qw
section
variable {α:Type} {B:aB} {h0 h:Heap} {As:List HP} {k:Nat} {f:α->aW} {L M:List (Sl×List α)}
theorem aa.abf(H:aa B h0 h (eF k f L::eF k f M::As)):aa B h0 h (eF k f (L++M)::As):=by
 have g:aa B h0 h ((eF k f M).sep (eF k f L)::As):=H.oL;refine g.fO 0 rfl fun q ⟨j,i,_,b,c,d,e⟩ y a=>?_;rcases qA.1 a with a|a
 ·exact(e y a).mono c
 ·exact(d y a).mono b
end
end Go.Vc
namespace Wl
open Go
def DH(o b:Int)(cE:List cC):List (Int×aX):=(cE.filter fun r=>decide (r.object=o)&&decide (r.block=b)).map fun r=>(r.id,r.data)
def xR(m:aG)(o b:Int)(l:cD):List (Int×aX):=((cZ m l).filter fun r=>decide (r.object=o)&&decide (r.block=b)).map fun r=>(r.id,r.data)
def sK(m:aG)(ds:aT)(o b:Int)(k:Int):List (Int×aX):=match bp ds k with|some d=>xR m o b d.l|none=>[]
def iu(m:aG)(ds:aT)(a:aC)(o b:Int):List (Int×aX):=a.flatMap (sK m ds o b)
end Wl
namespace Go.Qw
open Go Go.Vc Go.Proofs Wl
abbrev afS:bW C.toBE 119 157 2 [xl xt 0,xn none 0 0] 32:=⟨_,_,rfl,rfl,rfl,rfl,rfl,rfl⟩
def Wj(pool:List (Sl×aX))(p:(Int×Sl)×(Int×aX)):Prop:=p.1.1=p.2.1/\(p.1.2,p.2.2)∈pool
section
variable {B:aB} {h0 h:Heap} {As:List HP} {a pw:Addr} {offs:Int} {da:List aO} {w:Pow} {ds:aT} {mc:aW}
theorem RI(x:bD)(m:aG)(s:Sl)(c:aC)(o b:Int)(hx:dK h x m)(hz:cO m)(hs:Rd h s 1 aD c)(hl:c.length<=2^10)(hd:∀k∈c,∃d,bp ds k=some d)(H:aa B h0 h (aV bj a pw mc offs da w ds::As)):
  ac xx 67 #[.func (.func 16) #[xo (some a)] #[],s,eT x,xl xt o,xl xt b] h fun v h'=>∃(r:Sl) (ys:List (Int×Sl)),v=r/\Sp h h' [cu dX 2 piv r ys (iu m ds c o b)]:=by
 refine KA (16,#[xo (some a)],#[]) s x o b ?_;unfold Ec;have b0:=hs.len;refine(Sp.refl h).boxed fun Z N H1=>?_;have H1:Sp h N [aq Z 59 (aP x)]:=H1;have H1:Sp h N [ar 157 ⟨none,0,0⟩ 2 piv (([]:List ((Int×Sl)×(Int×aX))).map qJ),eF 1 aE [],aq Z 59 (aP x)]:=((H1.Ux 1 aE).nil 157 2 piv).bK [2,0,1];refine aw (fun t:Sl×Nat×List ((Int×Sl)×(Int×aX))×List (Sl×aX)=>(t.1,(t.2.1:Int))) (fun t h'=>t.2.1<=c.length/\t.2.2.1.length<=t.2.1*512/\t.2.2.1.map zt=iu m ds (c.take t.2.1) o b/\(∀p∈t.2.2.1,Wj t.2.2.2 p)/\Sp h h' [ar 157 t.1 2 piv (t.2.2.1.map qJ),eF 1 aE t.2.2.2,aq Z 59 (aP x)]) (fun t=>c.length-t.2.1) (⟨none,0,0⟩,0,[],[]) rfl ⟨by simp,by simp,by simp[iu],by simp,H1⟩ ?_;rintro⟨u,i,L,P⟩ h2 ⟨hi,a9,M,U,Y⟩;dsimp only at*;refine al (fun e=>?_) fun e=>?_
 ·have W:i<c.length:=by omega
  refine(Seq.up hs Y.ai).bx i rfl W c[i] rfl (be ?_);obtain⟨d,A⟩:=hd c[i] (qh W);have Hc:=H.up Y.ai;obtain⟨ok,hb⟩:=aa.cB Hc;have f:=Y.box 2 rfl;refine⟨x,f.aL _ rfl,ee (by rfl) ?_⟩;refine(lF c[i] ok hb).mono ?_;rintro _ h3 ⟨rfl,rfl⟩;refine⟨_,rfl,⟨f.cell0 rfl,f.cell rfl,f.cell rfl,f.cell rfl,f.cell rfl,f.cell rfl,f.cell rfl,f.cell rfl,trivial⟩,?_⟩;rcases lc ok c[i]with⟨c1,c2⟩|⟨n,d',bb,c0,c1,c2,c3,c4,c5⟩
  ·rw[A]at c1;cases c1
  have ao:d=d':=by rw[c3]at A;injection A with A;exact A.symm
  subst ao;rw[c5];obtain⟨a7,E,H3⟩:=Go.Vc.aa.kP Hc c2;rw[c4]at E;injection E with E
  injection E with E
  subst E;obtain⟨S,sd,bd,ab⟩:=aa.ui H3;have a6:=S.len;have a2:=S.room;refine(pz bb pw d sd bd x m h3 (ab.box 0 rfl) ((ab.bi 2 [1]).NB fun _=>rfl) S (hx.up Y.ai) hz).mono ?_;rintro _ h4 ⟨r7,I,rfl,R4⟩;have a3:=mz m d.l;obtain⟨cE,G⟩:∃cE,cE=cZ m d.l:=⟨_,rfl⟩
  rw[<-G]at R4 a3;have H4:=(Y.cS R4).bi 4 [1,2,0,3];have F4:=H4.dV 2 rfl;have a8:=F4.2.1;have bl:=F4.1.len;refine⟨r7,rfl,trivial,?_⟩;have ah:sK m ds o b c[i]=DH o b cE:=by unfold sK;rw[A];show xR m o b d.l=_;unfold xR DH;rw[G]
  have T:iu m ds (c.take (i+1)) o b=iu m ds (c.take i) o b++DH o b cE:=by
   unfold iu;rw[aI _ _ W,zh,zl,z8,qS,ah]
  obtain⟨Q,hQ⟩:∃Q:List (Sl×aX),Q=(I.zip cE).map fun z=>(z.1.2.2.2.2.2.2.2,z.2.data):=⟨_,rfl⟩
  refine aw (fun t:Sl×Nat×List ((Int×Sl)×(Int×aX))=>(t.1,(t.2.1:Int))) (fun t h'=>t.2.1<=cE.length/\t.2.2.length<=L.length+t.2.1/\t.2.2.map zt=iu m ds (c.take i) o b++DH o b (cE.take t.2.1)/\(∀p∈t.2.2,Wj (P++Q) p)/\Sp h h' [ar 157 t.1 2 piv (t.2.2.map qJ),eF 1 aE P,cu dg 8 bn r7 I cE,aq Z 59 (aP x)]) (fun t=>cE.length-t.2.1) (u,0,L) rfl ⟨by simp,by simp,by simp[DH,M],fun p O=>⟨(U p O).1,List.mem_append_left _ (U p O).2⟩,H4⟩ ?_;rintro⟨u2,j,L2⟩ h5 ⟨hj,br,K,V,H5⟩;dsimp only at*;have F5:=H5.dV 2 rfl;refine al (fun e2=>?_) fun e2=>?_
  ·have ad:j<cE.length:=by omega
   have am:=Fix.row F5 ad;obtain⟨⟨g1,g2,g3,g4,g5,g6,g7⟩,g8⟩:=am;refine F5.1.dt (g:=bn) j rfl (by omega) (I[j]'(by omega)) rfl ?_;refine H5.alloc ae rfl fun a0 h6 H6=>?_;refine H6.storeAll ae 4 rfl rfl (bn (I[j]'(by omega))) rfl rfl rfl rfl fun h7 X=>?_;have X:Sp h h7 [ar 157 u2 2 piv (L2.map qJ),eF 1 aE P,cu dg 8 bn r7 I cE,aq Z 59 (aP x),aq a0 139 (bn (I[j]'(by omega)))]:=X;have J:=X.box 4 rfl;have R:DH o b (cE.take (j+1))=DH o b (cE.take j)++(if(decide (cE[j].object=o)&&decide (cE[j].block=b))=true then[(cE[j].id,cE[j].data)]else[]):=by
    unfold DH;rw[aI _ _ ad,zj,qT,zr,yZ];split<;>rfl
   have skip:(decide (cE[j].object=o)&&decide (cE[j].block=b))=false->∃F:Sl×Nat×List ((Int×Sl)×(Int×aX)),((⟨u2.ptr,u2.len,u2.cap⟩:Sl),qc xt ((j:Int)+1))=(F.1,(F.2.1:Int))/\(F.2.1<=cE.length/\F.2.2.length<=L.length+F.2.1/\F.2.2.map zt=iu m ds (c.take i) o b++DH o b (cE.take F.2.1)/\(∀p∈F.2.2,Wj (P++Q) p)/\Sp h h7 [ar 157 F.1 2 piv (F.2.2.map qJ),eF 1 aE P,cu dg 8 bn r7 I cE,aq Z 59 (aP x)])/\cE.length-F.2.1<cE.length-j:=fun hc=>
    ⟨(u2,j+1,L2),by dsimp only;rw[ak _];rfl,⟨by dsimp only;omega,by dsimp only;omega,by dsimp only;rw[R,hc];simpa using K,V,X.bK [0,1,2,3]⟩,by dsimp only;omega⟩
   refine⟨cE[j].object,by rw[<-g1];exact J.cell0 rfl,cI (fun q1=>?_) fun q1=>skip (by rw[decide_eq_false q1];rfl)⟩;refine⟨cE[j].block,by rw[<-g2];exact J.cell rfl,cI (fun q2=>?_) fun q2=>skip (by rw[decide_eq_false q2,Bool.and_false])⟩;refine⟨cE[j].id,by rw[<-g3];exact J.cell rfl,(I[j]'(by omega)).2.2.2.2.2.2.2,J.cell rfl,?_⟩;refine X.push ae 0 rfl afS rfl (by decide) (fun _=>rfl) HK (cE[j].id,(I[j]'(by omega)).2.2.2.2.2.2.2) (by kernel_rfl) (by decide) (by simp;omega) fun u3 bk a4=>?_;refine⟨(u3,j+1,L2++[((cE[j].id,(I[j]'(by omega)).2.2.2.2.2.2.2),(cE[j].id,cE[j].data))]),by dsimp only;rw[ak _];rfl,⟨by dsimp only;omega,by simp;omega,?_,fun p O=>?_,?_⟩,by dsimp only;omega⟩
   ·dsimp only;rw[qT,K,R,if_pos (by rw[decide_eq_true q1,decide_eq_true q2];rfl),qp];rfl
   ·rcases qA.1 O with O|O
    ·exact V p O
    ·rw[qG.1 O];refine⟨rfl,List.mem_append_right _ ?_⟩;rw[hQ];refine qq.2 ⟨(I[j]'(by omega),cE[j]),?_,rfl⟩;rw[<-yT (h:=by simp;omega)];exact qh _
   ·dsimp only;rw[qT];exact a4.bK [0,1,2,3]
  ·have ax:j=cE.length:=by omega
   subst ax;rw[qQ,<-T]at K;have a5:=F5.2.1;have H6:=(H5.fO 2 rfl (D:=eF 1 aE Q) fun q hq y hy=>by
    rw[hQ]at hy;obtain⟨z,ay,rfl⟩:=qq.1 hy;obtain⟨k,hk,rfl⟩:=qH ay;have ap:k<cE.length:=by simp at hk;omega
    have:=(Fix.row hq ap).2;rw[yT];exact this).bK [1,2,0,3]
   have X:=aa.abf H6;refine⟨(u2,i+1,L2,P++Q),by dsimp only;rw[ak _];rfl,⟨by dsimp only;omega,by dsimp only;omega,K,V,X.bK [1,0,2]⟩,by dsimp only;omega⟩
 ·rw[qi (by omega)]at M;refine⟨u,L.map qJ,rfl,?_⟩;have H3:=((Y.freeze 0 rfl fun _=>rfl).bK [1,0]).oL;refine H3.fO 0 rfl fun q ⟨q1,q2,_,bq,cq,z1,z2⟩=>?_;refine⟨z1.mono bq,by rw[<-M];simp,fun j r e N h2=>?_⟩;rw[<-M]at h2;rw[qO]at N h2;cases hj:L[j]? with
  |none=>rw[hj]at N;cases N
  |some p=>
   rw[hj]at N h2;have e1:=zM.inj (show some p.1=some r from N);have e2:=zM.inj (show some p.2=some e from h2);subst e1;subst e2;obtain⟨k1,k2⟩:=U p (List.mem_of_getElem? hj);exact⟨k1,(z2 _ k2).mono cq⟩
end
end Go.Qw
namespace Wl
open Go
end Wl
namespace Go.Qw
open Go Go.Vc Go.Proofs Wl
section
variable {B:aB} {h0 h:Heap} {As:List HP} {a pw:Addr} {offs:Int} {da:List aO} {w:Pow} {ds:aT}
theorem Wk(m:aG)(o b:Int)(l:cD):(xR m o b l).length<=l.length:=by
 unfold xR;rw[qu];exact q7 (qP _ _) (mz m l)
end
end Go.Qw
namespace Wl
open Go
def Pow.calm(w:Pow):Prop:=w.off=false/\w.fuse=none
theorem DI:Pow.new.calm:=⟨rfl,rfl⟩
theorem sM{w:Pow}(h:w.calm):w.step=(true,w):=by unfold Pow.step;rw[if_neg (by simp[h.1]),h.2]
theorem IG{w:Pow}(h:w.calm)(ds:aT)(x:Int)(b:aX):(fu w ds x b).2.1=w:=by
 unfold fu;cases bp ds x with
 |none=>rfl
 |some d=>
  dsimp only;unfold bB.append;split
  ·rfl
  ·split
   ·rfl
   ·split
    ·rfl
    ·split
     ·rfl
     ·rw[sM h];rfl
theorem On{w:Pow}(h:w.calm)(ds:aT)(x:Int):(hG w ds x).2.1=w:=by
 unfold hG;cases bp ds x with
 |none=>rfl
 |some d=>
  dsimp only;unfold bB.sync;split
  ·rfl
  ·rw[sM h];rfl
theorem pD{w:Pow}(h:w.calm):∀(l:List (Int×aX)) (ds:aT),(ky l w ds).2.1=w
 |[],_=>rfl
 |x::l,ds=>by
  rw[uS,IG h];split
  ·exact pD h l _
  ·exact IG h _ _ _
theorem LF{w:Pow}(h:w.calm):∀(l:aC) (ds:aT),(kj l w ds).2.1=w
 |[],_=>rfl
 |x::l,ds=>by
  rw[CS,On h];split
  ·exact LF h l _
  ·exact On h _ _
theorem abg{w:Pow}(h:w.calm)(l:List (Int×aX))(ds:aT):(layAll l w ds).2.1=w:=by
 unfold layAll;dsimp only;rw[pD h];split
 ·exact LF h _ _
 ·exact pD h _ _
theorem Tw{w:Pow}{d:bB}{n:Nat}{b:aX}(h:w.calm)(a:d.lost=false)(e:d.l.length+(n+1)<=d.room)(c:b.length=64):d.append w b=(0,w,{d with l:=d.l++[b],wait:=d.wait+1,laid:=[],has:=false}):=by
 unfold bB.append;rw[if_neg (by omega),if_neg (by simp[a]),if_neg (by omega),if_neg (by simp[h.1]),sM h];rfl
theorem YM{w:Pow}{d:bB}(h:w.calm)(a:d.lost=false):d.sync w=(0,w,{d with wait:=0,laid:=[],has:=false}):=by
 unfold bB.sync;rw[if_neg (by simp[a]),sM h];rfl
theorem aeT{ds:aT}{s:Int}{d:bB}(h:bp ds s=some d):0<=s/\s<64:=by
 obtain⟨n,rfl,a⟩:=oA h;omega
def LG(ds:aT)(P:List (Int×aX))(s:Int):Option bB:=
 (bp ds s).map fun d=>{d with l:=d.l++(P.filter (fun x=>decide (x.1=s))).map zt,wait:=d.wait+(P.filter (fun x=>decide (x.1=s))).length,laid:=if(P.filter (fun x=>decide (x.1=s))).isEmpty then d.laid else[],has:=if(P.filter (fun x=>decide (x.1=s))).isEmpty then d.has else false}
theorem GM{w:Pow}(h:w.calm){S:aC}:∀(P:List (Int×aX)) (ds:aT),Fit ds S (P.map qJ)->(∀x∈P,x.1∈S/\x.2.length=64)->
  (ky P w ds).1=0/\Fit (ky P w ds).2.2 S []/\∀s,bp (ky P w ds).2.2 s=LG ds P s
 |[],ds,F,_=>⟨rfl,F,fun s=>by unfold LG;show bp ds s=_;cases bp ds s<;>simp⟩
 |x::P,ds,F,hP=>by
  obtain⟨d,c,r,k⟩:=F.at_ x.1 (hP x (qW ..)).1;rw[zV,List.count_cons_self]at k;have j:=(hP x (qW ..)).2;obtain⟨n,i,a⟩:=oA c;have f:=Tw (n:=(P.map qJ).count x.1) h r (by omega) j;have e:fu w ds x.1 x.2=(0,w,jE ds x.1 {d with l:=d.l++[x.2],wait:=d.wait+1,laid:=[],has:=false}):=by
   unfold fu;rw[c];dsimp only;rw[f]
  obtain⟨_,g⟩:=Pd w x.2 (x:=x.1) (Q:=P.map qJ) F (hP x (qW ..)).1 j;rw[uS,e];rw[e]at g;dsimp only at g⊢;rw[if_pos rfl];obtain⟨q,m,a3⟩:=GM h P _ g fun y o=>hP y (qR _ o);refine⟨q,m,fun s=>?_⟩;rw[a3 s];unfold LG;rw[i,Cx _ _ _ _ a F.len,<-i];by_cases b:s=x.1
  ·rw[if_pos b,b,c];simp only[qL,zr,decide_true,if_true,zV,q9,qp,List.singleton_append,List.isEmpty_cons,Bool.false_eq_true,if_false];congr 1;simp only[bB.mk.injEq,true_and,and_true];refine⟨by omega,?_,?_⟩<;>split<;>rfl
  ·rw[if_neg b];simp only[zr,decide_eq_true_eq,if_neg (show¬x.1=s from fun p=>b p.symm)]
theorem LH{w:Pow}(h:w.calm){S:aC}:∀(l:aC) (ds:aT),Fit ds S []->(∀x∈l,x∈S)->
  (kj l w ds).1=0/\Fit (kj l w ds).2.2 S []/\∀s,bp (kj l w ds).2.2 s=(bp ds s).map fun d=>if s∈l then{d with wait:=0,laid:=[],has:=false}else d
 |[],ds,F,_=>⟨rfl,F,fun s=>by show bp ds s=_;cases bp ds s<;>simp⟩
 |x::l,ds,F,hl=>by
  obtain⟨d,b,m,o⟩:=F.at_ x (hl x (qW ..));obtain⟨n,g,a⟩:=oA b;have e:hG w ds x=(0,w,jE ds x {d with wait:=0,laid:=[],has:=false}):=by
   unfold hG;rw[b];dsimp only;rw[YM h m]
  obtain⟨_,f⟩:=Tr w F (hl x (qW ..));rw[CS,e];rw[e]at f;dsimp only at f⊢;rw[if_pos rfl];obtain⟨k,i,a3⟩:=LH h l _ f fun y j=>hl y (qR _ j);refine⟨k,i,fun s=>?_⟩;rw[a3 s,g,Cx _ _ _ _ a F.len,<-g];by_cases c:s=x
  ·subst c;rw[if_pos rfl,b];simp only[qL,q8,true_or,if_true];congr 1;split<;>rfl
  ·rw[if_neg c];cases bp ds s with
   |none=>rfl
   |some d'=>simp[c]
end Wl
namespace Go.Qw
open Go Go.Vc Go.Proofs Wl
section
variable {B:aB} {h0 h h':Heap} {As:List HP} {a:Addr} {w:Pow}
end
section
variable {B:aB} {h0 h h':Heap} {As:List HP} {a pw:Addr} {d:bB} {w:Pow}
end
section
variable {B:aB} {h0 h h':Heap} {As:List HP}
end
end Go.Qw
namespace Wl
open Go
end Wl
namespace Go.Qw
open Go Go.Vc Go.Proofs Wl
end Go.Qw
namespace Wl
open Go
end Wl
namespace Go.Qw
open Go Go.Vc Go.Proofs Wl
end Go.Qw
namespace Wl
open Go
end Wl
namespace Go.Vc
open Go Wl
end Go.Vc
namespace Go.Qw
open Go Go.Vc Go.Proofs Wl
section
variable {B:aB} {h0 h h':Heap} {As:List HP} {a pw:Addr} {mc:aW} {offs:Int} {da:List aO} {w:Pow} {ds:aT}
end
section
variable {B:aB} {h0 h h':Heap} {As:List HP} {a pw:Addr} {mc:aW} {offs:Int} {da:List aO} {w:Pow} {ds:aT}
end
end Go.Qw
namespace Go.Vc
open Go Wl Go.Qw
def xS(p:Pm)(extra:Int)(l:aC):Int:=
 if(fc l).2&&(bL p&&fd extra 0 16)then
  if(bm l l.length).any fun i=>decide (l.getD i.toNat 0<((aY (ck p extra l)).length:Int))then 7 else 0
 else 1
theorem Wm(p:Pm)(extra:Int)(w:Pow)(l:aC):eN p extra w l=if xS p extra l=0 then layAll (bA (ck p extra l) (bm l l.length)) w (gP l (bm l l.length).length)else(xS p extra l,w,[]):=by
 unfold eN xS;by_cases h:((fc l).2&&(bL p&&fd extra 0 16))=true
 ·rw[if_pos h,if_pos h];by_cases a:((bm l l.length).any fun i=>decide (l.getD i.toNat 0<((aY (ck p extra l)).length:Int)))=true
  ·rw[if_pos a,if_pos a];rfl
  ·rw[if_neg a,if_neg a];rfl
 ·rw[if_neg h,if_neg h];rfl
theorem LI{p:Pm}{extra:Int}{l:aC}(h:xS p extra l=0):bL p=true/\0<=extra/\extra<=16/\(fc l).2=true/\((bm l l.length).any fun i=>decide (l.getD i.toNat 0<((aY (ck p extra l)).length:Int)))=false:=by
 unfold xS at h;by_cases a:((fc l).2&&(bL p&&fd extra 0 16))=true
 ·rw[if_pos a]at h;by_cases b:((bm l l.length).any fun i=>decide (l.getD i.toNat 0<((aY (ck p extra l)).length:Int)))=true
  ·rw[if_pos b]at h;cases h
  ·unfold fd at a;simp only[qz,decide_eq_true_eq]at a;exact⟨a.2.1,a.2.2.1,a.2.2.2,a.1,by simpa using b⟩
 ·rw[if_neg a]at h;cases h
end Go.Vc
namespace Go.Qw
open Go Go.Vc Go.Proofs Wl
end Go.Qw
namespace Wl
def mC(m:aG)(l:cD):Bool:=bO m&&(aY m).all fun p=>decide (p∈l)
end Wl
namespace Go.Qw
open Go Go.Vc Go.Proofs Wl
theorem YN(a:Addr)(e:Sl)(p:aX)(l:Sl)(b:Cells)(h:Heap)(q:bX h a 35 [e])(u:Rd h e 1 aE p)(m:gx h l 1 aE b)(w:b.length<=2^30):
  ac xx 227 #[l,.func (.func 228) #[] #[xo (some a)]] h fun v h'=>v=xq (decide (p∈b))/\h'=h:=by
 refine ms l (228,#[],#[xo (some a)]) ?_;unfold iL;refine(nA l (228,#[],#[xo (some a)]) (R:=fun v h'=>(∃i:Int,v=xl xt i/\(decide (i>=0)=decide (p∈b)))/\h'=h) ?_).mono ?_
 ·unfold jD;have t:=m.len;refine aw (fun i:Nat=>(i:Int)) (fun i h'=>i<=b.length/\p∉b.take i/\h'=h) (fun i=>b.length-i) 0 rfl ⟨by omega,by simp,rfl⟩ ?_;rintro i k ⟨n,d,rfl⟩;refine al (fun g=>?_) (fun g=>?_)
  ·have c:i<b.length:=by
    have s:(i:Int)<(l.len:Int):=g;omega
   refine m.get i rfl c fun r o=>ee (by rfl) ?_;refine(Jm r a (R:=fun v h'=>v=xq (decide (b[i]=p))/\h'=k) ?_).mono ?_
   ·unfold Ce;refine⟨e,q.cell0 rfl,(xG r e b[i] p k o u).mono ?_⟩;rintro _ _ ⟨rfl,rfl⟩;exact⟨_,rfl,rfl,rfl⟩
   ·rintro _ _ ⟨rfl,rfl⟩;refine⟨_,rfl,al (fun j=>⟨⟨i,rfl,?_⟩,rfl⟩) (fun j=>?_)⟩
    ·rw[decide_eq_true (show(i:Int)>=0 by omega),decide_eq_true (by rw[<-j];exact qh c)]
    ·refine⟨i+1,by rw[ak _];rfl,⟨by omega,fun f=>?_,rfl⟩,by omega⟩;rw[aI _ _ c]at f;rcases qA.1 f with f|f
     ·exact d f
     ·exact j (qG.1 f).symm
  ·have s:¬(i:Int)<(l.len:Int):=g;rw[qi (by omega)]at d;exact⟨⟨-1,rfl,by rw[decide_eq_false d];rfl⟩,rfl⟩
 ·rintro _ k ⟨⟨i,rfl,n⟩,rfl⟩;exact⟨i,rfl,by rw[n],rfl⟩
theorem Wn(a pw:Addr)(d:bB)(s b:Sl)(x:bD)(m:aG)(h:Heap)(M:bX h a 161 (gW pw d s b))(T:gx h s 1 aE d.l)(ok:fV d)(L:dK h x m)(F:cO m):
  ac xx 141 #[xo (some a),eT x] h fun v h'=>v=xq (mC m d.l)/\Sp h h' []:=by
 refine MO (some a) x ?_;unfold FU;have N:=ok.len;have J:=ok.room;refine(Sp.refl h).boxed fun B O w=>?_;have w:Sp h O [aq B 59 (aP x)]:=w;refine⟨x,(w.box 0 rfl).aL _ rfl,(Jw x m O (L.up w.ai) F).mono ?_⟩;rintro _ R ⟨rfl,Y⟩;have z:Sp h R [aq B 59 (aP x)]:=w.up Y.ai;refine⟨_,rfl,bh (fun g=>⟨by unfold mC;rw[g];rfl,.zip z.ai⟩) fun g=>?_⟩;refine(Rf s b (M.ai z.ai M.lt) (T.up z.ai) ok).mono ?_;rintro _ h3 ⟨o,rfl,S⟩;have D:Sp h h3 [aq B 59 (aP x),eE o d.l]:=z.comp S;refine⟨o,rfl,x,(D.box 0 rfl).aL _ rfl,(kY x m h3 (L.up D.ai) F).mono ?_⟩;rintro _ Q ⟨q,rfl,P⟩;have t:Sp h Q [aq B 59 (aP x),eE o d.l,eE q (aY m)]:=D.comp P;have H:=jb m F;obtain⟨c,n⟩:∃c,c=aY m:=⟨_,rfl⟩
 rw[<-n]at t H;have W:=(aa.AZ (t.bi 3 [2])).1;refine⟨q,rfl,?_⟩;obtain⟨rs,t⟩:=(t.bK [2,1]).aaL fun _=>rfl;refine aw (fun i:Nat=>(i:Int)) (fun i h'=>i<=c.length/\((c.take i).all fun p=>decide (p∈d.l))=true/\Sp h h' [cu (gr 1 aE) 1 bJ q rs c,eE o d.l]) (fun i=>c.length-i) 0 rfl ⟨by omega,by simp,t⟩ ?_;rintro i Z ⟨hi,f,A⟩;have X:=(A.dV 0 rfl).2.1;refine al (fun e=>?_) (fun e=>?_)
 ·have j:i<c.length:=by
   have V:(i:Int)<(q.len:Int):=e;omega
  refine(A.dV 0 rfl).1.nL i rfl (by omega) ?_;obtain⟨r,K⟩:∃r,r=rs[i]'(by omega):=⟨_,rfl⟩
  rw[<-K];refine A.alloc ae rfl fun u h6 U=>?_;refine U.storeAll ae 2 rfl rfl [r] rfl rfl rfl rfl fun G k=>?_;have k:Sp h G [cu (gr 1 aE) 1 bJ q rs c,eE o d.l,aq u 35 [r]]:=k;have y:Rd G r 1 aE c[i]:=by rw[K];exact Fix.row (k.dV 0 rfl) j
  have I:=aa.NB (k.bi 2 [1]) fun _=>rfl;refine(YN u r c[i] o d.l G (k.box 2 rfl) y I (by omega)).mono ?_;rintro _ h8 ⟨rfl,rfl⟩;refine⟨_,rfl,bh (fun E=>⟨?_,.zip k.ai⟩) fun E=>?_⟩
  ·have:mC m d.l=false:=by
    unfold mC;rw[g,zW,<-n];exact yh.2 ⟨c[i],qh j,by rw[E];simp⟩
   rw[this]
  ·refine⟨i+1,by rw[ak _];rfl,⟨by omega,?_,k.bK [0,1]⟩,by omega⟩;rw[aI _ _ j,List.all_append,f,vN,List.all_nil,E];rfl
 ·have:i=c.length:=by
   have V:¬(i:Int)<(q.len:Int):=e;omega
  subst this;rw[qQ]at f;exact⟨by unfold mC;rw[g,<-n,f];rfl,.zip A.ai⟩
end Go.Qw
namespace Go.Vc
open Go Wl Go.Qw
theorem abh{w:Pow}(h:w.calm){S:aC}(P:List (Int×aX))(ds:aT)(F:Fit ds S (P.map qJ))(c:∀x∈P,x.1∈S/\x.2.length=64):
  (layAll P w ds).1=0/\Fit (layAll P w ds).2.2 S []/\∀s,bp (layAll P w ds).2.2 s=(LG ds P s).map fun d=>if s∈fN (P.map qJ)then{d with wait:=0,laid:=[],has:=false}else d:=by
 obtain⟨k,f,a3⟩:=GM h P ds F c;have e:=pD h P ds;unfold layAll;dsimp only;rw[if_pos k,e];obtain⟨l,g,j⟩:=LH h (S:=S) (fN (P.map qJ)) (ky P w ds).2.2 f fun x b=>by
  unfold fN at b;have a:=(qB.1 b).2;obtain⟨y,i,rfl⟩:=qq.1 (of_decide_eq_true a);exact(c y i).1
 exact⟨l,g,fun s=>by rw[j s,a3 s]⟩
theorem ED(l:aC)(k:Nat):(bm l k).Pairwise (·<·):=by
 unfold bm;refine List.Pairwise.filter _ (wz.2 ?_);exact(List.pairwise_lt_range (n:=k)).imp fun h=>by omega
theorem adA{l:aC}{a:Int}(f:l.Pairwise (·<·))(e:∀x∈l,0<=x/\x<=a):oN l a=true:=by
 unfold oN;refine sX fun i c=>?_;unfold jl fd;have d:l.getD i 0=l[i]:=by rw[qe,qd c];rfl
 have:=e l[i] (qh c);rw[d,decide_eq_true this.1,decide_eq_true this.2,zW,zW];by_cases h0:i=0
 ·rw[decide_eq_true h0];rfl
 ·have b:l.getD (i-1) 0=l[i-1]:=by rw[qe,qd (by omega)];rfl
  rw[b,decide_eq_true (List.pairwise_iff_getElem.1 f (i-1) i (by omega) c (by omega)),xh]
theorem RJ{p:Pm}{extra:Int}{l:aC}(h:l.length<=64)(c:xS p extra l=0):bO (ck p extra l)=true:=by
 obtain⟨f,a,h3,_⟩:=LI c;have e:kl (ck p extra l)=true:=by
  unfold kl fd ck;simp[f,a,h3]
 have b:oN (ck p extra l).drives 63=true:=adA (ED l l.length) fun x d=>by
  obtain⟨n,g,rfl,_⟩:=(xI l l.length x).1 d;omega
 unfold bO;rw[e,b];rfl
theorem Ph(p:Pm)(extra:Int)(l:aC)(a:l.length<=24):(aY (ck p extra l)).length<=1:=by
 unfold aY gX;rw[qu,zx];have b:=pA l l.length;have:(gp (ck p extra l)).length<=19+24:=by
  unfold gp;split
  ·simp only[qx,co,q9,yt,qu,ck,z8];omega
  ·simp
 omega
end Go.Vc
namespace Wl
open Go
theorem YO{ds:aT}{k:Int}{d:bB}(h:bp ds k=some d):jE ds k d=ds:=by
 unfold bp at h;split at h
 ·rename_i b;unfold jE;cases hx:ds[k.toNat]? with
  |none=>rw[hx]at h;cases h
  |some o=>
   rw[hx]at h;have h:o=some d:=h;subst h;obtain⟨c,a⟩:=qn.1 hx;rw[<-a,List.set_getElem_self]
 ·cases h
theorem roomy{m:aG}{w:Pow}{N:Int->Int}:∀{live:aC} {ds:aT},(∀k∈live,∃d,bp ds k=some d/\d.lost=false/\0<=N k/\(d.l.length:Int)+N k<=d.room)->cH m ds live N=true/\makes m N live w ds=(0,w,ds)
 |[],ds,_=>⟨rfl,rfl⟩
 |k::live,ds,h=>by
  obtain⟨d,a,c,h3,n⟩:=h k qW;obtain⟨f,i⟩:=roomy (m:=m) (w:=w) (N:=N) (live:=live) (ds:=ds) fun k j=>h k (qR _ j);have b:fp d d.l.length (N k)=true:=decide_eq_true (by omega);have e:jT m d (N k)=true:=by unfold jT;rw[c,b];rfl
  have g:dv m w ds k (N k)=(0,w,ds):=by
   unfold dv;rw[a];have:fW m w d (N k)=(0,w,d):=by unfold fW;rw[if_neg (by simp[c]),if_neg (by simp[e]),if_pos b]
   dsimp only;rw[this];dsimp only;rw[YO a]
  refine⟨?_,?_⟩
  ·unfold cH at f⊢;rw[vN,f,Bool.and_true];unfold fk;rw[a];exact e
  ·show(if(dv m w ds k (N k)).1=0 then makes m N live (dv m w ds k (N k)).2.1 (dv m w ds k (N k)).2.2 else dv m w ds k (N k))=_;rw[g];exact i
end Wl
namespace Go.Vc
open Go Wl Go.Qw
theorem YP(l:List (Int×aX))(k:Int):(l.map qJ).count k=(l.filter fun y=>decide (y.1=k)).length:=by
 induction l with
 |nil=>rfl
 |cons y l ih=>
  rw[zV,List.count_cons,ih,zr];by_cases h:y.1=k
  ·rw[if_pos (decide_eq_true h),if_pos (by simpa using h)];rfl
  ·rw[if_neg (by simpa using h),if_neg (by simpa using h)];rfl
theorem GN(n:aG)(k:Int):∀{live:aC},live.Nodup->k∈live->((bA n live).filter fun y=>decide (y.1=k)).map zt=aY n
 |[],_,hk=>by cases hk
 |x::live,hnd,hk=>by
  have e:bA n (x::live)=(aY n).map (fun c=>(x,c))++bA n live:=by unfold bA;rw[zl]
  obtain⟨j,d⟩:=w6.1 hnd;rw[e,zj,qT];by_cases a:x=k
  ·subst a;have f:((aY n).map (fun c=>(x,c))).filter (fun y=>decide (y.1=x))=(aY n).map (fun c=>(x,c)):=List.filter_eq_self.2 fun y b=>by
    obtain⟨c,_,rfl⟩:=qq.1 b;exact decide_eq_true rfl
   have i:(bA n live).filter (fun y=>decide (y.1=x))=[]:=wG.2 fun y b=>by
    have:=(ke b).1;have g:y.1≠x:=fun h=>j (h▸this);simpa using g
   rw[f,i,vj,qS,wR];exact List.map_id _
  ·have f:((aY n).map (fun c=>(x,c))).filter (fun y=>decide (y.1=k))=[]:=wG.2 fun y b=>by
    obtain⟨c,_,rfl⟩:=qq.1 b;simpa using a
   rw[f,vj,List.nil_append];rcases q8.1 hk with h|h
   ·exact absurd h.symm a
   ·exact GN n k d h
end Go.Vc
namespace Go.Qw
open Go Go.Vc Go.Proofs Wl
theorem adB{p:Pm}{seed:Int}{d:Row}{K H w n:Nat}(B:bT p seed d K H w n)(id:Int):xP p seed d id=if bS id then fE w (eW p seed d) (dj n seed id)else[]:=by
 unfold xP;rw[B.oV,show p.2.2.toNat=w by have:=B.s;omega]
theorem RK{m:aG}{o i seed:Int}{d:Row}{id:Int}{K H w n:Nat}(B:bT m.p seed d K H w n)(b:0<=o/\o<=16777215)(c:0<=i/\i<=7)(hid:0<=id/\id<=65535):ia (jF m o i seed d id)=true:=by
 rw[ge];refine⟨b,c,hid,B.may,?_⟩;have a:bS id=true:=by unfold bS;rw[decide_eq_true hid.1,decide_eq_true hid.2];rfl
 show((xP m.p seed d id).length:Int)=m.p.2.2;rw[adB B id,if_pos a,B.XO id,B.s]
def oD(m:aG)(o:Int)(a:aC)(b:cD)(live:aC)(k:Int)(i:Nat):List cC:=
 ((qE (m.p.1+m.extra).toNat).filter fun id=>decide (kQ (dG o i live) (id:Nat)=k)).map fun id:Nat=>jF m o i (cN o i (a.getD i 0)) (b.getD i []) id
def gn(m:aG)(o:Int)(a:aC)(b:cD)(live:aC)(k:Int)(n:Nat):List cC:=(qE n).flatMap (oD m o a b live k)
theorem RL(m:aG)(o:Int)(a:aC)(b:cD)(live:aC)(k:Int)(n:Nat):gn m o a b live k (n+1)=gn m o a b live k n++oD m o a b live k n:=by
 unfold gn;rw[zI,zh,zl,z8,qS]
theorem GO(m:aG)(o:Int)(a:aC)(b:cD)(live:aC)(k:Int)(i:Nat):((mB m o a b live i).filter fun y=>decide (y.1=k)).map zt=(oD m o a b live k i).map cy:=by
 unfold mB oD;rw[List.filter_map,wR,wR];rfl
theorem EE(m:aG)(o:Int)(a:aC)(b:cD)(live:aC)(k:Int):∀n,((di m o a b live n).filter fun y=>decide (y.1=k)).map zt=(gn m o a b live k n).map cy
 |0=>by simp[di,gn]
 |n+1=>by rw[tj,RL,zj,qT,qT,EE m o a b live k n,GO]
theorem Wo{m:aG}{o:Int}{a:aC}{b:cD}{live:aC}{k:Int}{i:Nat}{r:cC}(h:r∈oD m o a b live k i):∃id:Nat,r=jF m o i (cN o i (a.getD i 0)) (b.getD i []) id/\id<(m.p.1+m.extra).toNat:=by
 unfold oD at h;obtain⟨id,c,rfl⟩:=qq.1 h;exact⟨id,rfl,qD.1 (qB.1 c).1⟩
theorem LJ{m:aG}{o:Int}{a:aC}{b:cD}{live:aC}{k:Int}{n:Nat}{r:cC}(h:r∈gn m o a b live k n):∃(i id:Nat),r=jF m o i (cN o i (a.getD i 0)) (b.getD i []) id/\i<n/\id<(m.p.1+m.extra).toNat:=by
 unfold gn at h;obtain⟨i,d,e⟩:=zm.1 h;obtain⟨id,c,h3⟩:=Wo e;exact⟨i,id,c,qD.1 d,h3⟩
end Go.Qw
namespace Wl
open Go
def dI(m:aG)(d:bB)(n:Int):bB:=if fp d d.l.length n then d else{d with l:=ir m d.l,wait:=0,laid:=[],has:=false}
theorem LK{m:aG}{r:cC}(h:cX m r=true):ia r=true:=by
 unfold cX at h;simp only[qz]at h;exact h.1
theorem abi{l:List cC}{r:cC}(h:r∈rh l):r∈l:=by
 unfold rh at h;obtain⟨i,a,rfl⟩:=qq.1 h;have a:=qD.1 (qB.1 a).1;rw[qe,qd a];exact qh a
theorem Wp{m:aG}{c:aX}{r:cC}(h:jw m c=some r):dp c=some r/\cX m r=true:=by
 unfold jw at h;cases hc:dp c with
 |none=>rw[hc]at h;cases h
 |some x=>
  rw[hc]at h;dsimp only at h;by_cases a:cX m x=true
  ·rw[if_pos a]at h;injection h with h;subst h;exact⟨rfl,a⟩
  ·rw[if_neg a]at h;cases h
theorem uo{m:aG}{l:cD}{r:cC}(h:r∈cZ m l):∃c∈l,dp c=some r/\cX m r=true:=by
 have h:=yB.1 (abi h);obtain⟨c,b,a⟩:=List.mem_filterMap.1 h;exact⟨c,b,Wp a⟩
theorem Wq(m:aG)(l:cD):∀c∈ir m l,c.length=64:=fun c b=>by
 rcases qA.1 b with h|h
 ·exact CU h
 ·obtain⟨r,d,rfl⟩:=qq.1 h;obtain⟨_,_,_,a⟩:=uo d;exact CW (LK a)
theorem RM{w:Pow}(a:w.calm){d:bB}{l:cD}(e:∀c∈l,c.length=64)(g:d.lost=false)(h:l.length<=d.room):d.rewrite w l=(0,w,{d with l:=l,wait:=0,laid:=[],has:=false}):=by
 unfold bB.rewrite;have:l.all (fun b=>decide (b.length=64))=true:=qN.2 fun c f=>decide_eq_true (e c f);rw[if_neg (by simp[this]),if_neg (by simp[g]),if_neg (by omega),if_neg (by simp[a.1]),sM a];rfl
theorem Wr{w:Pow}(e:w.calm){m:aG}{d:bB}{n:Int}(h:jT m d n=true):fW m w d n=(0,w,dI m d n):=by
 have h0:=h;unfold jT at h;rw[qz,wg,wL]at h;obtain⟨c,b⟩:=h;unfold fW dI;rw[if_neg (by simp[c]),if_neg (by simp[h0])];by_cases a:fp d d.l.length n=true
 ·rw[if_pos a,if_pos a]
 ·rw[if_neg a,if_neg a];have h3:fp d (ir m d.l).length n=true:=by
   rcases b with b|b
   ·exact absurd b a
   ·exact b
  unfold fp at h3;rw[decide_eq_true_eq]at h3;exact RM e (Wq m d.l) c (by omega)
theorem RN(m:aG)(ds:aT)(k:Int)(l:aC)(N:Int->Int):cH m ds (k::l) N=(fk m ds k (N k)&&cH m ds l N):=vN
theorem rR{m:aG}{ds:aT}{k n:Int}(h:fk m ds k n=true):∃d,bp ds k=some d/\jT m d n=true:=by
 unfold fk at h;cases hd:bp ds k with
 |none=>rw[hd]at h;cases h
 |some d=>rw[hd]at h;exact⟨d,rfl,h⟩
theorem abj(ds:aT)(k:Int)(d:bB):(jE ds k d).length=ds.length:=by unfold jE;simp
theorem abk{ds:aT}{k:Int}{e d:bB}(a:ds.length=64)(c:bp ds k=some e)(s:Int):bp (jE ds k d) s=if s=k then some d else bp ds s:=by
 obtain⟨n,rfl,b⟩:=oA c;exact Cx ds n d s b a
theorem Pj{m:aG}{ds ds':aT}{l:aC}{N:Int->Int}(h:∀k∈l,bp ds k=bp ds' k):cH m ds l N=cH m ds' l N:=by
 unfold cH;rw[Bool.eq_iff_iff,qN,qN];refine forall_congr' fun k=>forall_congr' fun a=>?_;unfold fk;rw[h k a]
theorem uq{w:Pow}(j:w.calm){m:aG}{N:Int->Int}:∀{live:aC} {ds:aT},live.Nodup->ds.length=64->cH m ds live N=true->
  ∃ds',makes m N live w ds=(0,w,ds')/\ds'.length=64/\∀k,bp ds' k=(bp ds k).map fun d=>if k∈live then dI m d (N k)else d
 |[],ds,_,h64,_=>⟨ds,rfl,h64,fun k=>by cases bp ds k<;>simp⟩
 |k::live,ds,hnd,h64,hf=>by
  rw[RN,qz]at hf;obtain⟨a,c⟩:=w6.1 hnd;obtain⟨d,h,g⟩:=rR hf.1;have e:dv m w ds k (N k)=(0,w,jE ds k (dI m d (N k))):=by
   unfold dv;rw[h];dsimp only;rw[Wr j g]
  have b:=abk (d:=dI m d (N k)) h64 h;have i:cH m (jE ds k (dI m d (N k))) live N=true:=by
   rw[<-Pj (ds:=ds) fun s f=>?_]
   ·exact hf.2
   ·rw[b,if_neg (fun n:s=k=>a (n▸f))]
  obtain⟨ds',o,l,h3⟩:=uq j c (by rw[abj];exact h64) i;refine⟨ds',?_,l,fun s=>?_⟩
  ·show(if(dv m w ds k (N k)).1=0 then makes m N live (dv m w ds k (N k)).2.1 (dv m w ds k (N k)).2.2 else dv m w ds k (N k))=_;rw[e];exact o
  ·rw[h3 s,b];by_cases f:s=k
   ·subst f;rw[if_pos rfl,h];simp[a]
   ·rw[if_neg f];simp[f]
theorem DJ{m:aG}{d:bB}{n:Int}(h:jT m d n=true):(dI m d n).lost=false/\(dI m d n).room=d.room/\((dI m d n).l.length:Int)+max n 0<=d.room:=by
 unfold jT at h;rw[qz,wg,wL]at h;obtain⟨c,b⟩:=h;unfold dI;by_cases a:fp d d.l.length n=true
 ·rw[if_pos a];unfold fp at a;rw[decide_eq_true_eq]at a;exact⟨c,rfl,by omega⟩
 ·rw[if_neg a];have h3:fp d (ir m d.l).length n=true:=by
   rcases b with b|b
   ·exact absurd b a
   ·exact b
  unfold fp at h3;rw[decide_eq_true_eq]at h3;exact⟨c,rfl,by dsimp only;omega⟩
theorem Tx(b:ByteArray):∀n i r,b.size-i=n->ByteArray.toList.loop b i r=r.reverse++b.data.toList.drop i:=by
 have c:b.data.toList.length=b.size:=rfl;intro n
 induction n with
 |zero=>
  intro i r h;rw[ByteArray.toList.loop,if_neg (by omega),List.drop_eq_nil_of_le (by rw[c];omega),qS]
 |succ n ih=>
  intro i r h;have a:i<b.size:=by omega
  rw[ByteArray.toList.loop,if_pos a,ih (i+1) _ (by omega)];have d:b.data.toList.drop i=b.get! i::b.data.toList.drop (i+1):=by
   rw[qV (by rw[c];exact a)];congr 1;show _=b.data[i]!;rw[getElem!_pos b.data i a,Array.getElem_toList]
  rw[d,List.reverse_cons,qp];rfl
theorem toList_eq(x:ByteArray):x.toList=x.data.toList:=by
 unfold ByteArray.toList;rw[Tx x _ 0 [] rfl];rfl
theorem lh{a b:ByteArray}(h:a.toList=b.toList):a=b:=by
 rw[toList_eq,toList_eq]at h;cases a;cases b;congr;exact Array.toList_inj.1 h
theorem Tz(a:ByteArray):eU a a=false:=XC _
theorem YQ{a b:ByteArray}(h:jm a b=true)(c:a≠b):eU a b=true:=by
 rcases(Ko a b).1 h with h|h
 ·exact h
 ·exact absurd (lh h) c
theorem AR{a b:ByteArray}(h:eU a b=true):a≠b:=fun e=>by subst e;rw[Tz]at h;cases h
theorem aeU:Ord tW:=⟨fun a b c e d=>Fq _ _ _ e d,fun a b=>Fs _ _⟩
theorem mD{m:aG}{x e:bV}:e∈(db m x).objs↔e∈m.objs∨e=x:=by
 show e∈(m.objs++[x]).mergeSort tW↔_;rw[yB];simp
end Wl
namespace Go.Qw
open Go Go.Vc Go.Proofs Wl
theorem YR{name:ByteArray}{l:List Wl.bV}(h:l.any (dP name)=false):∀e∈l,e.name≠name:=fun e b a=>by
 have:=wc.1 h e b;unfold dP at this;rw[a]at this;simp at this
theorem YS{m:aG}{x:Wl.bV}(E:bO m=true)(f:jv x.name=true)(l:∀e∈m.objs,e.name≠x.name)(i:x.object=m.next)(I:m.objs.length<=11)(K:m.next<=16777215)(N:m.seq<=2147483646)
  (k:0<=x.length/\x.length<=m.p.1*m.p.2.2*8) (z:∀t∈x.tries,0<=t/\t<=15) (v:(x.tries.length:Int)=countP m.p x.length):bO (db m x)=true:=by
 obtain⟨H,u,h3,J,s,G,y⟩:=(bZ m).1 E;obtain⟨M,L,a3,a4⟩:=(dM m).1 H;have c:(db m x).objs.Perm (m.objs++[x]):=wK _ _;have g:∀e∈m.objs,e.object<m.next:=fun e n=>((gC m e).1 (s e n)).2.1.2;refine(bZ _).2 ⟨(dM _).2 ⟨⟨?_,?_⟩,⟨?_,?_⟩,a3,a4⟩,u,h3,?_,fun e n=>?_,?_,?_⟩
 ·show 1<=m.seq+1;omega
 ·show m.seq+1<=_;omega
 ·show 0<=m.next+1;omega
 ·show m.next+1<=_;omega
 ·rw[c.length_eq];simp;omega
 ·rcases mD.1 n with n|rfl
  ·obtain⟨F,w,A,B,D⟩:=(gC m e).1 (s e n);exact(gC _ e).2 ⟨F,⟨w.1,by show _<m.next+1;omega⟩,A,B,D⟩
  ·exact(gC _ _).2 ⟨f,⟨by omega,by show _<m.next+1;omega⟩,k,z,v⟩
 ·have d:(m.objs++[x]).Pairwise (fun a b:Wl.bV=>a.name≠b.name):=wU.2 ⟨G.imp fun h=>AR h,List.pairwise_singleton _ _,fun a r b q=>by rw[qG.1 q];exact l a r⟩;have j:=(c.pairwise_iff (R:=fun a b:Wl.bV=>a.name≠b.name) fun{a b} h=>Ne.symm h).2 d;have o:(db m x).objs.Pairwise (fun a b=>tW a b=true):=(Fp aeU (m.objs++[x])).1;exact(o.and j).imp fun h=>YQ h.1 h.2
 ·have d:(m.objs++[x]).Pairwise (fun a b:Wl.bV=>a.object≠b.object):=wU.2 ⟨y,List.pairwise_singleton _ _,fun a r b q=>by rw[qG.1 q,i];have:=g a r;omega⟩;exact(c.pairwise_iff (R:=fun a b:Wl.bV=>a.object≠b.object) fun{a b} h=>Ne.symm h).2 d
theorem TA{p:Pm}{o:Int}{n:Nat}{t:aC}(h:cG p o n=some t):∀x∈t,0<=x/\x<=15:=fun x d=>by
 obtain⟨i,c,rfl⟩:=qH d;obtain⟨k,b,a⟩:=AN h i c;have:=(Gz a).1;rw[b];omega
theorem xT{p:Pm}(a:bL p=true)(b:aX):((bo p b).length:Int)=countP p b.length:=by
 have:=(lx a b.length).1;unfold bo;rw[qu,zx];omega
theorem abl{m:aG}{d:Bool}{ds:aT}{name:ByteArray}{b:aX}{t:aC}(g:bO m=true)(j:cK m d ds name b.length=0)(f:cG m.p m.next (bo m.p b).length=some t):bO (db m ⟨name,m.next,b.length,t⟩)=true:=by
 obtain⟨n,i,z3,z4,z5⟩:=jq j;have l:¬m.p.1*m.p.2.2*8<(b.length:Int):=fun h=>z4 (.inl h);have c:m.objs.length<=11:=by have:¬12<=m.objs.length:=fun h=>z4 (.inr h);omega
 have e:m.next<=16777215:=by have:¬16777215<m.next:=fun h=>z5 (.inr (.inl h));omega
 have a:m.seq<=2147483646:=by have:¬2147483647<=m.seq:=fun h=>z5 (.inr (.inr h));omega
 have k:=((dM m).1 ((bZ m).1 g).1).2.2.1;refine YS g i (YR z3) rfl c e a ⟨by show 0<=(b.length:Int);omega,by show(b.length:Int)<=_;omega⟩ (TA f) ?_;show(t.length:Int)=countP m.p b.length;rw[iq f,xT k]
end Go.Qw
namespace Wl
open Go
def dq(a:cD)(d:bB):bB:=if a.isEmpty then d else{d with l:=d.l++a,wait:=0,laid:=[],has:=false}
def dY(P:List (Int×aX))(s:Int):cD:=(P.filter fun x=>decide (x.1=s)).map zt
theorem JE{P:List (Int×aX)}{s:Int}(h:∀x∈P,x.1≠s):dY P s=[]:=by
 unfold dY;rw[wG.2 fun x a=>by simpa using h x a];rfl
theorem RO(P:List (Int×aX))(s:Int):(dY P s).length=(P.map qJ).count s:=by
 unfold dY;rw[qu];exact(Go.Vc.YP P s).symm
theorem IH{l:aC}{s:Int}(h:0<=s/\s<64):s∈fN l↔s∈l:=by
 unfold fN;rw[qB,decide_eq_true_eq];refine⟨fun h=>h.2,fun h'=>⟨?_,h'⟩⟩;exact qq.2 ⟨s.toNat,qD.2 (by omega),by omega⟩
theorem GP{w:Pow}(m:w.calm){ds:aT}{P:List (Int×aX)}(i:ds.length=64)
  (a:∀x∈P,x.2.length=64/\∃d,bp ds x.1=some d/\d.lost=false/\d.l.length+(dY P x.1).length<=d.room):
  ∃ds',layAll P w ds=(0,w,ds')/\ds'.length=64/\∀s,bp ds' s=(bp ds s).map (dq (dY P s)):=by
 have F:Fit ds (P.map qJ) (P.map qJ):=⟨i,fun k p=>by
  obtain⟨x,f,rfl⟩:=qq.1 p;obtain⟨_,d,j,g,h3⟩:=a x f;rw[RO]at h3;exact⟨d,j,g,h3⟩⟩
 obtain⟨q,o,a3⟩:=Go.Vc.abh m P ds F fun x f=>⟨qq.2 ⟨x,f,rfl⟩,(a x f).1⟩
 refine⟨(layAll P w ds).2.2,?_,o.len,fun s=>?_⟩
 ·have g:=abg m P ds;exact yU q (yU g rfl)
 ·rw[a3 s];unfold LG;cases hd:bp ds s with
  |none=>rfl
  |some d=>
   obtain⟨c,e⟩:=aeT hd;rw[qL,qL,qL];congr 1;unfold dq;have n:s∈P.map qJ↔(dY P s).isEmpty=false:=by
    rw[<-List.count_pos_iff,<-RO];cases hc:dY P s<;>simp
   by_cases b:(dY P s).isEmpty=true
   ·have h0:dY P s=[]:=List.isEmpty_iff.1 b;have j:(P.filter fun x=>decide (x.1=s))=[]:=List.map_eq_nil_iff.1 h0;rw[if_neg (fun h=>by rw[IH ⟨c,e⟩,n]at h;rw[h]at b;cases b),if_pos b,j];simp
   ·have r:(dY P s).isEmpty=false:=by simpa using b
    rw[if_pos ((IH ⟨c,e⟩).2 (n.2 r)),if_neg b];rfl
end Wl
namespace Go.Qw
open Go Go.Vc Go.Proofs Wl
theorem oE{n:aG}{live:aC}(a:live.Nodup)(s:Int):dY (bA n live) s=if s∈live then aY n else[]:=by
 by_cases h:s∈live
 ·rw[if_pos h];exact GN n s a h
 ·rw[if_neg h];exact JE fun x c b=>h (b▸(ke c).1)
theorem RP(m:aG)(o:Int)(a:aC)(b:cD)(live:aC)(k:Int)(n:Nat):dY (di m o a b live n) k=(gn m o a b live k n).map cy:=EE m o a b live k n
theorem RQ{m:aG}(h:bO m=true):aY m≠[]:=by
 unfold aY gX gp;rw[if_pos h];intro e;have:=congrArg yW e;simp[co]at this;omega
theorem GQ{ds:aT}{l:aC}(h:l.Nodup):(bc ds l).Nodup:=h.filter _
theorem mE{ds:aT}{l:aC}{k:Int}(h:k∈bc ds l):k∈l/\∃d,bp ds k=some d/\d.lost=false:=by
 obtain⟨b,a⟩:=qB.1 h;unfold isLive at a;cases hd:bp ds k with
 |none=>rw[hd]at a;cases a
 |some d=>rw[hd]at a;exact⟨b,d,rfl,by simpa using a⟩
theorem mF(a:cD)(d:bB):(dq a d).l=d.l++a:=by
 unfold dq;by_cases h:a.isEmpty=true
 ·rw[if_pos h,List.isEmpty_iff.1 h,qS]
 ·rw[if_neg h]
theorem iB(a:cD)(d:bB):(dq a d).lost=d.lost/\(dq a d).room=d.room:=by
 unfold dq;split<;>exact⟨rfl,rfl⟩
theorem abm{b a:cD}(h:a≠[])(d:bB):dq a (dq b d)=dq (b++a) d:=by
 have e:∀c:cD,c≠[]->∀d,dq c d={d with l:=d.l++c,wait:=0,laid:=[],has:=false}:=fun c g d=>by
  unfold dq;rw[if_neg (by simpa using g)]
 by_cases f:b=[]
 ·subst f;rfl
 ·rw[e b f,e a h,e (b++a) (by simp[h])];simp
theorem GR(pages:Nat)(l:List (Int×aX))(k:Int):iU pages l k=pages+(dY l k).length:=by unfold iU dY;rw[qu]
theorem UF{p:Pm}{o:Int}{b:aX}{t:aC}(d:bL p=true)(c:cG p o (bo p b).length=some t){i:Nat}(j:i<(bo p b).length):∃K H w n,bT p (cN o i (t.getD i 0)) ((bo p b).getD i []) K H w n:=by
 have m:=iq c;obtain⟨k,g,a⟩:=AN c i (by omega);have f:Lr p o i k=true:=(Gz a).2.1;have e:t.getD i 0=(k:Int):=by rw[fQ 0];exact g
 rw[e];refine abZ d f ?_;have l:=(bM p).1 d;have q:0<=p.1*p.2.2:=vg (by omega) (by omega);have h:(bo p b)[i]=um (dH p) b i:=by simp[bo]
 rw[fQ [] j,h,Gy];unfold dH;omega
theorem HM{m:aG}{b:aX}{t:aC}(c:bO m=true)(g:m.next<=16777215)(h8:(bo m.p b).length<=8)(e:cG m.p m.next (bo m.p b).length=some t){i id:Nat}(f:i<(bo m.p b).length)(hid:id<(m.p.1+m.extra).toNat):
  ia (jF m m.next i (cN m.next i (t.getD i 0)) ((bo m.p b).getD i []) id)=true:=by
 have a:=((dM m).1 ((bZ m).1 c).1)
 have d:=(bM m.p).1 a.2.2.1;obtain⟨K,H,w,n,B⟩:=UF a.2.2.1 e f;exact RK B ⟨a.2.1.1,g⟩ (by omega) (by omega)
theorem Oo{m:aG}{offs:Int}{w:Pow}{ds:aT}{name:ByteArray}{b:aX}(G:w.calm)(O:ds.length=64)(z:bO m=true):
  (cK m (dC w offs) ds name b.length≠0->gf m offs w ds name b=(cK m (dC w offs) ds name b.length,m,w,ds))/\
  (cK m (dC w offs) ds name b.length=0->(cG m.p m.next (bo m.p b).length=none->gf m offs w ds name b=(8,m,w,ds))/\∀t,cG m.p m.next (bo m.p b).length=some t->
   let live:=bc ds m.drives;let l:=di m m.next t (bo m.p b) live (bo m.p b).length;let n:=db m ⟨name,m.next,b.length,t⟩;let N:=iU (aY n).length l
   bO n=true/\(cH m ds live N=false->gf m offs w ds name b=(7,m,w,ds))/\(cH m ds live N=true->∃ds',gf m offs w ds name b=(0,n,w,ds')/\ds'.length=64/\
    ∀k,bp ds' k=(bp ds k).map fun d=>if k∈live then dq ((gn m m.next t (bo m.p b) live k (bo m.p b).length).map cy++aY n) (dI m d (N k))else d)):=by
 refine⟨fun h=>by unfold gf;rw[if_pos h],fun h=>⟨fun u=>by unfold gf;rw[if_neg (by simpa using h),u],fun t u=>?_⟩⟩;intro live l n N;have A:bO n=true:=abl z h u;obtain⟨z1,z2,z3,z4,z5⟩:=jq h;have v:=((dM m).1 ((bZ m).1 z).1)
 have M:¬m.p.1*m.p.2.2*8<(b.length:Int):=fun h=>z4 (.inl h);have h8:=uF v.2.2.1 M;have Q:live≠[]:=fun h=>z5 (.inl h);have q:0<=m.next/\m.next<=16777215:=⟨v.2.1.1,by have:¬16777215<m.next:=fun h=>z5 (.inr (.inl h));omega⟩
 have f:live.Nodup:=GQ (oX z);have K:∀k∈live,0<=k/\k<64:=fun k a=>im z k (mE a).1;have e:gf m offs w ds name b=(if cH m ds live N=false then(7,m,w,ds)else if(makes m N live w ds).1≠0 then((makes m N live w ds).1,m,(makes m N live w ds).2)else
   if(layAll l (makes m N live w ds).2.1 (makes m N live w ds).2.2).1≠0 then((layAll l (makes m N live w ds).2.1 (makes m N live w ds).2.2).1,m,(layAll l (makes m N live w ds).2.1 (makes m N live w ds).2.2).2)else
   ((layAll (bA n live) (layAll l (makes m N live w ds).2.1 (makes m N live w ds).2.2).2.1 (layAll l (makes m N live w ds).2.1 (makes m N live w ds).2.2).2.2).1,if(layAll (bA n live) (layAll l (makes m N live w ds).2.1 (makes m N live w ds).2.2).2.1 (layAll l (makes m N live w ds).2.1 (makes m N live w ds).2.2).2.2).1=0 then n else m,(layAll (bA n live) (layAll l (makes m N live w ds).2.1 (makes m N live w ds).2.2).2.1 (layAll l (makes m N live w ds).2.1 (makes m N live w ds).2.2).2.2).2)):=by
  unfold gf;rw[if_neg (by simpa using h),u]
 refine⟨A,fun D=>by rw[e,if_pos D],fun D=>?_⟩;rw[e,if_neg (by rw[D];decide)];obtain⟨R,X,m2,S⟩:=uq G (N:=N) f O D;rw[X];dsimp only;rw[if_neg (by simp)];have B:∀y∈l,y.1∈live:=fun y s=>(RH q Q K h8 s).1;have j:∀y∈l,y.2.length=64:=fun y s=>by
  obtain⟨i,hi,s⟩:=zm.1 s;obtain⟨id,hid,rfl⟩:=qq.1 s;exact CW (HM z q.2 h8 u (qD.1 hi) (qD.1 hid))
 have c:∀k∈live,∃d,bp R k=some d/\d.lost=false/\(d.l.length:Int)+max (N k) 0<=d.room:=fun k a=>by
  obtain⟨_,d,hd,V⟩:=mE a;have L:=qN.1 D k a;obtain⟨d',H,F⟩:=rR L;obtain⟨r1,Y,r3⟩:=DJ F;refine⟨dI m d' (N k),?_,r1,by rw[Y];exact r3⟩;rw[S k,H,qL,if_pos a]
 obtain⟨U,l1,l2,T⟩:=GP G (ds:=R) (P:=l) m2 fun x g=>by
  obtain⟨d,J,E,Z⟩:=c x.1 (B x g);refine⟨j x g,d,J,E,?_⟩;have:N x.1=_:=GR _ _ _;omega
 rw[l1];dsimp only;rw[if_neg (by simp)];obtain⟨d3,p1,p2,W⟩:=GP G (ds:=U) (P:=bA n live) l2 fun x g=>by
  obtain⟨o,r⟩:=ke g;obtain⟨d,J,E,Z⟩:=c x.1 o;refine⟨r,dq (dY l x.1) d,by rw[T,J,qL],by rw[(iB _ _).1];exact E,?_⟩;have:N x.1=_:=GR _ _ _;rw[(iB _ _).2,mF,oE f,if_pos o,qx];omega
 rw[p1];refine⟨d3,rfl,p2,fun k=>?_⟩;rw[W k,T k,S k,vW,vW];congr 1;funext d;show dq (dY (bA n live) k) (dq (dY l k) (if k∈live then dI m d (N k)else d))=_;rw[oE f];by_cases a:k∈live
 ·rw[if_pos a,if_pos a,if_pos a];have I:dY l k=(gn m m.next t (bo m.p b) live k (bo m.p b).length).map cy:=RP _ _ _ _ _ _ _;rw[I,abm (RQ A)]
 ·rw[if_neg a,if_neg a,if_neg a,JE (P:=l) fun x g (he:x.1=k)=>a (he▸B x g)];rfl
theorem LL(l:aC)(c:l.length<=64)(s:Int):bp (gP l (bm l l.length).length) s=if s∈bm l l.length then some (bB.new (l.getD s.toNat 0).toNat)else none:=by
 by_cases a:0<=s/\s<64
 ·unfold bp gP;rw[if_pos a,qO,zw (by omega),qL,qi (ql _)];have e:((s.toNat:Nat):Int)=s:=by omega
  rw[e];by_cases h:s∈bm l l.length
  ·rw[if_pos h];rfl
  ·rw[if_neg h];rfl
 ·rw[if_neg (fun h=>?_)]
  ·unfold bp;rw[if_neg a]
  ·obtain⟨n,b,rfl,_⟩:=(xI l l.length s).1 h;omega
theorem YT{p:Pm}{extra:Int}{l:aC}(g:l.length<=64)(f:xS p extra l=0):
  ∃D,eN p extra Pow.new l=(0,Pow.new,D)/\D.length=64/\∀s,bp D s=if s∈bm l l.length then some ⟨(l.getD s.toNat 0).toNat,aY (ck p extra l),0,[],false,false⟩else none:=by
 have k:=RJ g f;have b:(bm l l.length).Nodup:=(ED l l.length).imp fun h e=>by omega
 have c:=(LI f).2.2.2.2;rw[Wm,if_pos f];obtain⟨D,m,i,h3⟩:=GP DI (ds:=gP l (bm l l.length).length) (P:=bA (ck p extra l) (bm l l.length)) (Tg _ _) fun x j=>by
  obtain⟨a,d⟩:=ke j;refine⟨d,bB.new (l.getD x.1.toNat 0).toNat,by rw[LL l g,if_pos a],rfl,?_⟩;rw[oE b,if_pos a];have:=wc.1 c x.1 a;simp only[decide_eq_true_eq]at this;show 0+_<=(l.getD x.1.toNat 0).toNat;omega
 refine⟨D,m,i,fun s=>?_⟩;rw[h3,LL l g,oE b];by_cases h:s∈bm l l.length
 ·rw[if_pos h,if_pos h,if_pos h,qL];unfold dq;rw[if_neg (by simpa using RQ k)];rfl
 ·rw[if_neg h,if_neg h,if_neg h];rfl
theorem Ws(m:aG):(aY m).length=((gp m).length+47)/48:=by unfold aY gX;rw[qu,zx]
theorem aeV(x:Wl.bV):(iP x).length=6+x.name.size+x.tries.length:=by
 unfold iP;simp[co];omega
theorem YU{m:aG}(h:bO m=true):(gp m).length=14+m.drives.length+(m.objs.flatMap iP).length:=by
 unfold gp;rw[if_pos h];simp only[qx,co,q9,yt,qu];omega
theorem mP{p:Pm}{n:Int}(h:n<=p.1*p.2.2*8):countP p n<=8:=by
 unfold countP;split
 ·rename_i a;rw[qz,decide_eq_true_eq]at a;have:=(bM p).1 a.1;have b:0<p.1*p.2.2:=Int.mul_pos (by omega) (by omega);have:(n-1)/(p.1*p.2.2)<8:=Int.ediv_lt_of_lt_mul b (by rw[Int.mul_comm 8];omega);omega
 ·decide
theorem adC{m:aG}{x:Wl.bV}(h:gz m x=true):(iP x).length<=26:=by
 obtain⟨a,e,h3,c,d⟩:=(gC m x).1 h;have:=mP h3.2;have b:x.name.size<=12:=by unfold jv at a;simp at a;omega
 rw[aeV];omega
theorem CB{α β:Type}{f:α->List β}{c:Nat}:∀{l:List α},(∀x∈l,(f x).length<=c)->(l.flatMap f).length<=l.length*c
 |[],_=>by simp
 |x::l,h=>by
  have d:=h x qW;have b:=CB (l:=l) fun y a=>h y (qR _ a);rw[zl,qx,q9,zJ];omega
theorem abn{m:aG}(h:bO m=true):(aY m).length*48<=61+m.drives.length+m.objs.length*26:=by
 have:=CB (f:=iP) (l:=m.objs) fun x a=>adC (((bZ m).1 h).2.2.2.2.1 x a);have b:=YU h;rw[Ws];omega
theorem GS{m:aG}(h:bO m=true):(aY m).length<=9:=by
 have b:=abn h;have a:=kM h;have h3:=((bZ m).1 h).2.2.2.1;omega
theorem TB{α β:Type}(f:α->List β)(c:Nat)(n:Nat)(l:List α)(h:∀x∈l,(f x).length<=c)(a:l.length<=n):(l.flatMap f).length<=n*c:=q7 (CB h) (zu c a)
theorem TC(m:aG)(o:Int)(a:aC)(b:cD)(live:aC)(k:Int)(n:Nat):(gn m o a b live k n).length<=n*(m.p.1+m.extra).toNat:=by
 unfold gn;refine TB _ _ n _ (fun i _=>?_) (by simp);have:=congrArg yW (GO m o a b live k i);rw[qu,qu]at this;rw[<-this];refine q7 (qP _ _) ?_;rw[DG];exact ql _
def eC(m:aG)(offs:Int)(w:Pow)(ds:aT)(n:aG):Int×aG×Pow×aT:=
 if dC w offs then(14,m,w,ds)else if !bO n||decide (n.seq≠m.seq+1)then(1,m,w,ds)else
 let live:=bc ds n.drives;let N:Int->Int:=fun _=>((aY n).length:Int)
 if live=[]∨cH m ds live N=false then(7,m,w,ds)else
 if(makes m N live w ds).1≠0 then((makes m N live w ds).1,m,(makes m N live w ds).2)else
 let a:=layAll (bA n live) (makes m N live w ds).2.1 (makes m N live w ds).2.2
 (a.1,if a.1=0 then n else m,a.2)
theorem uG{m:aG}(h:bO m=true):cO m:=by
 obtain⟨q,k,h3,i,b,o,j⟩:=(bZ m).1 h;have p:=kM h;refine⟨by omega,by omega,fun e c=>?_⟩;obtain⟨a,f,d,l,n⟩:=(gC m e).1 (b e c);have:=mP d.2;have g:e.name.size<=12:=by unfold jv at a;simp at a;omega
 omega
section
variable {B:aB} {h0 h:Heap} {As:List HP} {a pw:Addr} {offs:Int} {da:List aO} {w:Pow} {ds:aT}
theorem TD(x:bD)(m:aG)(z:bD)(n:aG)(W:St B h0 As fun h=>dK h z n)(hz:cO m)(o:cO n)(ao:-1<=m.seq/\m.seq<=2^40)
  (H:aa B h0 h (aV bj a pw (aP x) offs da w ds::bU x m::As)):
  ac xx 30 #[xo (some a),eT z] h fun v h'=>v=xl xt (eC m offs w ds n).1/\
   ∃y,aa B h0 h' (aV bj a pw (aP y) offs da (eC m offs w ds n).2.2.1 (eC m offs w ds n).2.2.2::bU y (eC m offs w ds n).2.1::As):=by
 refine Be (some a) z ?_;unfold pc;refine H.boxed fun E I i=>(sH i).mono ?_;have i:=i.bC;rintro _ I ⟨rfl,rfl⟩;have i:aa B h0 I (aq E 59 (aP z)::aV bj a pw (aP x) offs da w ds::bU x m::As):=i;have u:dK I z n:=W.at [_,_,_] i;have R:dK I x m:=i.at 2 rfl;refine⟨_,rfl,bw (fun e=>?_) fun e1=>?_⟩
 ·have L:eC m offs w ds n=(14,m,w,ds):=by unfold eC;rw[if_pos e]
  rw[L];exact⟨rfl,x,i.bi 3 [1,2]⟩
 refine be ?_;refine⟨z,(i.box 0 rfl).aL _ rfl,(Jw z n I u o).mono ?_⟩;rintro _ h3 ⟨rfl,R3⟩;have D:=i.up R3.ai;have ah:=u.up R3.ai;have no:∀{h':Heap},aa B h0 h' (aq E 59 (aP z)::aV bj a pw (aP x) offs da w ds::bU x m::As)->(bO n=false∨n.seq≠m.seq+1)->(Value.int .i64 1=xl xt (eC m offs w ds n).1/\∃y,aa B h0 h' (aV bj a pw (aP y) offs da (eC m offs w ds n).2.2.1 (eC m offs w ds n).2.2.2::bU y (eC m offs w ds n).2.1::As)):=fun{h'} d hc=>by
  have L:eC m offs w ds n=(1,m,w,ds):=by
   unfold eC;rw[if_neg (by rw[e1];decide),if_pos];rcases hc with hc|hc
   ·rw[hc];rfl
   ·rw[decide_eq_true hc,xh]
  rw[L];exact⟨rfl,x,d.bi 3 [1,2]⟩
 refine⟨_,rfl,trivial,bh (fun e=>no D (.inl e)) fun e2=>?_⟩;have K:=D.box 0 rfl;have Z:=(aa.cB (D.bi 2 [1,0])).2;refine⟨z.1,K.cell0 rfl,a,rfl,x.1,Z.cell0 rfl,?_⟩;rw[u.seq,R.seq,ak (m.seq+1)];refine ca (fun e=>no D (.inr e)) fun e3=>?_;refine⟨_,K.cell rfl,?_⟩;have ad:=kM e2;have U:∀k∈n.drives,0<=k/\k<64:=im e2;refine(Ln z.2.2.2.2.2.2.1 n.drives ah.drives (by omega) (D.bi 2 [1,0])).mono ?_;rintro _ h5 ⟨t,rfl,R5⟩;obtain⟨live,b⟩:∃live,live=bc ds n.drives:=⟨_,rfl⟩
 rw[<-b]at R5;have am:live.length<=64:=by rw[b];exact q7 (qP _ _) ad
 have f:∀k∈live,0<=k/\k<64:=fun k X=>by rw[b]at X;exact U k (qB.1 X).1
 have Y:=(D.cS R5).bi 4 [2,3,0,1];refine⟨t,rfl,z,(Y.box 3 rfl).aL _ rfl,(kY z n h5 (W.at [_,_,_,_] Y) o).mono ?_⟩;rintro _ h6 ⟨pg,rfl,R6⟩;have r:=(aa.AZ R6).1;have J:=jb n o;obtain⟨p,M⟩:∃p,p=(aY n).length:=⟨_,rfl⟩
 rw[<-M]at r J;have H6:=Y.up R6.ai;refine⟨pg,rfl,H6.alloc ae rfl fun c h7 H7=>?_⟩;have H7:=H7.bC;refine H7.storeAll ae 0 rfl rfl [xl xt (pg.len:Int)] rfl rfl rfl rfl fun h8 j=>?_;rw[r]at j;have j:aa B h0 h8 (aV bj a pw (aP x) offs da w ds::bU x m::aq c 3 [xl xt (p:Int)]::ar 3 t 1 aD live::aq E 59 (aP z)::As):=j.bi 5 [1,2,0,3,4];obtain⟨T,q⟩:∃T,T=bU x m::aq c 3 [xl xt (p:Int)]::ar 3 t 1 aD live::aq E 59 (aP z)::As:=⟨_,rfl⟩
 have tX:St B h0 T fun h=>dK h x m:=by rw[q];exact St.dU 0 rfl fun _ s=>s
 have tN:St B h0 T fun h=>bX h c 3 [xl xt (p:Int)]:=by rw[q];exact St.dU (A:=aq c 3 [xl xt (p:Int)]) 1 rfl fun _ s=>s.1
 have Q:St B h0 T fun h=>Rd h t 1 aD live:=by rw[q];exact St.dU (A:=ar 3 t 1 aD live) 2 rfl fun _ s=>s.1.seq (fun _=>rfl) s.2
 have tM:St B h0 T fun h=>bX h E 59 (aP z):=by rw[q];exact St.dU (A:=aq E 59 (aP z)) 3 rfl fun _ s=>s.1
 have tY:St B h0 T fun h=>dK h z n:=by rw[q];exact W.cons.cons.cons.cons
 obtain⟨N,hN⟩:∃N:Int->Int,N=fun _=>(p:Int):=⟨_,rfl⟩
 have tT:St B h0 T fun h=>Pw 101 #[] #[xo (some c)] N live h:=fun Bs h' d k X=>by
  refine wt k c ?_;unfold nw;exact⟨(p:Int),(tN Bs h' d).cell0 rfl,by rw[hN],Sp.refl h'⟩
 have fin:∀{h':Heap} {w':Pow} {ds':aT},aa B h0 h' (aV bj a pw (aP x) offs da w' ds'::T)->aa B h0 h' (aV bj a pw (aP x) offs da w' ds'::bU x m::As):=fun{h' w' ds'} d=>by
  rw[q]at d;exact d.bi 5 [0,1]
 rw[<-q]at j;have L:eC m offs w ds n=(if live=[]∨cH m ds live N=false then(7,m,w,ds)else
   if(makes m N live w ds).1≠0 then((makes m N live w ds).1,m,(makes m N live w ds).2)else
   ((layAll (bA n live) (makes m N live w ds).2.1 (makes m N live w ds).2.2).1,if(layAll (bA n live) (makes m N live w ds).2.1 (makes m N live w ds).2.2).1=0 then n else m,(layAll (bA n live) (makes m N live w ds).2.1 (makes m N live w ds).2.2).2)):=by
  rw[hN,M,b];unfold eC;rw[if_neg (by rw[e1];decide),if_neg (by rw[e2,decide_eq_false (by simpa using e3)];decide)]
 rw[L];have G:=(Q.at [_] j).len;refine be (cI (fun e=>?_) fun e4=>?_)
 ·have:live=[]:=List.length_eq_zero_iff.1 (by omega);rw[if_pos (.inl this)];exact⟨rfl,x,fin j⟩
 have S:live≠[]:=fun h=>e4 (by rw[G,h];rfl);refine(Lw 101 #[] #[xo (some c)] N x m t live (by rfl) (fun Bs h' d=>⟨tX Bs h' d,tT Bs h' d⟩) hz (Q.at [_] j) (by omega) f j).mono ?_;rintro _ h9 ⟨rfl,R9⟩;have H9:=j.up R9.ai;refine⟨_,rfl,bh (fun g=>?_) fun g=>?_⟩
 ·rw[if_pos (.inr g)];exact⟨rfl,x,fin H9⟩
 rw[if_neg (by rintro(h|h);exact S h;rw[g]at h;cases h)];refine(Ly 101 #[] #[xo (some c)] N x m t live (by rfl) (fun Bs h' d=>⟨tX Bs h' d,tT Bs h' d,Q Bs h' d⟩) hz (by omega) f H9).mono ?_;rintro _ ap ⟨rfl,l⟩;obtain⟨P,ab⟩:∃P,P=makes m N live w ds:=⟨_,rfl⟩
 rw[<-ab]at l⊢;refine⟨_,rfl,ca (fun V=>?_) fun V=>?_⟩
 ·rw[if_pos V];exact⟨rfl,x,fin l⟩
 rw[if_neg (by simpa using V)];refine⟨z,(tM.at [_] l).aL _ rfl,(LA x z n t live (fun Bs h' d=>⟨tY Bs h' d,Q Bs h' d⟩) o (by omega) f l).mono ?_⟩;rintro _ ax ⟨rfl,Q1,Q0⟩;refine⟨_,rfl,rfl,?_⟩;by_cases O:(layAll (bA n live) P.2.1 P.2.2).1=0
 ·obtain⟨y2,F⟩:=Q0 O;rw[if_pos O];rw[q]at F;exact⟨y2,F.bi 6 [0,1]⟩
 ·rw[if_neg O];exact⟨x,fin (Q1 O)⟩
end
end Go.Qw
namespace Go.Vc
open Go Wl
section
variable {k:Kit} {B:aB} {h0 h:Heap} {As:List HP} {a pw b:Addr} {mc:aW} {offs:Int} {da:List aO} {w:Pow} {ds:aT} {d:bB} {n:Nat}
end
end Go.Vc
namespace Go.Qw
open Go Go.Vc Go.Proofs Wl
section
variable {B:aB} {h0 h:Heap} {As:List HP} {a pw b:Addr} {mc:aW} {offs:Int} {da:List aO} {w:Pow} {ds:aT} {d:bB}
theorem rD{p:aB}(s:Sl)(l:aC)(x:Int)(h:Heap)(g:Seq h p s 1 aD l)(n:l.length<=2^40:=by omega):ac xx 72 #[s,xl xt x] h fun v h'=>v=xq (decide (x∈l))/\h'=h:=by
 refine sv s x ?_;unfold lR;refine(xg s x (R:=fun v h'=>(∃i:Int,v=xl xt i/\(decide (i>=0)=decide (x∈l)))/\h'=h) ?_).mono ?_
 ·unfold nz;have k:=g.len;refine aw (fun i:Nat=>(i:Int)) (fun i h'=>i<=l.length/\x∉l.take i/\h'=h) (fun i=>l.length-i) 0 rfl ⟨by omega,by simp,rfl⟩ ?_;rintro i m ⟨f,b,rfl⟩;refine al (fun d=>?_) (fun d=>?_)
  ·have a:i<l.length:=by
    have j:(i:Int)<(s.len:Int):=d;omega
   refine g.bx i rfl a l[i] rfl ?_;refine cI (fun e=>⟨⟨i,rfl,?_⟩,rfl⟩) (fun e=>?_)
   ·rw[decide_eq_true (show(i:Int)>=0 by omega),decide_eq_true (by rw[e];exact qh a)]
   ·refine⟨i+1,by rw[ak _];rfl,⟨by omega,fun c=>?_,rfl⟩,by omega⟩;rw[aI _ _ a]at c;rcases qA.1 c with c|c
    ·exact b c
    ·exact e (qG.1 c)
  ·have j:¬(i:Int)<(s.len:Int):=d;rw[qi (by omega)]at b;exact⟨⟨-1,rfl,by rw[decide_eq_false b];rfl⟩,rfl⟩
 ·rintro _ m ⟨⟨i,rfl,f⟩,rfl⟩;exact⟨i,rfl,by rw[f],rfl⟩
theorem GU(H:aa B h0 h (aV bj a pw mc offs da w ds::As)):ac xx 71 #[xo (some a)] h fun v h'=>v=xq (dC w offs)/\h'=h:=by
 refine ON (some a) ?_;unfold Il;refine bw (fun e=>by cases e) fun _=>(Cv H).mono ?_;rintro _ _ ⟨rfl,rfl⟩;exact⟨_,rfl,rfl,rfl⟩
def gh(a cells:Int):Bool:=decide ((0<=a/\a<64)/\1<=cells/\cells<=512)
theorem TE(a cells:Int)(h:Heap):ac xx 167 #[xl xt a,xl xt cells] h fun v h'=>v=xq (gh a cells)/\h'=h:=by
 refine KN a cells ?_;unfold El gh;refine al (fun d=>al (fun b=>al (fun c=>⟨?_,rfl⟩) fun c=>⟨?_,rfl⟩) fun b=>⟨?_,rfl⟩) fun d=>⟨?_,rfl⟩
 ·congr 1;rw[decide_eq_decide];omega
 all_goals (rw[decide_eq_false (by omega)])
theorem TF(b cells:Int)(x:bD)(m:aG)(o:dK h x m)(i:cO m)(H:aa B h0 h (aV bj a pw (aP x) offs da w ds::As))(c:dC w offs=true∨gh b cells=false∨b∈m.drives):
  ac xx 83 #[xo (some a),xl xt b,xl xt cells] h fun v h'=>v=xl xt (if dC w offs then 14 else if gh b cells then 4 else 1)/\Sp h h' []:=by
 refine OO (some a) b cells ?_;unfold Im;have n:=i.dr;refine(GU H).mono ?_;rintro _ r ⟨rfl,rfl⟩;refine⟨_,rfl,bw (fun e=>⟨by rw[e];rfl,Sp.refl _⟩) fun e=>?_⟩;refine(Cu x m o i H).mono ?_;rintro _ s ⟨y,rfl,q⟩;refine⟨y,rfl,q.alloc ae rfl fun a3 h3 l=>?_⟩;refine l.storeAll ae 1 rfl rfl (aP y) rfl rfl rfl rfl fun g d=>?_;have d:Sp r g [bU y m,aq a3 59 (aP y)]:=d;refine(TE b cells g).mono ?_;rintro _ k ⟨rfl,rfl⟩;refine⟨_,rfl,bh (fun f=>⟨by rw[e,f];rfl,.zip d.ai⟩) fun f=>?_⟩;have p:dK k y m:=d.at 0 rfl;refine⟨y.2.2.2.2.2.2.1,(d.box 1 rfl).cell rfl,(rD _ m.drives b k p.drives).mono ?_⟩;rintro _ t ⟨rfl,rfl⟩;refine⟨_,rfl,bw (fun j=>⟨by rw[e,f];rfl,.zip d.ai⟩) fun j=>?_⟩;rcases c with c|c|c
 ·rw[e]at c;cases c
 ·rw[f]at c;cases c
 ·exact absurd c (of_decide_eq_false j)
theorem RR(b:Int)(x:bD)(m:aG)(k:dK h x m)(d:cO m)(H:aa B h0 h (aV bj a pw (aP x) offs da w ds::As))(c:dC w offs=true∨b∉bc ds m.drives):
  ac xx 82 #[xo (some a),xl xt b] h fun v h'=>v=xl xt (if dC w offs then 14 else 5)/\Sp h h' []:=by
 refine ML (some a) b ?_;unfold FQ;have i:=d.dr;refine(GU H).mono ?_;rintro _ n ⟨rfl,rfl⟩;refine⟨_,rfl,bw (fun e=>⟨by rw[e];rfl,Sp.refl _⟩) fun e=>?_⟩;refine(ez x m k d H).mono ?_;rintro _ j ⟨r,rfl,g⟩;have l:(bc ds m.drives).length<=m.drives.length:=qP _ _;refine⟨r,rfl,(rD r _ b j (g.seq 0 rfl fun _=>rfl)).mono ?_⟩;rintro _ h3 ⟨rfl,rfl⟩;refine⟨_,rfl,bh (fun f=>⟨by rw[e];rfl,.zip g.ai⟩) fun f=>?_⟩;rcases c with c|c
 ·rw[e]at c;cases c
 ·exact absurd (of_decide_eq_true f) c
end
end Go.Qw
namespace Go.Vc
open Go Wl
section
variable {k:Kit} {B:aB} {h0 h:Heap} {As:List HP} {a pw b:Addr} {mc:aW} {offs:Int} {da:List aO} {w:Pow} {ds:aT} {d:bB} {n:Nat}
theorem Wt(h8:mc.length=8):(dh mc pw offs da).set (10+n) (xo none)=dh mc pw offs (da.set n none):=by
 unfold dh;rw[zc _ _ (by omega),h8,show 10+n-8=n+1+1 by omega,zL,zL,List.map_set]
theorem aa.abo(ok:gm mc da ds)(q:n<64)(H:aa B h0 h (aq a k.tS (dh mc pw offs (da.set n none))::dN k.tP pw w::(gK k pw da ds++As))):aa B h0 h (aV k a pw mc offs (da.set n none) w (ds.set n none)::As):=by
 have o:=ok.la;have l:=ok.ls;have f:gm mc (da.set n none) (ds.set n none):=⟨ok.l8,by simp[o],by simp[l],fun i=>by
  by_cases c:n=i
  ·subst c;rw[qe,qe,zy (by omega),zy (by omega)];rfl
  ·have:=ok.same i;rw[qe,qe]at this⊢;rw[zN c,zN c];exact this⟩
 have m:=JA (k:=k) (pw:=pw) ok;have e:gK k pw (da.set n none) (ds.set n none)=(gK k pw da ds).set n emp:=by
  apply zD;intro j;simp only[gK,qX,List.getElem?_zipWith,List.length_zipWith];by_cases d:n=j
  ·subst d;rw[if_pos rfl,if_pos (by omega),if_pos rfl,if_pos (by omega),if_pos rfl,if_pos (by omega)];rfl
  ·simp[d]
 refine aa.sG f ?_;rw[e];obtain⟨L,g⟩:∃L,L=gK k pw da ds:=⟨_,rfl⟩
 rw[<-g]at H m⊢;have b:n<L.length:=by omega
 have H:=H.fO (n+2) (A:=L[n]) (D:=emp) (by rw[qy,qy,qm b,qd b]) (fun _ _=>trivial);have p:(aq a k.tS (dh mc pw offs (da.set n none))::dN k.tP pw w::(L++As)).set (n+2) emp=aq a k.tS (dh mc pw offs (da.set n none))::dN k.tP pw w::(L.set n emp++As):=by
  rw[zL,zL,List.set_append_left _ _ b]
 rw[p]at H;exact H
end
end Go.Vc
namespace Go.Qw
open Go Go.Vc Go.Proofs Wl
def mQ(m:aG)(l:aC):aG:={m with seq:=m.seq+1,drives:=l}
section
variable {B:aB} {h0 h:Heap} {As:List HP} {a pw b:Addr} {offs:Int} {da:List aO} {w:Pow} {ds:aT} {d:bB}
theorem RS(n:Nat)(c:n<64)(x:bD)(H:aa B h0 h (aV bj a pw (aP x) offs da w ds::As)):
  ac xx 41 #[xo (some a),xl xt n,xo none] h fun v h'=>v=.tuple #[]/\aa B h0 h' (aV bj a pw (aP x) offs (da.set n none) w (ds.set n none)::As):=by
 refine EI (some a) n none ?_;unfold tv;refine bw (fun _=>?_) fun e=>by cases e
 refine al (fun _=>al (fun _=>?_) fun e=>absurd (show(n:Int)<64 by omega) e) fun e=>absurd (show(n:Int)>=0 by omega) e;refine⟨a,rfl,⟨by omega,by omega⟩,?_⟩;rw[qo,zT];obtain⟨ok,f⟩:=Go.Vc.aa.rv H;have d:(a.add 10).add n=a.add (10+n):=by unfold Addr.add;simp[w8]
 rw[d];refine f.storeAt ae 0 rfl rfl rfl rfl rfl (by simp[ok.la];omega) fun h' b=>?_;rw[zC,Wt ok.l8]at b;exact⟨rfl,aa.abo ok c b⟩
theorem LM(x:bD)(m:aG)(i:dK h x m)(g:cO m)(H:aa B h0 h (aV bj a pw (aP x) offs da w ds::As)):
  ac xx 34 #[xo (some a)] h fun v h'=>∃(y:bD) (L:List (eK×Wl.bV)) (pool:List (Sl×aC)),v=eT y/\(y.1=m.seq/\y.2.1=m.next/\(y.2.2.1,y.2.2.2.1,y.2.2.2.2.1)=m.p/\y.2.2.2.2.2.1=m.extra)/\L.map zt=m.objs/\(∀p∈L,DA pool p)/\
   Sp h h' [eF 1 aD pool,ar 3 y.2.2.2.2.2.2.1 1 aD m.drives,ar 105 y.2.2.2.2.2.2.2 4 bI (L.map qJ)]:=by
 refine mh (some a) ?_;unfold ka;obtain⟨ok,f⟩:=aa.cB H;refine(Sp.refl h).alloc ae rfl fun s q b=>?_;have c:=f.ai b.ai f.lt;refine bw (fun e=>by cases e) (fun _=>⟨a,rfl,x,c.aL _ rfl,(rp x m q (i.up b.ai) g).mono ?_⟩);rintro _ r ⟨y,L,pool,rfl,n,l,k,o⟩;have j:=b.comp o;refine⟨y,rfl,?_⟩;refine j.store ae 0 rfl rfl 0 (aP y) rfl rfl rfl (by simp[Value.cells]) fun h3 d=>?_;exact⟨y,(d.box 0 rfl).aL _ rfl,y,L,pool,rfl,n,l,k,d.bK [1,2,3]⟩
end
section
variable {B:aB} {h0 h:Heap} {As:List HP} {a pw:Addr} {offs:Int} {da:List aO} {w:Pow} {ds:aT} {mc:aW}
theorem pE{k:Int}{d:bB}(e:bp ds k=some d)(H:aa B h0 h (aV bj a pw mc offs da w ds::As)):∃(b:Addr) (s g:Sl),iR da k=some b/\bX h b 161 (gW pw d s g)/\gx h s 1 aE d.l/\fV d:=by
 obtain⟨ok,_⟩:=aa.cB H;rcases lc ok k with⟨h1,_⟩|⟨n,d',b,rfl,hn,h1,h2,h3,h4⟩
 ·rw[h1]at e;cases e
 ·rw[h2]at e;injection e with e
  subst e;obtain⟨m,c,j⟩:=Go.Vc.aa.kP H h1;rw[h3]at c;injection c with c
  injection c with c
  subst c;obtain⟨f,s,g,i⟩:=aa.ui j;exact⟨b,s,g,h4,i.box 0 rfl,(i.bi 2 [1,0]).NB fun _=>rfl,f⟩
theorem RT{k:Int}(c:bp ds k=none)(H:aa B h0 h (aV bj a pw mc offs da w ds::As)):iR da k=none:=by
 obtain⟨ok,_⟩:=aa.cB H;rcases lc ok k with⟨_,h2⟩|⟨n,d',b,rfl,hn,h1,h2,h3,h4⟩
 ·exact h2
 ·rw[h2]at c;cases c
theorem pF{k:Int}(H:aa B h0 h (aV bj a pw mc offs da w ds::As)):ac xx 16 #[xo (some a),xl xt k] h fun v h'=>v=.pointer (iR da k)/\h'=h:=by
 obtain⟨ok,b⟩:=aa.cB H;exact lF k ok b
theorem RU{k:Int}{d:bB}{b:Addr}(x:bD)(m:aG)(j:bp ds k=some d)(n:iR da k=some b)(g:dK h x m)(f:cO m)(H:aa B h0 h (aV bj a pw mc offs da w ds::As)):
  ac xx 141 #[xo (some b),eT x] h fun v h'=>v=xq (mC m d.l)/\Sp h h' []:=by
 obtain⟨q,s,i,c,o,e,p⟩:=pE j H;rw[n]at c;injection c with c
 subst c;exact Wn b pw d s i x m h o e p g f
end
theorem aeW{a:aC}(b:a≠[])(id:Nat):kQ a id=a[id%a.length]'(yL _ (by cases a with|nil=>exact absurd rfl b|cons=>simp)):=by
 have d:0<a.length:=by cases a with|nil=>exact absurd rfl b|cons=>simp
 have c:=yL id d;unfold kQ Px;rw[if_neg (by rintro(h|h);exact b h;omega)];have e:((id:Int)%(a.length:Int)).toNat=id%a.length:=by omega
 rw[e,qe,qd c];rfl
def CC(a b c:Int):Int×Int×Int:=(1+a%6,1+b%3,1+c%9)
theorem Wu(a b c:Int)(h:Heap):ac xx 44 #[xl xt a,xl xt b,xl xt c] h fun v h'=>v=kh (CC a b c)/\Sp h h' []:=by
 refine vE a b c ?_;unfold nu;refine(Sp.refl h).alloc ae rfl fun x g e=>?_;refine(bQ a 6 g (by decide) (by decide)).mono ?_;rintro v f ⟨rfl,rfl⟩;refine⟨_,rfl,(bQ b 3 f (by decide) (by decide)).mono ?_⟩;rintro v h3 ⟨rfl,rfl⟩;refine⟨_,rfl,(bQ c 9 h3 (by decide) (by decide)).mono ?_⟩;rintro v i ⟨rfl,rfl⟩;refine⟨_,rfl,?_⟩;dsimp only;rw[ak _,ak _,ak _];refine e.storeAll ae 0 rfl rfl [xl xt (1+a%6),xl xt (1+b%3),xl xt (1+c%9)] rfl rfl rfl rfl fun j d=>?_;exact⟨CC a b c,(d.box 0 rfl).aL _ rfl,rfl,.zip d.ai⟩
theorem YV(a b c:Int):bL (CC a b c)=true:=by
 rw[bM];unfold CC;dsimp only;omega
end Go.Qw
