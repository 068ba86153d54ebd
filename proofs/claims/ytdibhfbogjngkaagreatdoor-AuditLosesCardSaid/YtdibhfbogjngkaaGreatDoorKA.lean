/- Lemmas for the proof of the law; no condition. -/
import Derived.Test.YtdibhfbogjngkaaGreatDoorTabS
import Derived.Test.YtdibhfbogjngkaaGreatDoorShelfA
import Derived.Test.YtdibhfbogjngkaaGreatDoorPlE
import Derived.Test.YtdibhfbogjngkaaGreatDoorPlF
import Derived.Test.YtdibhfbogjngkaaGreatDoorPlG
set_option linter.unusedVariables false
set_option linter.unusedSimpArgs false
open Go.Proofs.Tryz renaming prog -> xR
open Go.Value renaming agg -> xM, bool -> xL, int -> xH, pointer -> xJ, slice -> xI, string -> xK
open Go.IntKind renaming bits -> qk, i64 -> xN, signed -> ve, u32 -> xP, u64 -> xQ, u8 -> xO, wrap -> qc
open Option renaming getD_some -> xh, isSome_iff_exists -> y9, map_some -> qQ, some -> zS
open Int renaming fdiv -> qX, mul_le_mul -> yp, mul_nonneg -> vW, natCast_mul -> wG, ofNat_inj -> xm, tdiv -> wH, tmod -> wB, tmod_eq_emod_of_nonneg -> yO, tmod_lt_of_pos -> vG, toNat_natCast -> ql
open Nat renaming add_assoc -> w9, add_sub_cancel_left -> zr, le_refl -> qn, le_trans -> zi, lt_of_lt_of_le -> qM, mod_eq_of_lt -> wo, mod_lt -> y7, mul_le_mul_right -> zB, mul_one -> z6, sub_self -> zc, succ_mul -> zK, zero_le -> z7
open List renaming all_append -> yU, all_eq_false -> yA, all_eq_true -> qL, any_append -> yV, any_eq_true -> zV, append_assoc -> qp, append_nil -> qN, cons_append -> zt, drop_drop -> zE, drop_eq_getElem_cons -> qV, drop_of_length_le -> zf, eq_nil_of_length_eq_zero -> q9, exists_cons_of_length_eq_add_one -> yB, ext_getElem? -> zC, filter_append -> zk, filter_cons -> zp, filter_nil -> vl, flatMap_append -> zg, flatMap_cons -> zl, flatMap_nil -> wu, foldl_cons -> zy, foldl_nil -> wE, getD_eq_getElem?_getD -> qe, getElem?_append_left -> qm, getElem?_append_right -> qj, getElem?_cons_succ -> qu, getElem?_eq_getElem -> qd, getElem?_eq_none -> qZ, getElem?_eq_some_iff -> qo, getElem?_map -> qR, getElem?_range -> zu, getElem?_replicate -> wv, getElem?_set -> qY, getElem?_set_ne -> zG, getElem?_set_self -> zm, getElem?_zipWith -> wk, getElem_drop -> wA, getElem_mem -> qg, getElem_of_mem -> qH, getElem_take -> yq, getElem_zip -> vh, length -> vp, length_append -> qx, length_cons -> zo, length_drop -> za, length_filter_le -> qP, length_map -> qy, length_nil -> yE, length_range -> zA, length_set -> zj, length_take -> qU, length_zipWith -> vb, map_append -> qT, map_map -> yd, map_mergeSort -> vL, mem_append -> qz, mem_cons -> zd, mem_filter -> qI, mem_flatMap -> zJ, mem_map -> qw, mem_mergeSort -> yM, mem_of_getElem? -> yi, mem_range -> qG, mem_singleton -> qC, nil_append -> wm, pairwise_cons -> zF, range -> qE, range_succ -> zO, replicate -> qh, replicate_succ -> yt, set_append_right -> q7, set_cons_succ -> zx, set_cons_zero -> zq, take_append_drop -> qA, take_append_of_le_length -> z8, take_length -> q8, take_of_length_le -> qi
open BitVec renaming ofInt -> qD, ofInt_natCast -> yg, ofNat -> wP, toNat_ofNat -> wU
open Bool renaming and_eq_true -> qB, false_eq_true -> ze, false_or -> vD, not_false -> yl, not_true -> yk, true_and -> zU
open Prod renaming ext -> y5, fst -> qJ, snd -> zH
open Go.Instr renaming fill -> wL, storeAt -> qf
open UInt8 renaming ofNat -> yH, ofNat_toNat -> yY, toNat_inj -> wY, toNat_lt -> ya, xor_comm -> vt, zero_xor -> wF
set_option maxRecDepth 100000
open Option renaming some -> dB, none -> eH
open Bool renaming true -> eL, false -> eR
open Go renaming Addr -> fz
open Go.Vc renaming cellOf -> f7, Heap -> f8
open List renaming length -> ii
namespace Go.Vc
open Go Wl
abbrev Cells:=cP
abbrev powC(w:Pow)(l:Int):be:=[xL w.off,xL w.fuse.isSome,xH xN l,xH xN w.offs]
def MT(w:Pow)(l:Int):Prop:=∀k,w.fuse=dB k->l=k/\k<2^62
def de(t:Nat)(a:fz)(w:Pow):HP:=HP.ex λl:Int=>(aw a t (powC w l)).and (MT w l)
section
variable {B:aB} {h0 h h':f8} {As:List HP} {t:Nat} {a:fz} {w:Pow}
theorem aa.Dv(H:aa B h0 h (de t a w::As)):∃l,MT w l/\aa B h0 h (aw a t (powC w l)::As):=by obtain⟨l,H⟩:=H.DV;obtain⟨H,b⟩:=H.Ku;exact⟨l,b,H⟩
theorem aa.La{l:Int}(b:MT w l)(H:aa B h0 h (aw a t (powC w l)::As)):aa B h0 h (de t a w::As):=
 (H.toKu b).Gx (F:=λl:Int=>(aw a t (powC w l)).and (MT w l)) l
end
end Go.Vc
namespace Go.Qw
open Go Go.Vc Go.Proofs Wl
section
variable {B:aB} {h0 h h':f8} {As:List HP} {t:Nat} {a:fz} {w:Pow}
theorem Jg(l:Int)(b:cA h a 92 (powC w l)):ac xR 121 #[xJ (dB a)] h λv h'=>v=xL (!w.off)/\h'=h:=by refine Ho (dB a) ?_;unfold Ap;exact bv (λ_=>⟨a,i0,w.off,b.cell0 i0,i0,i0⟩) λe=>j0
theorem Qc(l:Int)(b:cA h a 92 (powC w l)):ac xR 41 #[xJ (dB a)] h λv h'=>v=xH xN w.offs/\h'=h:=by refine Ew (dB a) ?_;unfold tf;exact bv (λe=>j0) λ_=>⟨a,i0,w.offs,b.cell i0,i0,i0⟩
theorem Qd(h:f8):ac xR 9 #[] h λv h'=>∃a,v=xJ (dB a)/\Sp h h' [de 92 a Pow.new]:=by refine QP ?_;unfold JG;refine(Sp.refl h).boxed λa c b=>⟨a,i0,aa.La (l:=0) (w:=Pow.new) (λk e=>j0) b⟩
theorem HR(H:aa B h0 h (de 92 a w::As)):ac xR 170 #[xJ (dB a)] h λv h'=>v=xL w.step.1/\aa B h0 h' (de 92 a w.step.2::As):=by
 obtain⟨l,o,b⟩:=H.Dv;refine EE (dB a) ?_;unfold tt;refine(Jg l (b.box 0 i0)).mono ?_;rintro _ u ⟨rfl,rfl⟩;refine⟨_,i0,bm (λe=>?_) λe=>?_⟩
 ·have:w.step=(eR,w):=by unfold Pow.step;rw[f9 ln]
  rw[this];exact⟨i0,H⟩
 have g:w.off=eR:=ln
 refine⟨a,i0,_,(b.box 0 i0).cell i0,bm (λe2=>?_) λe2=>?_⟩
 ·have:w.step=(eL,w):=by
   unfold Pow.step;rw[g0 pb];cases d:w.fuse with
   |none=>rfl
   |some k=>rw[d]at e2;cases e2
  rw[this];exact⟨i0,H⟩
 obtain⟨k,d⟩:∃k,w.fuse=dB k:=y9.1 e2;obtain⟨rfl,x⟩:=o k d;have r:powC w (k:Int)=[xL eR,xL eL,xH xN k,xH xN w.offs]:=by simp[powC,g,d]
 rw[r]at b;refine⟨a,i0,_,(b.box 0 i0).cell i0,cu (λq=>?_) λq=>?_⟩
 ·have m:k=0:=i4
  subst m;have i:w.step=(eR,⟨eL,dB 0,qc xN (w.offs+1)⟩):=by unfold Pow.step;rw[g0 pb,d]
  rw[i];refine⟨a,i0,b.jB af 0 i0 i0 [xL eL] i0 i0 i0 i9 λt n=>?_⟩;refine⟨a,i0,w.offs,(n.box 0 i0).cell i0,a,i0,n.store af 0 i0 i0 3 [xH xN (qc xN (w.offs+1))] i0 i0 i0 (by simp[powC]) λh3 f=>⟨i0,?_⟩⟩;refine aa.La (l:=((0:Nat):Int)) (λs c=>by cases c;exact⟨i0,i5⟩) ?_;exact f
 ·obtain⟨j,rfl⟩:∃j,k=j+1:=⟨k-1,i4⟩
  have i:w.step=(eL,⟨eR,dB j,w.offs⟩):=by unfold Pow.step;rw[g0 pb,d]
  rw[i];refine⟨a,i0,_,(b.box 0 i0).cell i0,a,i0,b.store af 0 i0 i0 2 [xH xN (qc xN (((j+1:Nat):Int)-1))] i0 i0 i0 (by simp[powC]) λh3 f=>⟨i0,?_⟩⟩;refine aa.La (l:=(j:Int)) (λs c=>by cases c;exact⟨i0,i4⟩) ?_;rw[ak _]at f;have p:((j+1:Nat):Int)-1=(j:Int):=i4
  rw[p]at f;exact f
end
abbrev Pm:=Int×Int×Int
abbrev jU(p:Pm):Value:=xM #[xH xN p.1,xH xN p.2.1,xH xN p.2.2]
theorem dM(p:Pm)(h:f8):ac xR 40 #[jU p] h λv h'=>v=xL (bI p)/\Sp h h' []:=by refine VA p ?_;unfold PS;refine(Sp.refl h).boxed λa d i=>?_;have e:=i.box 0 i0;have c:Sp h d []:=.zip i.ai;have g:f7 d a=dB (xH xN p.1):=e.cell0 i0;have j:f7 d (a.add 1)=dB (xH xN p.2.1):=e.cell i0;have f:f7 d (a.add 2)=dB (xH xN p.2.2):=e.cell i0;unfold bI;refine⟨_,g,aj (λb=>?_) λb=>⟨o4,c⟩⟩;rw[g9 b];refine⟨_,g,aj (λb=>?_) λb=>⟨o4,c⟩⟩;rw[g9 b];refine⟨_,j,aj (λb=>?_) λb=>⟨o4,c⟩⟩;rw[g9 b];refine⟨_,j,aj (λb=>?_) λb=>⟨o4,c⟩⟩;rw[g9 b];refine⟨_,f,aj (λb=>?_) λb=>⟨o4,c⟩⟩;rw[g9 b];exact⟨_,f,i0,c⟩
abbrev lx:bL C.toCM 22 3 1 [xH xN 0] 8:=⟨_,_,i0,i0,i0,i0,i0,i0⟩
abbrev gj:bL C.toCM 34 5 1 [xH xO 0] 1:=⟨_,_,i0,i0,i0,i0,i0,i0⟩
abbrev fj:bL C.toCM 85 34 1 [xI eH 0 0] 24:=⟨_,_,i0,i0,i0,i0,i0,i0⟩
theorem jy(s:Sl)(l:aF)(h:f8)(b:Rd h s 1 aC l)(f:ii l<=2^30):ac xR 128 #[s] h λv h'=>∃r:Sl,v=r/\Sp h h' [aq 3 r 1 aC l]:=by
 refine Aq s ?_;unfold od;refine bv (λe=>?_) (λe=>?_)
 ·have:=b.isNil e;subst this;exact⟨⟨eH,0,0⟩,i0,(Sp.refl h).nil 3 1 aC⟩
 ·refine(Sp.refl h).lit af aC lx i0 [] i0 i5 i0 λj i a=>?_;refine a.append af 0 i0 lx ⟨_,_,i0,i0⟩ i0 i5 (λ_=>rfl) (b.up a.ai) ir i7 λc g d=>⟨c,i0,d⟩
theorem eI(s:Sl)(l:bc)(h:f8)(b:Rd h s 1 aE l)(f:ii l<=2^30):ac xR 146 #[s] h λv h'=>∃r:Sl,v=r/\Sp h h' [aq 5 r 1 aE l]:=by
 refine Mz s ?_;unfold FC;refine bv (λe=>?_) (λe=>?_)
 ·have:=b.isNil e;subst this;exact⟨⟨eH,0,0⟩,i0,(Sp.refl h).nil 5 1 aE⟩
 ·refine(Sp.refl h).lit af aE gj i0 [] i0 i5 i0 λj i a=>?_;refine a.append af 0 i0 gj ⟨_,_,i0,i0⟩ i0 i5 (λ_=>rfl) (b.up a.ai) gH i7 λc g d=>⟨c,i0,d⟩
theorem HT{e:TypeId}(s:Sl)(l:aF)(h:f8)(c:Own h e s 1 aC l)(a:ii l<2^40):ac xR 148 #[s] h λv h'=>v=.tuple #[]/\Own h' e s 1 aC (gK l)/\aV (λb=>¬s.on b) h h':=
 Sy Tryz.slices_Sort_int Tryz.slices_Sort_int_none c a
theorem bZ(x n:Int)(h:f8)(b:0<n)(f:n<=2^62):ac xR 12 #[xH xN x,xH xN n] h λv h'=>v=xH xN (x%n)/\h'=h:=by
 refine uN x n ?_;unfold nJ;have g:=vG x b;have e:-n<x.tmod n:=Int.lt_tmod_of_pos x b;have d:=Sm x n b;refine⟨i4,bg ?_⟩;refine aj (λa=>?_) (λc=>?_)
 ·rw[ak _];exact⟨by rw[d,f9 a],i0⟩
 ·exact⟨by rw[d,g0 c],i0⟩
theorem fF.take{α:Type}{h:f8}{s:Sl}{k:Nat}{f:α->be}{d:List (List α)}(a:fF h s k f d)(n:Nat)(g:n<=ii d):fF h ⟨s.ptr,n,s.cap⟩ k f (d.take n):=by
 obtain⟨rs,a⟩:=a;have j:=a.len;refine⟨rs.take n,a.top.take n i4,i7,λi r l b c=>?_⟩;rw[List.getElem?_take]at b c;split at b
 ·rename_i e;rw[f9 e]at c;exact a.row i r l b c
 ·cases b
end Go.Qw
namespace Wl
structure eV (d:bw):Prop where
 wait:d.wait<=ii d.l
 len:ii d.l<=d.room
 room:d.room<=512
 cell:∀c∈d.l,ii c=64
 laid:ii d.laid<=d.room
 cellL:∀c∈d.laid,ii c=64
section
variable {d:bw} {w:Pow} {b:bc}
theorem eV.new{n:Nat}(h:n<=512):eV (bw.new n):=⟨qn _,z7 _,h,by simp[bw.new],z7 _,by simp[bw.new]⟩
theorem eV.append(h:eV d):eV (d.append w b).2.2:=by
 obtain⟨j,i,h3,f,g,e⟩:=h;unfold bw.append;split
 ·exact⟨j,i,h3,f,g,e⟩
 ·rename_i k;split
  ·exact⟨j,i,h3,f,g,e⟩
  ·split
   ·exact⟨j,i,h3,f,g,e⟩
   ·rename_i m;split
    ·exact⟨j,i,h3,f,g,e⟩
    ·have a:∀c∈d.l++[b],ii c=64:=λc a=>by
      rcases qz.1 a with a|a
      ·exact f c a
      ·rw[qC.1 a];omega
     split
     ·exact⟨i7,i7,h3,a,z7 _,i9⟩
     ·exact⟨i7,i7,h3,a,g,e⟩
theorem eV.sync(h:eV d):eV (d.sync w).2.2:=by
 obtain⟨f,a,h3,b,e,c⟩:=h;unfold bw.sync;split
 ·exact⟨f,a,h3,b,e,c⟩
 ·split
  ·exact⟨z7 _,a,h3,b,z7 _,i9⟩
  ·exact⟨f,a,h3,b,e,c⟩
theorem eV.rewrite{l:cP}(h:eV d):eV (d.rewrite w l).2.2:=by
 obtain⟨e,a,h3,b,g,f⟩:=h;unfold bw.rewrite;split
 ·exact⟨e,a,h3,b,g,f⟩
 ·rename_i i;have i:∀c∈l,ii c=64:=by simpa using i
  split
  ·exact⟨e,a,h3,b,g,f⟩
  ·split
   ·exact⟨e,a,h3,b,g,f⟩
   ·split
    ·exact⟨e,a,h3,b,g,f⟩
    ·split
     ·exact⟨z7 _,i6,h3,i,z7 _,i9⟩
     ·exact⟨e,a,h3,b,i6,i⟩
end
end Wl
namespace Go.Vc
open Go Wl Go.Qw
abbrev dN(s:Sl)(l:Cells):HP:=gy 34 s 5 1 aE l
def ie(t:Nat)(f:bw->Sl->Sl->be)(a:fz)(d:bw):HP:=
 (HP.ex λb:Sl×Sl=>(aw a t (f d b.1 b.2)).sep ((dN b.1 d.l).sep (dN b.2 d.laid))).and (eV d)
section
variable {B:aB} {h0 h h':f8} {As:List HP} {t:Nat} {f:bw->Sl->Sl->be} {a:fz} {d:bw}
theorem aa.rj(H:aa B h0 h (ie t f a d::As)):eV d/\∃s b:Sl,aa B h0 h (aw a t (f d s b)::dN s d.l::dN b d.laid::As):=by obtain⟨H,ok⟩:=H.Ku;obtain⟨c,H⟩:=H.DV;exact⟨ok,c.1,c.2,H.Gy.Gy.bs 3 [2,1,0]⟩
theorem aa.AE{s b:Sl}(ok:eV d)(H:aa B h0 h (aw a t (f d s b)::dN s d.l::dN b d.laid::As)):aa B h0 h (ie t f a d::As):=
 ((((H.bs 3 [2,1,0]).ov).ov).Gx (F:=λc:Sl×Sl=>(aw a t (f d c.1 c.2)).sep ((dN c.1 d.l).sep (dN c.2 d.laid))) (s,b)).toKu ok
end
end Go.Vc
namespace Go.Qw
open Go Go.Vc Go.Proofs Wl
abbrev ff(pw:fz)(d:bw)(s b:Sl):be:=[xJ (dB pw),xH xN d.room,s,xH xN d.wait,b,xL d.has,xL d.lost]
abbrev iI(pw a:fz)(d:bw):HP:=ie 156 (ff pw) a d
section
variable {B:aB} {h0 h h':f8} {As:List HP} {a pw:fz} {d:bw} {w:Pow}
theorem MU(n:Int)(pw:fz)(h:f8):ac xR 43 #[xH xN n,xJ (dB pw)] h λv h'=>
  (1<=n/\n<=512->∃a,v=xJ (dB a)/\Sp h h' [iI pw a (bw.new n.toNat)])/\(¬(1<=n/\n<=512)->v=xJ eH/\Sp h h' []):=by
 refine QQ n (dB pw) ?_;unfold JH;refine bg (aj (λe=>⟨λc=>absurd c i4,λ_=>⟨i0,Sp.refl h⟩⟩) λg=>aj (λe=>⟨λc=>absurd c i4,λ_=>⟨i0,Sp.refl h⟩⟩) λe2=>bv (λe=>j0) λ_=>?_);refine(Sp.refl h).boxed λa i f=>⟨λ_=>⟨a,i0,?_⟩,λc=>absurd i4 c⟩
 refine aa.AE (s:=⟨eH,0,0⟩) (b:=⟨eH,0,0⟩) (eV.new i4) ?_;have e:((n.toNat:Nat):Int)=n:=i4
 have d:=((f.xT 34 5 1 aE).xT 34 5 1 aE).bs 3 [2,1,0];have e2:ff pw (bw.new n.toNat) ⟨eH,0,0⟩ ⟨eH,0,0⟩=[xJ (dB pw),xH xN n,xI eH 0 0,xH xN 0,xI eH 0 0,xL eR,xL eR]:=by simp only[ff,bw.new,e];rfl
 rw[e2];exact d
theorem HU(s b:Sl)(c:bw)(H:aa B h0 h (aw a 156 (ff pw d s b)::dN s d.l::dN b d.laid::de 92 pw w::As))(ok:eV d)(f:c={d with laid:=[],has:=eR}):
  ac xR 171 #[xJ (dB a)] h λv h'=>v=xH xN 0/\aa B h0 h' (iI pw a c::de 92 pw w::As):=by
 refine EF (dB a) ?_;unfold tu;refine⟨a,i0,H.store af 0 i0 i0 4 [xI eH 0 0] i0 i0 i0 lz λi e=>?_⟩;refine⟨a,i0,e.store af 0 i0 i0 5 [xL eR] i0 i0 i0 lz λh3 g=>⟨i0,?_⟩⟩;subst f;refine aa.AE (s:=s) (b:=⟨eH,0,0⟩) ⟨ok.wait,ok.len,ok.room,ok.cell,z7 _,i9⟩ ?_;exact((g.xT 34 5 1 aE).bs 5 [1,2,0,4])
theorem VJ(x:Sl)(row:bc)(H:aa B h0 h (iI pw a d::de 92 pw w::As))(N:Rd h x 1 aE row)(hr:ii row<=2^20):
  ac xR 102 #[xJ (dB a),x] h λv h'=>v=xH xN (d.append w row).1/\aa B h0 h' (iI pw a (d.append w row).2.2::de 92 pw (d.append w row).2.1::As):=by
 refine oc (dB a) x ?_;unfold lT;have W:=N.len;obtain⟨ok,s,b,z⟩:=H.rj;have m:=z.box 0 i0;obtain⟨S,_⟩:=aa.xU (z.bs 4 [1]);have K:=ok.room;have O:=ok.len;have F:=ok.wait;have g:∀(e:Int),d.append w row=(e,w,d)->(Value.int .i64 e=xH xN (d.append w row).1/\aa B h0 h (iI pw a (d.append w row).2.2::de 92 pw (d.append w row).2.1::As)):=λe V=>by
  rw[V];exact⟨i0,H⟩
 refine bg (cv (λe=>g 1 (by unfold bw.append;rw[f9 i4])) λR=>?_);have n:ii row=64:=i4
 refine bg (bv (λe=>j0) λ_=>⟨a,i0,d.lost,m.cell i0,bv (λe=>g 5 ?_) λf=>?_⟩)
 ·unfold bw.append;rw[g0 i4,f9 e]
 refine⟨a,i0,s,m.cell i0,a,i0,(d.room:Int),m.cell i0,aj (λe=>g 7 ?_) λG=>?_⟩
 ·unfold bw.append;rw[g0 i4,g0 nq,f9 i4]
 obtain⟨l,hl,M⟩:=(z.bs 4 [3,0,1,2]).Dv;refine⟨a,i0,dB pw,m.cell0 i0,(Jg l (M.box 0 i0)).mono ?_⟩;rintro _ Q ⟨rfl,rfl⟩;refine⟨_,i0,bm (λe=>g 14 ?_) λt=>?_⟩
 ·unfold bw.append;rw[g0 i4,g0 nq,g0 i4,f9 ln]
 have k:w.off=eR:=qa
 refine bg ⟨a,i0,s,m.cell i0,(eI x row Q N i4).mono ?_⟩;rintro _ Z ⟨r,rfl,T⟩;have D:=(z.cD T).bs 5 [2,0,1,3,4];have q:=D.box 2 i0;refine⟨r,i0,⟨q.cell i0,trivial⟩,?_⟩;have X:=D;refine D.oO af bt fj i0 [r] i0 (show 1*1<=2^20 by decide) i0 ⟨q.cell i0,trivial⟩ ?_;refine D.DW af fj i4 λE h6 I=>⟨trivial,?_⟩
 have I:=I.bs 4 [1,0,2,3];refine⟨a,i0,I.store af 0 i0 i0 2 [E] i0 i0 i0 lz λh7 P=>⟨trivial,?_⟩⟩;have L:=P.box 0 i0;refine⟨a,i0,(d.wait:Int),L.cell i0,a,i0,?_⟩;rw[ak ((d.wait:Int)+1)];refine P.store af 0 i0 i0 3 [xH xN ((d.wait:Int)+1)] i0 i0 i0 lz λh8 U=>?_;obtain⟨i,j⟩:∃i:bw,i={d with l:=d.l++[row],wait:=d.wait+1}:=⟨_,rfl⟩
 have y:eV i:=by
  subst j;refine⟨i7,i7,ok.room,λc p=>?_,ok.laid,ok.cellL⟩;rcases qz.1 p with p|p
  ·exact ok.cell c p
  ·rw[qC.1 p];exact n
 have o:aa B h0 h8 (aw a 156 (ff pw i E b)::dN E i.l::dN b i.laid::de 92 pw w::As):=by rw[j];exact U
 refine⟨a,i0,dB pw,(o.box 0 i0).cell0 i0,(HR (o.bs 4 [3,0,1,2])).mono ?_⟩;rintro _ h9 ⟨rfl,A⟩;have A:=A.bs 4 [1,2,3,0];have u:d.append w row=if w.step.1 then(0,w.step.2,{i with laid:=[],has:=eR})else(14,w.step.2,i):=by rw[j];unfold bw.append;rw[g0 i4,g0 nq,g0 i4,g0 (by simp[k])]
 rw[u];refine⟨_,i0,bm (λe=>?_) λe=>?_⟩
 ·rw[e];exact⟨i0,A.AE y⟩
 ·rw[e];refine(HU E b _ A y i0).mono ?_;rintro _ Y ⟨rfl,J⟩;exact⟨0,i0,i0,J⟩
theorem OU(x:Sl)(row:bc)(h:f8)(a:Rd h x 1 aE row):ac xR 102 #[xJ eH,x] h λv h'=>v=xH xN (if row.length≠64 then 1 else 5)/\h'=h:=by refine oc eH x ?_;unfold lT;have b:=a.len;refine bg (cv (λe=>⟨by rw[f9 i4],i0⟩) λe=>?_);exact bg (bv (λ_=>⟨by rw[g0 i4],i0⟩) λe=>j0)
theorem aaE(H:aa B h0 h (iI pw a d::de 92 pw w::As)):
  ac xR 173 #[xJ (dB a)] h λv h'=>v=xH xN (d.sync w).1/\aa B h0 h' (iI pw a (d.sync w).2.2::de 92 pw (d.sync w).2.1::As):=by
 refine ra (dB a) ?_;unfold mZ;obtain⟨ok,s,b,j⟩:=H.rj;have i:=j.box 0 i0;refine bg (bv (λe=>j0) λ_=>⟨a,i0,d.lost,i.cell i0,bv (λe=>?_) λc=>?_⟩)
 ·have:d.sync w=(5,w,d):=by unfold bw.sync;rw[f9 e]
  rw[this];exact⟨i0,H⟩
 refine⟨a,i0,dB pw,i.cell0 i0,(HR (j.bs 4 [3,0,1,2])).mono ?_⟩;rintro _ m ⟨rfl,g⟩;have g:=g.bs 4 [1,2,3,0];have f:d.sync w=if w.step.1 then(0,w.step.2,{{d with wait:=0}with laid:=[],has:=eR})else(14,w.step.2,d):=by unfold bw.sync;rw[g0 n7]
 rw[f];refine⟨_,i0,bm (λe=>?_) λe=>?_⟩
 ·rw[e];exact⟨i0,g.AE ok⟩
 ·rw[e];refine⟨a,i0,g.store af 0 i0 i0 3 [xH xN 0] i0 i0 i0 lz λh3 k=>?_⟩;refine(HU (d:={d with wait:=0}) s b _ k ⟨z7 _,ok.len,ok.room,ok.cell,ok.laid,ok.cellL⟩ rfl).mono ?_;rintro _ n ⟨rfl,l⟩;exact⟨0,i0,i0,l⟩
theorem TJ(h:f8):ac xR 173 #[xJ eH] h λv h'=>v=xH xN 5/\h'=h:=by refine ra eH ?_;unfold mZ;exact bg (bv (λ_=>⟨i0,i0⟩) λe=>j0)
theorem iI.box(H:aa B h0 h (iI pw a d::As)):∃s b:Sl,cA h a 156 (ff pw d s b)/\fF h s 1 aE d.l/\s.len=ii d.l:=by obtain⟨ok,s,b,c⟩:=H.rj;exact⟨s,b,c.box 0 i0,(c.bs 3 [1]).LH λ_=>rfl,(aa.xU (c.bs 3 [1])).1⟩
theorem aaF(s b:Sl)(c:cA h a 156 (ff pw d s b)):ac xR 244 #[xJ (dB a)] h λv h'=>v=xH xN d.room/\h'=h:=by refine EH (dB a) ?_;unfold tw;exact bv (λe=>j0) λ_=>⟨a,i0,_,c.cell i0,i0,i0⟩
theorem Qe(s b:Sl)(c:cA h a 156 (ff pw d s b))(f:s.len=ii d.l):ac xR 191 #[xJ (dB a)] h λv h'=>v=xH xN (ii d.l:Int)/\h'=h:=by refine Gb (dB a) ?_;unfold ux;exact bv (λe=>j0) λ_=>⟨a,i0,_,c.cell i0,by rw[f],i0⟩
theorem HV(s b:Sl)(c:cA h a 156 (ff pw d s b)):ac xR 149 #[xJ (dB a)] h λv h'=>v=xL d.lost/\h'=h:=by refine ED (dB a) ?_;unfold tq;exact bv (λ_=>⟨a,i0,_,c.cell i0,i0,i0⟩) λe=>j0
theorem aaG(s b:Sl)(i:Int)(j:cA h a 156 (ff pw d s b))(k:fF h s 1 aE d.l)(p:∀c∈d.l,ii c=64):ac xR 77 #[xJ (dB a),xH xN i] h λv h'=>∃r:Sl,v=r/\Sp h h' [aq 5 r 1 aE (if 0<=i then d.l.getD i.toNat []else[])]:=by
 refine pU (dB a) i ?_;unfold mV;have o:=k.len;have f:(if 0<=i then d.l.getD i.toNat []else[])=[]->∃r:Sl,Value.slice eH 0 0=xI r.ptr r.len r.cap/\Sp h h [aq 5 r 1 aE (if 0<=i then d.l.getD i.toNat []else[])]:=λe=>by
  rw[e];exact⟨⟨eH,0,0⟩,i0,(Sp.refl h).nil 5 1 aE⟩
 refine bg (bv (λe=>j0) λ_=>aj (λe=>f (by rw[g0 i4])) λt=>⟨a,i0,s,j.cell i0,aj (λe=>f ?_) λe2=>?_⟩)
 ·rw[f9 i4,qe,qZ i4];rfl
 ·refine⟨a,i0,s,j.cell i0,k.get i.toNat i4 i4 λr q=>?_⟩;have g:i.toNat<ii d.l:=i4
  have:=p _ (qg g);refine(eI r _ h q i4).mono ?_;rintro _ u ⟨m,rfl,n⟩;rw[f9 i4,getD_lt g];exact⟨m,i0,m,i0,n⟩
theorem Lb(l:Sl)(a:Cells)(h:f8)(f:fF h l 1 aE a)(w:ii a<=2^20)(n:∀c∈a,ii c<=2^20):ac xR 167 #[l] h λv h'=>∃r:Sl,v=r/\Sp h h' [dN r a]:=by
 refine Rg l ?_;unfold JV;have k:=f.len;refine av (λt:Sl×Nat=>(t.1,(t.2:Int))) (λt h'=>t.2<=ii a/\Sp h h' [dN t.1 (a.take t.2)]) (λt=>ii a-t.2) (⟨eH,0,0⟩,0) i0 ⟨i9,by simpa using(Sp.refl h).xT 34 5 1 aE⟩ ?_;rintro⟨s,i⟩ p ⟨x,d⟩;dsimp only at*;refine aj (λe=>?_) (λe=>?_)
 ·have b:i<ii a:=i4
  refine(f.up d.ai).get i i0 b λr o=>?_;have:=n _ (qg b);refine(eI r _ p o i4).mono ?_;rintro _ u ⟨g,rfl,j⟩;refine⟨g,i0,?_⟩;refine aa.DW af (d.comp j) fj i7 λq h3 m=>?_;refine⟨(q,i+1),jj,⟨i6,?_⟩,i6⟩;dsimp only;rw[aK _ _ b];exact m
 ·rw[qi i4]at d;exact⟨s,i0,d⟩
theorem TK(s b:Sl)(f:cA h a 156 (ff pw d s b))(j:fF h s 1 aE d.l)(ok:eV d):ac xR 96 #[xJ (dB a)] h λv h'=>∃r:Sl,v=r/\Sp h h' [dN r d.l]:=by
 refine FZ (dB a) ?_;unfold uv;have:=ok.len;have:=ok.room;refine bv (λe=>j0) λ_=>⟨a,i0,s,f.cell i0,(Lb s d.l h j i4 λc i=>by rw[ok.cell c i];decide).mono ?_⟩
 rintro _ k ⟨r,rfl,g⟩;exact⟨r,i0,r,i0,g⟩
end
theorem adk(b:Sl)(l:bc)(h:f8)(q:Rd h b 1 aE l)(B:ii l<=2^40):ac xR 213 #[b] h λv h'=>v=xH xP (md l).toNat/\h'=h:=by
 refine VG b ?_;unfold PZ;have A:=q.len;refine av (λt:Nat=>(((kQ (l.take t)).toNat:Int),(t:Int))) (λt h'=>t<=ii l/\h'=h) (λt=>ii l-t) 0 i0 ⟨i4,i0⟩ ?_;rintro i y ⟨D,rfl⟩;refine aj (λe=>?_) (λe=>?_)
 ·have d:i<ii l:=by have r:(i:Int)<(b.len:Int):=e;omega
  refine q.bB i i0 d (l[i].toNat:Int) i0 ?_;have u:qc xP (l[i].toNat:Int)=((wP 32 l[i].toNat).toNat:Int):=by rw[PC,yg]
  rw[u,XP];refine av (λk:Nat=>(((dS k (kQ (l.take i)^^^wP 32 l[i].toNat)).toNat:Int),(k:Int))) (λk h'=>k<=8/\h'=y) (λk=>8-k) 0 i0 ⟨i4,i0⟩ ?_;rintro k p ⟨E,rfl⟩;obtain⟨c,j⟩:∃c,c=dS k (kQ (l.take i)^^^wP 32 l[i].toNat):=⟨_,rfl⟩
  dsimp only;rw[<-j];refine aj (λe2=>⟨i5,?_⟩) (λe2=>?_)
  ·have a:∀n:jl,n=jD c->∃f:Nat,(((n.toNat:Nat):Int),qc xN ((k:Int)+1))=(((dS f (kQ (l.take i)^^^wP 32 l[i].toNat)).toNat:Int),(f:Int))/\(f<=8/\p=p)/\8-f<8-k:=λn z=>
    ⟨k+1,by rw[ak _,z,j];rfl,⟨i4,i0⟩,i4⟩
   have w:qc xP ((qD (qk xP) (c.toNat:Int)&&&qD (qk xP) (1:Int)).toNat:Nat)=((c&&&1#32).toNat:Int):=aim c 1#32;have s:qc xP ((qD (qk xP) ((c>>>1).toNat:Int)^^^qD (qk xP) (3988292384:Int)).toNat:Nat)=(((c>>>1)^^^3988292384#32).toNat:Int):=XP (c>>>1) 3988292384#32;rw[w,afy,s];refine cu (λo=>a _ ?_) (λo=>a _ ?_)
   ·unfold jD;rw[f9 ((WS c).1 o)]
   ·unfold jD;rw[g0 λx=>o ((WS c).2 x)]
  ·have m:k=8:=i4
   subst m;refine⟨i+1,?_,⟨i4,i0⟩,i4⟩;rw[ak _,aK _ _ d,XO,j];rfl
 ·have g:i=ii l:=by have r:¬(i:Int)<(b.len:Int):=e;omega
  subst g;refine⟨?_,i0⟩;rw[q8];exact congrArg (Value.int .u32) (XP 4294967295#32 (kQ l))
theorem HW(kind:Int)(a:Sl)(l:bc)(h:f8)(w:Rd h a 1 aE l)(Q:ii l<=2^40:=by omega):ac xR 147 #[xH xN kind,a] h λv h'=>∃r:Sl,v=r/\Sp h h' [aq 5 r 1 aE (ey kind l)]:=by
 refine TB kind a ?_;unfold MB;have L:=w.len;have f:¬(1<=kind/\kind<=255/\l.length<=55)->∃r:Sl,Value.slice eH 0 0=xI r.ptr r.len r.cap/\Sp h h [aq 5 r 1 aE (ey kind l)]:=λe=>by
  unfold ey;rw[g0 e];exact⟨⟨eH,0,0⟩,i0,(Sp.refl h).nil 5 1 aE⟩
 refine bg (aj (λe=>f i4) λM=>aj (λe=>f i4) λe2=>aj (λe=>f i4) λN=>?_);refine(Sp.refl h).make af aE gj i5 0 i0 i0 64 64 i0 i0 (qn _) i5 λo u t p H=>?_;rw[dR];refine H.lit af aE gj i0 [87,115,1,b8 kind] i0 (show 4*1<=2^20 by decide) i0 λv3 h3 x=>?_;refine x.LD af 0 i0 gj (λ_=>rfl) (x.seq 1 i0 λ_=>rfl) gH λ_ k j=>⟨⟨i5,by rw[t];decide⟩,?_⟩
 have j:Sp h k [aq 5 o 1 aE ([87,115,1,b8 kind]++qh 60 0)]:=by have:=j.ck [0];simpa using this
 refine j.SD af 0 i0 gj (λ_=>rfl) (Seq.up w j.ai) gH 4 i9 i0 i0 λ_ z s=>⟨⟨i5,by rw[p];decide⟩,?_⟩
 have I:([87,115,1,b8 kind]++qh 60 0).take 4++(l.take (ii ([87,115,1,b8 kind]++qh 60 (0:UInt8))-4)++([87,115,1,b8 kind]++qh 60 0).drop (4+ii l))=dI kind l++qh 5 0:=by
  have F:ii ([87,115,1,b8 kind]++qh 60 (0:UInt8))=64:=i9
  rw[F,qi (l:=l) i4,<-zE];have u:([87,115,1,b8 kind]++qh 60 (0:UInt8)).drop 4=qh 60 0:=rfl;have h3:([87,115,1,b8 kind]++qh 60 (0:UInt8)).take 4=[87,115,1,b8 kind]:=rfl;rw[u,h3,List.drop_replicate];unfold dI;have k:qh (60-ii l) (0:UInt8)=qh (55-ii l) 0++qh 5 0:=by rw[List.replicate_append_replicate];congr 1;omega
  rw[k];simp[qp]
 rw[I]at s;have b:ii (dI kind l)=59:=Aa i4;have E:Rd z ⟨o.ptr,59,o.cap⟩ 1 aE (dI kind l):=by have:=(s.seq 0 i0 λ_=>rfl).take 59 ns;rw[z8 i4,qi i4]at this;exact this
 refine(adk ⟨o.ptr,59,o.cap⟩ (dI kind l) z E i4).mono ?_;rintro _ P ⟨rfl,rfl⟩;obtain⟨c,y⟩:∃c,c=md (dI kind l):=⟨_,rfl⟩
 rw[<-y];refine⟨_,i0,?_⟩;refine av (λi:Nat=>(i:Int)) (λi h'=>i<=4/\Sp h h' [aq 5 o 1 aE (dI kind l++((lc c).take i++qh (5-i) 0))]) (λi=>4-i) 0 i0 ⟨i4,by simpa using s⟩ ?_;rintro i O ⟨R,A⟩;have d:=DZ c;refine aj (λe=>?_) (λe=>?_)
 ·have G:i<4:=by have B:(i:Int)<4:=e;omega
  rw[ak ((8:Int)*i),ak ((59:Int)+i)];refine⟨i4,?_⟩;have K:((8:Int)*(i:Int)).toNat=8*i:=i4
  have D:min (8*i) (qk xP)=8*i:=by have:qk xP=32:=rfl;omega
  rw[K,D,dR];have J:b8 (qX (c.toNat:Int) (2^(8*i)))=(lc c)[i]'(by omega):=by simp[lc]
  rw[J];refine A.set af 0 i0 (λ_=>rfl) i0 (59+i) i4 (by simp[b];omega) ((lc c)[i]'(by omega)) i0 i0 i0 λh8 g=>?_;refine⟨i+1,js,⟨i4,?_⟩,i4⟩;have n:(dI kind l++((lc c).take i++qh (5-i) 0)).set (59+i) ((lc c)[i]'(by omega))=dI kind l++((lc c).take (i+1)++qh (5-(i+1)) 0):=by
   rw[q7 _ _ i4,b,zr,q7 _ _ i7,aK _ _];have:5-i=(5-(i+1))+1:=i4
   rw[this,yt];simp[d,Nat.min_eq_left (show i<=4 by omega)];rw[aK _ _ (show i<ii (lc c) by omega),qp];rfl
  rw[n]at g;exact g
 ·have q:i=4:=by have B:¬(i:Int)<4:=e;omega
  subst q;refine A.set af 0 i0 (λ_=>rfl) i0 63 i0 (by simp[b,d]) 165 i0 i0 i0 λh8 g=>⟨o,i0,?_⟩
  have m:(dI kind l++((lc c).take 4++qh (5-4) 0)).set 63 165=ey kind l:=by unfold ey;rw[f9 ⟨i4,i4,i4⟩,<-y,qi i4,q7 _ _ i4,b,q7 _ _ pa];simp[d]
  rw[m]at g;exact g
end Go.Qw
namespace Go.Vc
open Go Wl
abbrev eC:=ByteArray×Int×Int×Sl
abbrev cg:=Int×Int×Int×Int×Int×Int×Sl×Sl
abbrev bQ(x:eC):be:=[xK x.1,xH xN x.2.1,xH xN x.2.2.1,x.2.2.2]
abbrev aX(x:cg):be:=[xH xN x.1,xH xN x.2.1,xH xN x.2.2.1,xH xN x.2.2.2.1,xH xN x.2.2.2.2.1,xH xN x.2.2.2.2.2.1,x.2.2.2.2.2.2.1,x.2.2.2.2.2.2.2]
abbrev fN(x:cg):Value:=xM #[xH xN x.1,xH xN x.2.1,xH xN x.2.2.1,xH xN x.2.2.2.1,xH xN x.2.2.2.2.1,xH xN x.2.2.2.2.2.1,x.2.2.2.2.2.2.1,x.2.2.2.2.2.2.2]
def ol:iM eC Wl.cb:=⟨λh q a b=>(a.1=b.name/\a.2.1=b.object/\a.2.2.1=b.length)/\Seq h q a.2.2.2 1 aC b.tries,λa d=>⟨a.1,a.2.ai d⟩,λa c=>⟨a.1,a.2.mono c⟩⟩
abbrev vU:iM Sl (List Wl.cb):=bE ol 4 bQ
structure uR (h:f8) (q:aB) (x:cg) (m:aI):Prop where
 seq:x.1=m.seq
 next:x.2.1=m.next
 p:(x.2.2.1,x.2.2.2.1,x.2.2.2.2.1)=m.p
 extra:x.2.2.2.2.2.1=m.extra
 drives:Seq h q x.2.2.2.2.2.2.1 1 aC m.drives
 aG:vU.p h q x.2.2.2.2.2.2.2 m.aG
 dcap:x.2.2.2.2.2.2.1.len<=x.2.2.2.2.2.2.1.cap
 ocap:x.2.2.2.2.2.2.2.len<=x.2.2.2.2.2.2.2.cap
abbrev dY(h:f8)(x:cg)(m:aI):Prop:=uR h (λb=>b<h.size) x m
theorem uR.ai{h h':f8}{q:aB}{x:cg}{m:aI}(a:uR h q x m)(b:aV q h h'):uR h' q x m:=⟨a.seq,a.next,a.p,a.extra,a.drives.ai b,vU.loc a.aG b,a.dcap,a.ocap⟩
theorem uR.mono{h:f8}{q q':aB}{x:cg}{m:aI}(a:uR h q x m)(c:∀b,q b->q' b):uR h q' x m:=⟨a.seq,a.next,a.p,a.extra,a.drives.mono c,vU.mono a.aG c,a.dcap,a.ocap⟩
theorem dY.up{h h':f8}{x:cg}{m:aI}(a:dY h x m)(c:aV (λb=>b<h.size) h h'):dY h' x m:=(uR.ai a c).mono λ_ d=>qM d c.1
def cx(x:cg)(m:aI):HP:=⟨λh q=>uR h q x m,λa c=>a.ai c,λa b=>a.mono b⟩
theorem OV:∀x,∀c∈bQ x,c.oneCell'=eL:=by intro x c a;simp[bQ]at a;rcases a with rfl|rfl|rfl|rfl<;>rfl
end Go.Vc
namespace Go.Qw
open Go Go.Vc Go.Proofs Wl
theorem sf(n a b:Int)(h:f8):ac xR 162 #[xH xN n,xH xN a,xH xN b] h λv h'=>v=xL (eW n a b)/\h'=h:=by
 refine MD n a b ?_;unfold FE eW;refine aj (λe=>⟨?_,i0⟩) (λe=>⟨?_,i0⟩)
 ·rw[g9 (show a<=n from e)];rfl
 ·rw[hU (show¬a<=n from e)];rfl
theorem Qf(s:ByteArray)(h:f8)(F:s.size<=2^40):ac xR 104 #[xK s] h λv h'=>v=xL (lP s)/\Sp h h' []:=by
 refine QZ s ?_;unfold JP;refine afz af ⟨_,i0,i0⟩ ⟨_,i0,i0⟩ ⟨_,i0,i0⟩ s λr D n=>?_;have y:=n.rd 0 i0;have z:=y.len;have B:=Ea s;refine av (λi:Nat=>(i:Int)) (λi h'=>i<=s.size/\h'=D/\∀c∈(iT s).take i,mN c=eL) (λi=>s.size-i) 0 i0 ⟨i4,i0,i9⟩ ?_;rintro i p ⟨G,rfl,d⟩;refine aj (λe=>?_) (λe=>?_)
 ·have j:i<ii (iT s):=by have A:(i:Int)<(r.len:Int):=e;omega
  refine y.bB i i0 j ((iT s)[i].toNat:Int) i0 ?_;obtain⟨c,t⟩:∃c,c=(iT s)[i]:=⟨_,rfl⟩
  rw[<-t];have a:mN c=eL->∃o:Nat,qc xN ((i:Int)+1)=(o:Int)/\(o<=s.size/\p=p/\∀c∈(iT s).take o,mN c=eL)/\s.size-o<s.size-i:=λu=>
   ⟨i+1,js,⟨i4,i0,λx k=>by
    rw[aK _ _ j]at k;rcases qz.1 k with k|k
    ·exact d x k
    ·rw[qC.1 k,<-t];exact u⟩,i4⟩
  have f:mN c=eR->Value.bool eR=xL (lP s)/\Sp h p []:=λu=>by
   refine⟨?_,n.ck []⟩;unfold lP;have:s.data.toList.all mN=eR:=yA.2 ⟨c,by rw[t];exact qg j,by rw[u];simp⟩;rw[this];rfl
  have b:mN c=eL↔((97<=(c.toNat:Int)/\(c.toNat:Int)<=122)∨(48<=(c.toNat:Int)/\(c.toNat:Int)<=57)∨(c.toNat:Int)=45):=by unfold mN;simp[or_assoc];omega
  have g:mN c=eR↔¬((97<=(c.toNat:Int)/\(c.toNat:Int)<=122)∨(48<=(c.toNat:Int)/\(c.toNat:Int)<=57)∨(c.toNat:Int)=45):=by rw[<-b];cases mN c<;>simp
  refine aj (λq=>aj (λe2=>cv (λm=>f (g.2 i4)) λm=>a (b.2 i4)) λe2=>aj (λm=>cv (λl=>f (g.2 i4)) λl=>a (b.2 i4)) λm=>a (b.2 i4)) λq=>aj (λe2=>aj (λm=>cv (λl=>f (g.2 i4)) λl=>a (b.2 i4)) λm=>aj (λl=>cv (λE=>f (g.2 i4)) λE=>a (b.2 i4)) λl=>a (b.2 i4)) λe2=>a (b.2 i4)
 ·have A:¬(i:Int)<(r.len:Int):=e;rw[qi i4]at d;have w:s.data.toList.all mN=eL:=qL.2 d;refine aj (λq=>⟨?_,n.ck []⟩) (λq=>⟨?_,n.ck []⟩)
  ·unfold lP;rw[w,g9 (show 1<=s.size by omega)];congr 1;simp;omega
  ·unfold lP;rw[w,hU (show¬1<=s.size by omega)];rfl
theorem aaH(s:Sl)(l:aF)(a:Int)(h:f8)(r:Rd h s 1 aC l)(y:ii l<=2^40):ac xR 163 #[s,xH xN a] h λv h'=>v=xL (pE l a)/\h'=h:=by
 refine Rf s a ?_;unfold JU;have w:=r.len;refine av (λi:Nat=>(i:Int)) (λi h'=>i<=ii l/\h'=h/\∀j,j<i->jE l a j=eL) (λi=>ii l-i) 0 i0 ⟨i4,i0,i4⟩ ?_;rintro i k ⟨z,rfl,b⟩;refine aj (λe=>?_) (λe=>?_)
 ·have d:i<ii l:=by have t:(i:Int)<(s.len:Int):=e;omega
  refine r.bB i i0 d l[i] i0 ?_;have o:l.getD i 0=l[i]:=getD_lt d;have f:jE l a i=eR->Value.bool eR=xL (pE l a)/\k=k:=λp=>⟨by unfold pE;rw[GG d p],i0⟩
  have c:jE l a i=eL->∃n:Nat,qc xN ((i:Int)+1)=(n:Int)/\(n<=ii l/\k=k/\∀j,j<n->jE l a j=eL)/\l.length-n<ii l-i:=λp=>
   ⟨i+1,js,⟨i4,i0,λj u=>by
    by_cases q:j=i
    ·rw[q];exact p
    ·exact b j i4⟩,i4⟩
  refine(sf l[i] 0 a k).mono ?_;rintro _ _ ⟨rfl,rfl⟩;refine⟨_,i0,bm (λg=>f (by unfold jE;rw[o,g];rfl)) λg=>aj (λe2=>?_) λe2=>c (by unfold jE;rw[o,g,g9 (show i=0 by omega)];rfl)⟩;rw[ak ((i:Int)-1)];refine r.bB (i-1) i4 i4 (l[i-1]'(by omega)) i0 ?_;have m:l.getD (i-1) 0=l[i-1]'(by omega):=getD_lt;refine aj (λx=>f ?_) (λx=>c ?_)
  ·unfold jE;rw[o,m,g,hU (show¬i=0 by omega),hU i4];rfl
  ·unfold jE;rw[o,m,g,g9 (show l[i-1]'(by omega)<l[i]by omega)];simp
 ·have t:¬(i:Int)<(s.len:Int):=e;exact⟨by unfold pE;rw[ub λj u=>b j i4],i0⟩
theorem uS(p:Pm)(n:Int)(h:f8)(o:n<=2^40:=by omega):ac xR 48 #[jU p,xH xN n] h λv h'=>v=xH xN (countP p n)/\Sp h h' []:=by
 refine Me p n ?_;unfold Fs;refine(Sp.refl h).boxed λm f d=>?_;refine bg ⟨p,(d.box 0 i0).aS _ i0,(dM p f).mono ?_⟩;rintro _ i ⟨rfl,j⟩;have b:=d.up j.ai;refine⟨_,i0,bm (λe=>⟨?_,b.ck []⟩) λg=>aj (λe=>⟨?_,b.ck []⟩) λe=>?_⟩
 ·unfold countP;rw[e];rfl
 ·unfold countP;rw[hU (show¬0<n by omega),Bool.and_false];rfl
 ·have k:=(ce p).1 g;refine⟨p,(b.box 0 i0).aS _ i0,?_⟩;refine(De p (R:=λv h'=>v=xH xN (p.1*p.2.2)/\Sp h h' []) ?_).mono ?_
  ·unfold Ao;refine b.boxed λq h3 c=>⟨p.1,(c.box 1 i0).cell0 i0,p.2.2,(c.box 1 i0).cell i0,?_,c.ck []⟩
   have r:p.1*p.2.2<=16*24:=yp i4 i4 i4 i4;have a:0<=p.1*p.2.2:=vW i4 i4;rw[ak _]
  ·rintro _ h3 ⟨rfl,l⟩;have a:0<p.1*p.2.2:=Int.mul_pos i4 i4;refine⟨_,i0,Int.ne_of_gt a,?_,l⟩;have f:(n-1)/(p.1*p.2.2)<=n-1:=Int.ediv_le_self _ i4;have i:0<=(n-1)/(p.1*p.2.2):=Int.ediv_nonneg i4 i4;rw[ak (n-1),Int.tdiv_eq_ediv_of_nonneg i4,ak ((n-1)/(p.1*p.2.2)),ak _];unfold countP;rw[g,g9 (show 0<n by omega)];rfl
theorem VK(s:Sl)(l:aF)(h:f8)(d:Rd h s 1 aC l)(k:ii l<=2^40):ac xR 116 #[s,.func (.func 228) #[] #[]] h λv h'=>v=xL (!l.all (eW · 0 15))/\h'=h:=by
 refine jS s (228,#[],#[]) ?_;unfold ic;have j:=d.len;refine(iv s (228,#[],#[]) (R:=λv h'=>(∃i:Int,v=xH xN i/\(decide (i>=0)=!l.all (eW · 0 15)))/\h'=h) ?_).mono ?_
 ·unfold gm;refine av (λi:Nat=>(i:Int)) (λi h'=>i<=ii l/\(l.take i).all (eW · 0 15)=eL/\h'=h) (λi=>ii l-i) 0 i0 ⟨i4,i9,i0⟩ ?_;rintro i c ⟨f,a,rfl⟩;refine aj (λe=>?_) (λe=>?_)
  ·have b:i<ii l:=by have g:(i:Int)<(s.len:Int):=e;omega
   refine d.bB i i0 b l[i] i0 (fa k9 ?_);refine(KW l[i] (R:=λv h'=>v=xL (!eW l[i] 0 15)/\h'=c) ?_).mono ?_
   ·unfold Dp;refine(sf l[i] 0 15 c).mono ?_;rintro _ _ ⟨rfl,rfl⟩;exact⟨_,i0,i0,i0⟩
   ·rintro _ _ ⟨rfl,rfl⟩;refine⟨_,i0,bm (λe2=>?_) λe2=>?_⟩
    ·refine⟨⟨i,i0,?_⟩,i0⟩;rw[g9 (show(i:Int)>=0 by omega)];have:l.all (eW · 0 15)=eR:=yA.2 ⟨_,qg b,by rw[e2];simp⟩;rw[this];rfl
    ·refine⟨i+1,js,⟨i4,?_,i0⟩,i4⟩;rw[aK _ _ b,yU,a];simp[e2]
  ·have g:¬(i:Int)<(s.len:Int):=e;refine⟨⟨-1,i0,?_⟩,i0⟩;rw[qi i4]at a;rw[a];rfl
 ·rintro _ c ⟨⟨i,rfl,f⟩,rfl⟩;exact⟨i,i0,by rw[f],i0⟩
end Go.Qw
namespace Wl
structure db (m:aI):Prop where
 dr:m.drives.length<=2^30
 ob:m.aG.length<=2^30
 nm:∀e∈m.aG,e.name.size<=2^30/\e.tries.length<=2^30
end Wl
namespace Go.Vc
open Go
theorem addr_add(a:fz)(i j:Nat):(a.add i).add j=a.add (i+j):=by unfold Addr.add;by_cases b:i=0<;>by_cases c:j=0<;>simp[b,c,w9]
theorem cA.AF{h:f8}{a:fz}{e:TypeId}{b:be}{v:Value}(c:cA h a e b)(i j:Nat)(d:b[i+j]?=dB v):f7 h ((a.add i).add j)=dB v:=by rw[addr_add];exact c.cell d
theorem cA.Jh{h:f8}{a:fz}{e:TypeId}{b:be}{u v w:Value}(c:cA h a e b)(i:Nat)(f:b[i]?=dB u)(g:b[i+1]?=dB v)(d:b[i+2]?=dB w):an h (a.add i) 0 [u,v,w]:=
 ⟨c.AF i 0 f,c.AF i 1 g,c.AF i 2 d,trivial⟩
end Go.Vc
namespace Go.Qw
open Go Go.Vc Go.Proofs Wl
abbrev OW:bL C.toCM 42 94 4 [xK ⟨#[]⟩,xH xN 0,xH xN 0,xI eH 0 0] 56:=⟨_,_,i0,i0,i0,i0,i0,i0⟩
theorem Yo(x:cg)(m:aI)(e:eC)(E:Wl.cb)(h:f8)(k:dY h x m)(I:dX ol h e E)(D:kR m=eL)(P:E.name.size<=2^30)(M:E.tries.length<=2^30):
  ac xR 164 #[fN x,xM #[xK e.1,xH xN e.2.1,xH xN e.2.2.1,e.2.2.2]] h λv h'=>v=xL (gM m E)/\Sp h h' []:=by
 refine OI x e ?_;unfold Hw;obtain⟨_,J,g,_⟩:=SF D;have B:=(ce m.p).1 g;obtain⟨⟨A,e2,s⟩,r⟩:=I;have f:x.2.2.1=m.p.1:=congrArg (·.1) k.p;have n:x.2.2.2.1=m.p.2.1:=congrArg (·.2.1) k.p;have d:x.2.2.2.2.1=m.p.2.2:=congrArg (·.2.2) k.p;have R:m.p.1*m.p.2.2<=16*24:=yp i4 i4 i4 i4;have K:0<=m.p.1*m.p.2.2:=vW i4 i4;refine(Sp.refl h).boxed λN O z=>?_;refine z.boxed λQ y w=>?_;have j:∀{h':f8} {As:List HP},Sp h h' As->gM m E=eR->Value.bool eR=xL (gM m E)/\Sp h h' []:=λ{h' As} H' c=>⟨by rw[c],.zip H'.ai⟩
 refine bg ⟨E.name,by rw[<-A];exact(w.box 1 i0).cell0 i0,(Qf E.name y i4).mono ?_⟩;rintro _ h3 ⟨rfl,F⟩;have a:=w.up F.ai;refine⟨_,i0,bm (λb=>j a (by unfold gM;rw[b];rfl)) λi=>?_⟩;refine⟨E.object,by rw[<-e2];exact(a.box 1 i0).cell i0,m.next,by rw[<-k.next];exact(a.box 0 i0).cell i0,?_⟩;dsimp only;rw[ak (m.next-1)];refine(sf E.object 0 (m.next-1) h3).mono ?_;rintro _ _ ⟨rfl,rfl⟩;refine⟨_,i0,bm (λb=>j a (by unfold gM;rw[i,b];rfl)) λo=>?_⟩;have c:=a.box 0 i0;refine⟨E.length,by rw[<-s];exact(a.box 1 i0).cell i0,m.p.1,by rw[<-f];exact c.cell i0,m.p.2.2,by rw[<-d];exact c.AF 2 2 i0,?_⟩;dsimp only;rw[ak (m.p.1*m.p.2.2),ak (m.p.1*m.p.2.2*8)];refine(sf E.length 0 (m.p.1*m.p.2.2*8) _).mono ?_;rintro _ _ ⟨rfl,rfl⟩;refine⟨_,i0,bm (λb=>j a (by unfold gM;rw[i,o,b];rfl)) λl=>?_⟩;have t:0<=E.length/\E.length<=m.p.1*m.p.2.2*8:=by unfold eW at l;simpa using l
 refine⟨e.2.2.2,(a.box 1 i0).cell i0,?_⟩;refine(VK e.2.2.2 E.tries _ (Seq.up r a.ai) i4).mono ?_;rintro _ _ ⟨rfl,rfl⟩;refine⟨_,i0,bm (λb=>?_) λb=>⟨trivial,j a ?_⟩⟩
 ·have q:E.tries.all (eW · 0 15)=eL:=k7
  refine⟨e.2.2.2,(a.box 1 i0).cell i0,m.p,?_,E.length,by rw[<-s];exact(a.box 1 i0).cell i0,?_⟩
  ·rw[<-f,<-n,<-d];exact c.Jh 2 i0 i0 i0
  ·refine(uS m.p E.length _).mono ?_;rintro _ L ⟨rfl,G⟩;have u:=a.up G.ai;refine⟨_,i0,⟨(u.box 1 i0).cell i0,trivial⟩,?_,.zip u.ai⟩;unfold gM;have H:=r.len;rw[i,o,l,q,H];simp;rfl
 ·have q:E.tries.all (eW · 0 15)=eR:=k7
  unfold gM;rw[i,o,l,q];rfl
theorem VL(a:fz)(e:eC)(l:Sl)(b:List Wl.cb)(h:f8)(o:cA h a 94 (bQ e))(p:dX vU h l b)(E:b.length<=2^30):
  ac xR 165 #[l,.func (.func 166) #[] #[xJ (dB a)]] h λv h'=>v=xL (b.any λy=>decide (y.object=e.2.1))/\Sp h h' []:=by
 refine gp l (166,#[],#[xJ (dB a)]) ?_;unfold eM;refine(gT l (166,#[],#[xJ (dB a)]) (R:=λv h'=>(∃i:Int,v=xH xN i/\(decide (i>=0)=b.any λy=>decide (y.object=e.2.1)))/\Sp h h' []) ?_).mono ?_
 ·unfold fo;obtain⟨r,B,D,z⟩:=bE.kO p;have x:=bE.len p;refine av (λi:Nat=>(i:Int)) (λi h'=>i<=b.length/\(b.take i).any (λy=>decide (y.object=e.2.1))=eR/\Sp h h' []) (λi=>b.length-i) 0 i0 ⟨i4,i9,Sp.refl h⟩ ?_;rintro i n ⟨q,c,j⟩;refine aj (λm=>?_) (λm=>?_)
  ·have d:i<b.length:=by have w:(i:Int)<(l.len:Int):=m;omega
   obtain⟨⟨_,A,_⟩,_⟩:=z i i4 d;refine(Seq.up B j.ai).dQ (g:=bQ) i i0 i4 (r[i]'(by omega)) i0 (fa k9 ?_);refine(OJ (r[i]'(by omega)) a (R:=λv h'=>v=xL (b[i].object==e.2.1)/\Sp n h' []) ?_).mono ?_
   ·unfold Hx;refine(Sp.refl n).boxed λF s f=>?_;have k:=o.ai (up j.ai f.ai) o.lt;exact⟨b[i].object,by rw[<-A];exact(f.box 0 i0).cell i0,e.2.1,k.cell i0,i0,.zip f.ai⟩
   ·rintro _ s ⟨rfl,u⟩;have f:=j.up u.ai;refine⟨_,i0,cu (λe2=>?_) λe2=>?_⟩
    ·refine⟨⟨i,i0,?_⟩,f⟩;rw[g9 (show(i:Int)>=0 by omega)];exact(zV.2 ⟨_,qg d,m9⟩).symm
    ·refine⟨i+1,js,⟨i4,?_,f⟩,i4⟩;rw[aK _ _ d,yV,c];simpa using e2
  ·have w:¬(i:Int)<(l.len:Int):=m;refine⟨⟨-1,i0,?_⟩,j⟩;rw[qi i4]at c;rw[c];rfl
 ·rintro _ n ⟨⟨i,rfl,q⟩,t⟩;exact⟨i,i0,sp,t⟩
theorem Lc(x:cg)(m:aI)(h:f8)(c:dY h x m)(M:db m):ac xR 95 #[fN x] h λv h'=>v=xL (bO m)/\Sp h h' []:=by
 refine Tt x ?_;unfold Mp;refine(Sp.refl h).boxed λP h1 G=>?_;have y:=G.box 0 i0;have U:x.2.2.1=m.p.1:=congrArg (·.1) c.p;have L:x.2.2.2.1=m.p.2.1:=congrArg (·.2.1) c.p;have O:x.2.2.2.2.1=m.p.2.2:=congrArg (·.2.2) c.p;have u:∀{h':f8} {As:List HP},Sp h h' As->bO m=eR->Value.bool eR=xL (bO m)/\Sp h h' []:=λ{h' As} H' y=>⟨by rw[y],.zip H'.ai⟩
 refine bg ⟨m.seq,by rw[<-c.seq];exact y.cell0 i0,(sf m.seq 1 2147483647 h1).mono ?_⟩;rintro _ _ ⟨rfl,rfl⟩;refine⟨_,i0,bm (λb=>u G (by unfold bO kR;rw[b];rfl)) λF=>?_⟩;refine⟨m.next,by rw[<-c.next];exact y.cell i0,(sf m.next 0 16777216 _).mono ?_⟩;rintro _ _ ⟨rfl,rfl⟩;refine⟨_,i0,bm (λb=>u G (by unfold bO kR;rw[F,b];rfl)) λT=>?_⟩;refine⟨m.p,by rw[<-U,<-L,<-O];exact y.Jh 2 i0 i0 i0,(dM m.p _).mono ?_⟩;rintro _ h2 ⟨rfl,R2⟩;have n:=G.up R2.ai;refine⟨_,i0,bm (λb=>u n (by unfold bO kR;rw[F,T,b];rfl)) λb3=>?_⟩;refine⟨m.extra,by rw[<-c.extra];exact(n.box 0 i0).cell i0,(sf m.extra 0 16 _).mono ?_⟩;rintro _ _ ⟨rfl,rfl⟩;refine⟨_,i0,bm (λb=>u n (by unfold bO kR;rw[F,T,b3,b];rfl)) λb4=>?_⟩;have E:kR m=eL:=by unfold kR;rw[F,T,b3,b4];rfl
 have Q:=c.up n.ai;have s:=n.box 0 i0;have ah:=M.dr;have ad:=M.ob;refine bg ⟨_,s.cell i0,(aaH _ m.drives 63 _ Q.drives i4).mono ?_⟩;rintro _ _ ⟨rfl,rfl⟩;refine⟨_,i0,bm (λb=>u n (by unfold bO;rw[E,b];rfl)) λZ=>?_⟩;have ab:=bE.len c.aG;refine⟨x.2.2.2.2.2.2.2,s.cell i0,aj (λe=>u n ?_) λam=>?_⟩
 ·unfold bO;rw[E,Z,hU i4];rfl
 have R:ii m.aG<=12:=i4
 refine⟨x.2.2.2.2.2.2.2,s.cell i0,?_⟩;obtain⟨l,D⟩:=bE.fix c.aG;have ao:=D.2.1;refine av (λi:Nat=>(i:Int)) (λi h'=>i<=ii m.aG/\(∀j,j<i->pF m j=eL)/\Sp h h' [aw P 44 (aX x)]) (λi=>ii m.aG-i) 0 i0 ⟨i4,i4,n⟩ ?_;rintro i h3 ⟨hi,o,J⟩;refine aj (λe=>?_) (λe=>?_)
 ·have f:i<ii m.aG:=by have e':(i:Int)<(x.2.2.2.2.2.2.2.len:Int):=e;omega
  have B:=M.nm _ (qg f);have k:pD m.aG i=m.aG[i]:=oG f;have r:∀{h':f8} {As:List HP},Sp h h' As->pF m i=eR->Value.bool eR=xL (bO m)/\Sp h h' []:=λ{h' As} H' y=>u H' (by unfold bO;rw[GG f y];simp);have F3:=nU.up D J.ai;refine F3.1.dQ (g:=bQ) i i0 i4 (l[i]'(by omega)) i0 ?_;refine J.alloc af i0 λz h4 H4=>?_;refine H4.storeAll af 1 i0 i0 (bQ (l[i]'(by omega))) i0 i0 i0 i0 λW w=>?_;have w:Sp h W [aw P 44 (aX x),aw z 94 (bQ (l[i]'(by omega)))]:=w;have Y:=nU.up D w.ai;obtain⟨⟨y1,y2,y3⟩,y4⟩:=Fix.row Y f;obtain⟨b6,d⟩:∃b,b=(decide (i=0)||fb (pD m.aG (i-1)).name (pD m.aG i).name):=⟨_,rfl⟩
  refine cE (λ_ h'=>gM m m.aG[i]=eL/\b6=eL/\Sp h h' [aw P 44 (aX x),aw z 94 (bQ (l[i]'(by omega)))]) ?_ ?_
  ·refine⟨x,(w.box 0 i0).aS _ i0,l[i]'(by omega),(w.box 1 i0).aS _ i0,?_⟩;refine(Yo x m (l[i]'(by omega)) m.aG[i] W (c.up w.ai) (Fix.row Y f) E B.1 B.2).mono ?_;rintro _ V ⟨rfl,R6⟩;have a:=w.up R6.ai;have H:=nU.up D a.ai;refine⟨_,i0,trivial,bm (λb=>r a (by unfold pF;rw[k,b];rfl)) λb=>aj (λe2=>?_) λe2=>⟨b,by rw[d,g9 (show i=0 by omega)];rfl,a⟩⟩;rw[ak ((i:Int)-1)];obtain⟨S,ha,zz,hc,rfl⟩:=H.1.dQ (g:=bQ) (i:=(i:Int)-1) (i-1) i4 i4 (l[i-1]'(by omega)) rfl (K:=λt=>t=l[i-1]'(by omega)) rfl;refine⟨x.2.2.2.2.2.2.2,(a.box 0 i0).cell i0,S,ha,m.aG[i-1].name,?_,m.aG[i].name,?_,?_⟩
   ·rw[<-(Fix.row H (show i-1<ii m.aG by omega)).1.1];exact hc.1
   ·rw[<-y1];exact(a.box 1 i0).cell0 i0
   ·have q:pD m.aG (i-1)=m.aG[i-1]:=oG;rw[k,q]at d;refine bm (λA=>r a ?_) (λA=>⟨b,?_,a⟩)
    ·unfold pF;rw[k,q,b,hU (show¬i=0 by omega)];unfold fb;rw[A];rfl
    ·rw[d];unfold fb;rw[A];simp
  ·rintro _ V ⟨b,I,a⟩;have H:=nU.up D a.ai;refine⟨x.2.2.2.2.2.2.2,(a.box 0 i0).cell i0,⟨i4,by have:=c.ocap;omega⟩,?_⟩;rw[ql];refine(VL z (l[i]'(by omega)) ⟨x.2.2.2.2.2.2.2.ptr,i,x.2.2.2.2.2.2.2.cap⟩ (m.aG.take i) V (a.box 1 i0) (bE.take H.elt i i4) i7).mono ?_;rintro _ h7 ⟨rfl,R7⟩;have X:=a.up R7.ai;rw[y2];refine⟨_,i0,bv (λA=>r X ?_) λA=>?_⟩
   ·unfold pF;rw[k,A];simp
   ·refine⟨i+1,js,⟨i4,λj hj=>?_,X.ck [0]⟩,i4⟩;by_cases N:j=i
    ·subst N;rw[I]at d;unfold pF;rw[<-d,k,b,A];rfl
    ·exact o j i4
 ·have e':¬(i:Int)<(x.2.2.2.2.2.2.2.len:Int):=e;refine⟨?_,.zip J.ai⟩;unfold bO;rw[E,Z,g9 R,ub λj hj=>o j i4];rfl
section
variable {B:aB} {h0 h:f8} {As:List HP}
theorem sK(s:Sl)(l:bc)(n:Int)(k:Nat)(x:k<=4)(u:ii l<=2^20)(H:aa B h0 h (aq 5 s 1 aE l::As)):
  ac xR 169 #[s,xH xN n,xH xN k] h λv h'=>∃b:Sl,v=b/\aa B h0 h' (aq 5 b 1 aE (l++bY n k)::As):=by
 refine ME s n k ?_;unfold FF;have c:=cy n k;refine av (λt:Sl×Nat=>(t.1,(k:Int)-1-t.2)) (λt h'=>t.2<=k/\aa B h0 h' (aq 5 t.1 1 aE (l++(bY n k).take t.2)::As)) (λt=>k-t.2) (s,0) (by rw[ak _];simp) ⟨i9,l6⟩ ?_;rintro⟨o,j⟩ w ⟨r,a⟩;dsimp only at*;refine aj (λe=>?_) (λe=>?_)
 ·have f:j<k:=i4
  rw[ak ((8:Int)*((k:Int)-1-j))];refine⟨i4,?_⟩;have m:((8:Int)*((k:Int)-1-j)).toNat=8*(k-1-j):=i4
  have d:min (8*(k-1-j)) (qk xN)=8*(k-1-j):=by have:qk xN=64:=rfl;omega
  rw[m,d,dR];have i:b8 (qX n (2^(8*(k-1-j))))=(bY n k)[j]'(by omega):=by simp[bY]
  rw[i];refine a.push af 0 i0 gj i0 i5 (λ_=>rfl) gH ((bY n k)[j]'(by omega)) i0 i5 i7 λp q g=>?_;refine⟨(p,j+1),by dsimp only;rw[ak _];congr 1;omega,⟨i6,?_⟩,i6⟩;dsimp only;rw[aK _ _ (show j<ii (bY n k) by omega),<-qp];exact g
 ·rw[qi i4]at a;exact⟨o,i0,a⟩
theorem MV(b:Sl)(l:aF)(o:Sl)(c:bc)(H:aa B h0 h (aq 5 o 1 aE c::As))(q:St B h0 As λh=>Rd h b 1 aC l)(F:ii c<=2^30)(E:ii l<=2^30){K:Sl×Int->f8->Prop}
  (z:∀r h',aa B h0 h' (aq 5 r 1 aE (c++l.map b8)::As)->K (r,(ii l:Int)) h'):
  aM (σ:=Sl×Int) (λa x h8=>
 Br (decide (a.2<((b.len:Nat):Int)))
 (∃k:fz,(b.ptr=dB k/\0<=a.2/\a.2<((b.len:Nat):Int))/\
 ∃g:Int,f7 h8 (k.add (a.2.toNat*1))=dB (xH xN g)/\
 az xR (Instr.buildSlice 34 1 #[(0,(xH xO (qc xO g)))]) (.one (.sc .slc)) h8 λd A=>
 az xR (Builtin.append_ #[34,34] 34 #[(xI a.1.ptr a.1.len a.1.cap),(xI d.ptr d.len d.cap)]) (.one (.sc .slc)) A λf p=>
 x ((⟨f.ptr,f.len,f.cap⟩:Sl),qc xN (a.2+(1:Int))) p)
 (K a h8)) (o,(0:Int)) h:=by
 have s:b.len=ii l:=(q.at [_] H).len;refine av (λt:Sl×Nat=>(t.1,(t.2:Int))) (λt h'=>t.2<=ii l/\aa B h0 h' (aq 5 t.1 1 aE (c++(l.take t.2).map b8)::As)) (λt=>ii l-t.2) (o,0) i0 ⟨i9,l6⟩ ?_;rintro⟨u,i⟩ w ⟨G,m⟩;dsimp only at*;refine aj (λe=>?_) (λe=>?_)
 ·have j:i<ii l:=i4
  refine(q.at [_] m).bB i i0 j l[i] i0 ?_;rw[dR];refine m.push af 0 i0 gj i0 i5 (λ_=>rfl) gH (b8 l[i]) i0 i5 i7 λv D y=>?_;refine⟨(v,i+1),jj,⟨i6,?_⟩,i6⟩;dsimp only;rw[aK _ _ j,qT,<-qp];exact y
 ·have n:i=ii l:=i4
  subst n;rw[q8]at m;exact z u w m
end
theorem afU{m:aI}(a:bO m=eL){i:Nat}(b:i<ii m.aG):gM m m.aG[i]=eL:=by
 unfold bO at a;simp only[qB]at a;have:=qL.1 a.2.2.2 i (qG.2 b);unfold pF at this;simp only[qB]at this;have c:=this.1
 rwa [oG b]at c
theorem aaI{m:aI}(d:bO m=eL){i:Nat}(f:i<m.aG.length):m.aG[i].name.size<=12/\m.aG[i].tries.length<=3073:=by
 have b:=afU d f;unfold gM lP at b;simp only[qB,decide_eq_true_eq]at b;obtain⟨⟨_,_,e⟩,_,h3,_,c⟩:=b;refine⟨e,?_⟩;obtain⟨_,_,a,_⟩:=SF (ZW d);have h:=(ce m.p).1 a;unfold eW at h3;simp only[qB,decide_eq_true_eq]at h3;have j:m.p.1*m.p.2.2<=16*24:=yp i4 i4 i4 i4;unfold countP at c;split at c
 ·have:(m.aG[i].length-1)/(m.p.1*m.p.2.2)<=m.aG[i].length-1:=Int.ediv_le_self _ (by rename_i g;simp at g;omega);omega
 ·omega
theorem aaJ{m:aI}(b:bO m=eL){i:Nat}(a:i<ii m.aG):ii (jb m.aG[i])<=4000:=by have:=aaI b a;unfold jb;simp[cy];have:m.aG[i].name.data.size=m.aG[i].name.size:=rfl;omega
theorem HX{m:aI}(a:bO m=eL):∀n,n<=ii m.aG->ii ((m.aG.take n).flatMap jb)<=n*4000
 |0,_=>i9
 |n+1,hn=>by
  rw[aK _ _ (show n<ii m.aG by omega),zg,qx];have c:=HX a n i4;have b:=aaJ a (show n<ii m.aG by omega);have h3:ii ([m.aG[n]].flatMap jb)=ii (jb m.aG[n]):=by rw[zl,wu,qN]
  omega
theorem Ld{m:aI}(a:bO m=eL):ii m.aG<=12:=by unfold bO at a;simp only[qB,decide_eq_true_eq]at a;exact a.2.2.1
theorem Le(m:aI)(k:db m):ii (gz m)<=100000:=by
 unfold gz;split
 ·rename_i e;have d:=e;unfold bO at d;simp only[qB,decide_eq_true_eq]at d;have h:ii m.drives<=64:=by
   have a:=d.2.1;unfold pE at a;rw[qL]at a;by_cases g:ii m.drives<=64
   ·exact g
   ·exfalso;have f:∀i,i<ii m.drives->(i:Int)<=m.drives.getD i 0:=λi=>by
     induction i with
     |zero=>
      intro b;have:=a 0 (qG.2 b);unfold jE eW at this;simp at this;simpa using this.1
     |succ i ih=>
      intro b;have:=a (i+1) (qG.2 b);have h3:=ih i4;unfold jE eW at this;simp at this;have c:=this.2;simp only[qe]at h3⊢;omega
    have h3:=f 64 i4;have c:=a 64 (qG.2 i4);unfold jE eW at c;simp at c;simp only[qe]at h3;omega
  have j:ii (m.aG.flatMap jb)<=12*4000:=by have a:=HX e m.aG.length (qn _);rw[q8]at a;have:=zB 4000 (Ld e);omega
  simp only[qx,zo,yE,qy,cy];omega
 ·simp
theorem aaK(x:cg)(m:aI)(h:f8)(d:dY h x m)(Y:db m):ac xR 100 #[fN x] h λv h'=>∃r:Sl,v=r/\Sp h h' [aq 5 r 1 aE (gz m)]:=by
 refine QY x ?_;unfold JO;refine(Sp.refl h).boxed λa1 h1 H1=>?_;refine⟨x,(H1.box 0 i0).aS _ i0,(Lc x m h1 (d.up H1.ai) Y).mono ?_⟩;rintro _ h2 ⟨rfl,R2⟩;have V:=H1.up R2.ai;refine⟨_,i0,bm (λe=>?_) λz=>?_⟩
 ·unfold gz;rw[e];exact⟨⟨eH,0,0⟩,i0,((V.nil 5 1 aE).ck [1])⟩
 have a3:x.2.2.1=m.p.1:=congrArg (·.1) d.p;have X:x.2.2.2.1=m.p.2.1:=congrArg (·.2.1) d.p;have ab:x.2.2.2.2.1=m.p.2.2:=congrArg (·.2.2) d.p;have B:=V.box 0 i0;have b:=Le m Y;unfold gz at b;rw[z,f9 rfl]at b;have hM:∀{h':f8} {As:List HP},Sp h h' As->dY h' x m:=λ{h' As} I=>d.up I.ai;refine bg ⟨m.seq,by rw[<-d.seq];exact B.cell0 i0,m.next,by rw[<-d.next];exact B.cell i0,?_⟩;have H3:=(V.nil 5 1 aE).bN;refine(sK ⟨eH,0,0⟩ [] m.seq 4 i5 i9 H3).mono ?_;rintro _ h4 ⟨s4,rfl,H4⟩;refine⟨s4,i0,⟨by rw[<-d.next];exact(H4.box 1 i0).cell i0,trivial⟩,?_⟩;refine(sK s4 _ m.next 4 i5 o8 H4).mono ?_;rintro _ h5 ⟨s5,rfl,H5⟩;refine⟨s5,i0,trivial,?_⟩;have l:=H5.box 1 i0;refine⟨m.p.1,by rw[<-a3];exact l.cell i0,m.p.2.1,by rw[<-X];exact l.AF 2 1 i0,m.p.2.2,by rw[<-ab];exact l.AF 2 2 i0,m.extra,by rw[<-d.extra];exact l.cell i0,x.2.2.2.2.2.2.1,l.cell i0,?_⟩;have Z:=d.drives.len;have W:=bE.len d.aG;dsimp only;rw[dR,dR,dR,dR,dR,Z];refine H5.lit af aE gj i0 [b8 m.p.1,b8 m.p.2.1,b8 m.p.2.2,b8 m.extra,b8 (m.drives.length:Nat)] i0 (show 5*1<=2^20 by decide) i0 λa7 h6 H6=>?_;refine H6.append af 0 i0 gj ⟨_,_,i0,i0⟩ i0 i5 (λ_=>rfl) (H6.seq 2 i0 λ_=>rfl) gH o8 λs7 h7 Q=>?_;have Q:=Q.ck [0,1];refine⟨x.2.2.2.2.2.2.1,(Q.box 1 i0).cell i0,?_⟩;have a4:(([]++bY m.seq 4)++bY m.next 4++[b8 m.p.1,b8 m.p.2.1,b8 m.p.2.2,b8 m.extra,b8 (m.drives.length:Nat)]).length=13:=o8
 have br:=Y.dr;refine MV x.2.2.2.2.2.2.1 m.drives s7 _ Q (St.mk' λh' I=>(hM I).drives) i4 i4 λs8 h8 H8=>?_;dsimp only;refine⟨x.2.2.2.2.2.2.2,(H8.box 1 i0).cell i0,?_⟩;dsimp only;rw[dR,W];obtain⟨a,c⟩:∃a,a=([]++bY m.seq 4)++bY m.next 4++[b8 m.p.1,b8 m.p.2.1,b8 m.p.2.2,b8 m.extra,b8 (m.drives.length:Nat)]++m.drives.map b8:=⟨_,rfl⟩
 rw[<-c]at H8;have am:a.length=13+m.drives.length:=by rw[c];simp[cy];omega
 simp only[qx,zo,yE,qy,cy]at b;refine H8.push af 0 i0 gj i0 i5 (λ_=>rfl) gH (b8 (m.aG.length:Nat)) i0 i5 i4 λs9 h9 P=>?_;have P:Sp h h9 [aq 5 s9 1 aE (a++[b8 (m.aG.length:Nat)]),aw a1 44 (aX x)]:=P;refine⟨x.2.2.2.2.2.2.2,(P.box 1 i0).cell i0,?_⟩;obtain⟨O,R⟩:=bE.fix d.aG;have bq:=R.2.1;refine av (λt:Sl×Nat=>(t.1,(t.2:Int))) (λt h'=>t.2<=m.aG.length/\Sp h h' [aq 5 t.1 1 aE (a++[b8 (m.aG.length:Nat)]++(m.aG.take t.2).flatMap jb),aw a1 44 (aX x)]) (λt=>m.aG.length-t.2) (s9,0) i0 ⟨i9,by simpa using P⟩ ?_;rintro⟨o,i⟩ bb ⟨hi,f⟩;dsimp only at*;refine aj (λe=>?_) (λe=>?_)
 ·have u:i<m.aG.length:=i4
  have ar:=nU.up R f.ai;have ao:=aaI z u;have q:((m.aG.take i).flatMap jb).length<=50000:=by have h1:=HX z i hi;have:=Ld z;have:i*4000<=12*4000:=zB _ i4;omega
  refine ar.1.dQ (g:=bQ) i i0 i4 (O[i]'(by omega)) i0 ?_;refine f.alloc af i0 λax bd ay=>?_;refine ay.storeAll af 2 i0 i0 (bQ (O[i]'(by omega))) i0 i0 i0 i0 λad k=>?_;have a2:=nU.up R k.ai;obtain⟨⟨w,y2,U⟩,y4⟩:=Fix.row a2 u;obtain⟨E,T⟩:∃E,E=m.aG[i]:=⟨_,rfl⟩
  rw[<-T]at w y2 U y4 ao;have s:=k.box 2 i0;refine bg ⟨E.name,m7,E.name,m7,?_⟩;rw[dR];refine k.oO af aE gj i0 [b8 (E.name.size:Nat)] i0 (show 1*1<=2^20 by decide) i0 ⟨m7,m7,trivial⟩ ?_;have L:(a++[b8 (m.aG.length:Nat)]++(m.aG.take i).flatMap jb).length<=160000:=by rw[qx,qx,am];simp;simp at q;omega
  obtain⟨j,G⟩:∃j,j=a++[b8 (m.aG.length:Nat)]++(m.aG.take i).flatMap jb:=⟨_,rfl⟩
  rw[<-G]at k L;refine k.push af 0 i0 gj i0 i5 (λ_=>rfl) gH (b8 (E.name.size:Nat)) i0 i5 i4 λa5 bk F=>?_;have M:=F.box 2 i0;refine⟨⟨by rw[<-w];exact M.cell0 i0,by rw[<-w];exact M.cell0 i0,trivial⟩,?_⟩;refine F.ZV af 0 i0 gj ⟨_,i0,i0⟩ i0 i5 E.name i7 λH ah n=>?_;have y:=n.box 2 i0;refine⟨⟨by rw[<-w];exact y.cell0 i0,trivial⟩,?_⟩;have n:Sp h ah [aq 5 H 1 aE (j++[b8 (E.name.size:Nat)]++iT E.name),aw a1 44 (aX x),aw ax 94 (bQ (O[i]'(by omega)))]:=n;refine bg ⟨E.object,by rw[<-y2];exact y.cell i0,E.length,by rw[<-U];exact y.cell i0,?_⟩;have bl:=Ea E.name;refine(sK H _ E.object 3 i5 i7 n).mono ?_;rintro _ a9 ⟨D,rfl,A⟩;have S:=A.box 2 i0;refine⟨D,i0,⟨by rw[<-U];exact S.cell i0,trivial⟩,?_⟩;refine(sK D _ E.length 2 i5 l9 A).mono ?_;rintro _ a6 ⟨K,rfl,N⟩;have ap:=N.box 2 i0;refine⟨K,i0,trivial,(O[i]'(by omega)).2.2.2,ap.cell i0,?_⟩;refine MV (O[i]'(by omega)).2.2.2 E.tries K _ N (St.mk' λh' I=>by rw[T];exact(Fix.row (nU.up R I.ai) u).2) l9 i4 λa0 a8 J=>?_;dsimp only;have ad:=Ld z;refine⟨(a0,i+1),jj,⟨i6,?_⟩,i6⟩;dsimp only;rw[aK _ _ u,zg,<-qp,<-G,zl,wu,qN,<-T];have e3:j++[b8 (E.name.size:Nat)]++iT E.name++bY E.object 3++bY E.length 2++E.tries.map b8=j++jb E:=by unfold jb iT;simp[qp]
  rw[e3]at J;exact J.ck [0,1]
 ·rw[qi i4]at f;refine⟨o,i0,?_⟩;have e2:a++[b8 (m.aG.length:Nat)]++m.aG.flatMap jb=gz m:=by rw[c];unfold gz;rw[z,f9 rfl];simp[qp]
  rw[e2]at f;exact f.ck [0]
end Go.Qw
namespace Go.Vc
open Go Wl
def dC{α:Type}(k:Nat)(f:α->be)(L:List (Sl×List α)):HP:=⟨λh q=>∀y∈L,Seq h q y.1 k f y.2,λa d y b=>(a y b).ai d,λa c y b=>(a y b).mono c⟩
section
variable {α:Type} {B:aB} {h0 h:f8} {As:List HP} {k:Nat} {f:α->be} {L:List (Sl×List α)} {s:Sl} {l:List α}
theorem aa.Xf(H:aa B h0 h As)(k:Nat)(f:α->be):aa B h0 h (dC k f []::As):=
 (H.comp (.one (A:=dC k f []) (aV.refl _ _) λy a=>by cases a)).bN
theorem aa.Xg(H:aa B h0 h (dC k f L::tZ s k f l::As)):aa B h0 h (dC k f ((s,l)::L)::As):=by
 have g:aa B h0 h ((tZ s k f l).sep (dC k f L)::As):=H.ov;refine g.fI 0 i0 λq ⟨i,j,_,b,c,d,e⟩ y a=>?_;rcases zd.1 a with rfl|a
 ·exact d.mono b
 ·exact(e y a).mono c
end
end Go.Vc
namespace Go.Qw
open Go Go.Vc Go.Proofs Wl
theorem ahy(n:Int):bY n 4=[b8 (qX n (2^24)),b8 (qX n (2^16)),b8 (qX n (2^8)),b8 n]:=by
 have e:qX n (2^0)=n:=i9
 show[b8 (qX n (2^24)),b8 (qX n (2^16)),b8 (qX n (2^8)),b8 (qX n (2^0))]=_;rw[e]
theorem aaL(seq a c:Int)(b:Sl)(l:bc)(h:f8)(m:Rd h b 1 aE l)(u:ii l<=2^20):ac xR 101 #[xH xN seq,xH xN a,xH xN c,b] h λv h'=>∃r:Sl,v=r/\Sp h h' [aq 5 r 1 aE (jW seq a c l)]:=by
 refine Tu seq a c b ?_;unfold Mr;refine⟨i5,i5,i5,?_⟩;have i:min (24:Int).toNat (qk xN)=24:=rfl;have g:min (16:Int).toNat (qk xN)=16:=rfl;have t:min (8:Int).toNat (qk xN)=8:=rfl;rw[i,g,t,dR,dR,dR,dR,dR,dR,dR];have d:=ahy seq;generalize b8 (qX seq (2^24))=c1 at d⊢;generalize b8 (qX seq (2^16))=c2 at d⊢;generalize b8 (qX seq (2^8))=c3 at d⊢;generalize b8 seq=c4 at d⊢;have e:jW seq a c l=ey 2 ([c1,c2,c3,c4]++([b8 a,b8 c,b8 (b.len:Nat)]++l)):=by unfold jW;rw[d,m.len]
 generalize b8 a=c5 at e⊢;generalize b8 c=c6 at e⊢;generalize b8 (b.len:Nat)=c7 at e⊢;refine(Sp.refl h).lit af aE gj i0 [c1,c2,c3,c4,c5,c6,c7] i0 (show 7*1<=2^20 by decide) j1 λx w n=>?_;refine n.append af 0 i0 gj ⟨_,_,i0,i0⟩ i0 i5 (λ_=>rfl) (Seq.up m n.ai) gH i7 λq k p=>?_;have o:Rd k q 1 aE ([c1,c2,c3,c4,c5,c6,c7]++l):=p.seq 0 i0 λ_=>rfl;have f:ii ([c1,c2,c3,c4,c5,c6,c7]++l)<=2^40:=i7
 rw[e];have j:[c1,c2,c3,c4,c5,c6,c7]++l=[c1,c2,c3,c4]++([c5,c6,c7]++l):=rfl;rw[<-j];generalize [c1,c2,c3,c4,c5,c6,c7]++l=ll at o f⊢;refine(HW 2 q ll k o f).mono ?_;rintro _ h3 ⟨r,rfl,s⟩;exact⟨r,i0,r,i0,(aa.comp (Sp.zip p.ai) s)⟩
theorem nB(x:cg)(m:aI)(h:f8)(y:dY h x m)(w:db m):ac xR 42 #[fN x] h λv h'=>∃r:Sl,v=r/\Sp h h' [dN r (bo m)]:=by
 refine Ox x ?_;unfold Hg;refine(Sp.refl h).boxed λD L k=>?_;refine⟨x,(k.box 0 i0).aS _ i0,(aaK x m L (y.up k.ai) w).mono ?_⟩;rintro _ F ⟨b,rfl,G⟩;have j:=k.comp G;have q:=Le m w;obtain⟨l,n⟩:∃l,l=gz m:=⟨_,rfl⟩
 rw[<-n]at j q;have J:=(j.own 1 i0).len;have u:=(j.own 1 i0).cap;refine⟨b,i0,i5,?_⟩;have g:qc xN (wH (qc xN ((qc xN (((b.len:Nat):Int)+(48:Int)))-(1:Int))) (48:Int))=(ij l:Int):=by rw[ak ((b.len:Int)+48),ak ((b.len:Int)+48-1),Int.tdiv_eq_ediv_of_nonneg i4];unfold ij;rw[ak (((b.len:Int)+48-1)/48)];omega
 have M:ij l<=3000:=by unfold ij;omega
 rw[g];obtain⟨d,a⟩:∃d:cP,d=bo m:=⟨_,rfl⟩
 have z:ii d=ij l:=by rw[a,n];simp[bo]
 have c:Sp h F [dN ⟨eH,0,0⟩ (d.take 0),aw D 44 (aX x),aq 5 b 1 aE l]:=j.xT 34 5 1 aE;refine av (λt:Sl×Nat=>(t.1,(t.2:Int))) (λt h'=>t.2<=ij l/\Sp h h' [dN t.1 (d.take t.2),aw D 44 (aX x),aq 5 b 1 aE l]) (λt=>ij l-t.2) (⟨eH,0,0⟩,0) i0 ⟨i9,c⟩ ?_;rintro⟨o,i⟩ h3 ⟨S,c⟩;dsimp only at*;refine aj (λe=>?_) (λe=>?_)
 ·have p:i<ij l:=i4
  have B:48*i<ii l:=by unfold ij at p;omega
  rw[ak ((i:Int)*48),ak ((i:Int)+1),ak (((i:Int)+1)*48)];obtain⟨f,O⟩:∃f:Nat,f=min (48*i+48) l.length:=⟨_,rfl⟩
  have s:(if((i:Int)+1)*48<((b.len:Nat):Int)then((i:Int)+1)*48 else((b.len:Nat):Int))=(f:Int):=by split<;>omega
  rw[s];refine⟨m.seq,by rw[<-y.seq];exact(c.box 1 i0).cell0 i0,⟨i4,i4,i4⟩,?_⟩;have H:((i:Int)*48).toNat=48*i:=i4
  rw[H,ql];have E:=((c.seq 2 i0 λ_=>rfl).drop (48*i) u).take (f-48*i) l5;have e2:(l.drop (48*i)).take (f-48*i)=(l.drop (48*i)).take 48:=by
   by_cases R:48*i+48<=ii l
   ·rw[show f-48*i=48 by omega]
   ·rw[qi l5,qi l5]
  rw[e2,z6]at E;refine(aaL m.seq i (ij l) ⟨_,f-48*i,b.cap-48*i⟩ _ h3 (by rw[z6];exact E) i7).mono ?_;rintro _ Q ⟨r,rfl,K⟩;have A:=(c.cD K).bs 4 [1,0,2,3];refine⟨r,i0,trivial,?_⟩;refine A.oO af bt fj i0 [r] i0 (show 1*1<=2^20 by decide) i0 trivial ?_;refine A.DW af fj i7 λP T N=>⟨trivial,?_⟩
  refine⟨(P,i+1),i0,⟨i6,?_⟩,i6⟩;dsimp only;rw[aK _ _ (show i<ii d by omega)];have I:d[i]'(by omega)=jW m.seq i (ij l) ((l.drop (48*i)).take 48):=by subst a;subst n;simp[bo]
  rw[I];exact N
 ·rw[qi i4,a]at c;exact⟨o,i0,c.ck [0]⟩
theorem VM(s:Sl)(a:List eC)(h:f8)(c:Rd h s 4 bQ a)(f:ii a<=2^30):ac xR 129 #[s] h λv h'=>∃r:Sl,v=r/\Sp h h' [aq 94 r 4 bQ a]:=by
 refine mX s ?_;unfold iX;refine bv (λe=>?_) (λe=>?_)
 ·have:=c.isNil e;subst this;exact⟨⟨eH,0,0⟩,i0,(Sp.refl h).nil 94 4 bQ⟩
 ·refine(Sp.refl h).lit af bQ OW i0 ([]:List eC) i0 i5 i0 λj k b=>?_;refine b.append af 0 i0 OW ⟨_,_,i0,i0⟩ i0 i5 (λ_=>rfl) (Seq.up c b.ai) OV i7 λg i d=>?_;exact⟨g,i0,d⟩
def EK(pool:List (Sl×aF))(p:eC×Wl.cb):Prop:=(p.1.1=p.2.name/\p.1.2.1=p.2.object/\p.1.2.2.1=p.2.length)/\(p.1.2.2.2,p.2.tries)∈pool
theorem aa.EL{B:aB}{n h:f8}{As:List HP}{y:cg}{m:aI}{L:List (eC×Wl.cb)}{pool:List (Sl×aF)}(f:y.1=m.seq/\y.2.1=m.next/\(y.2.2.1,y.2.2.2.1,y.2.2.2.2.1)=m.p/\y.2.2.2.2.2.1=m.extra)(l:L.map zH=m.aG)(t:∀p∈L,EK pool p)
  (H:aa B n h (dC 1 aC pool::aq 3 y.2.2.2.2.2.2.1 1 aC m.drives::aq 94 y.2.2.2.2.2.2.2 4 bQ (L.map qJ)::As)):aa B n h (cx y m::As):=by
 have g:=(H.own 2 i0)
 have k:=(H.own 1 i0)
 have v:=((H.freeze 1 i0 λ_=>rfl).freeze 2 i0 λ_=>rfl).ov.ov;refine v.fI 0 i0 λq ⟨G,E,_,b,c,A,w⟩=>?_;obtain⟨F,I,_,s,o,z3,z4⟩:=w;refine⟨f.1,f.2.1,f.2.2.1,f.2.2.2,z3.mono λx i=>c x (s x i),⟨L.map qJ,A.mono b,by rw[<-l];simp,λj r e a d=>?_⟩,k.cap,g.cap⟩;rw[<-l]at d;rw[qR]at a d;cases hj:L[j]? with
 |none=>rw[hj]at a;cases a
 |some p=>
  rw[hj]at a d;have u:=zS.inj (show dB p.1=dB r from a);have e2:=zS.inj (show dB p.2=dB e from d);subst u;subst e2;obtain⟨z,D⟩:=t p (yi hj);exact⟨z,(z4 _ D).mono λx i=>c x (o x i)⟩
theorem nC(x:cg)(m:aI)(h:f8)(w:dY h x m)(J:db m):ac xR 61 #[fN x] h λv h'=>∃(y:cg) (L:List (eC×Wl.cb)) (pool:List (Sl×aF)),v=fN y/\(y.1=m.seq/\y.2.1=m.next/\(y.2.2.1,y.2.2.2.1,y.2.2.2.2.1)=m.p/\y.2.2.2.2.2.1=m.extra)/\L.map zH=m.aG/\(∀p∈L,EK pool p)/\
  Sp h h' [dC 1 aC pool,aq 3 y.2.2.2.2.2.2.1 1 aC m.drives,aq 94 y.2.2.2.2.2.2.2 4 bQ (L.map qJ)]:=by
 refine Tm x ?_;unfold Mf;refine(Sp.refl h).boxed λS k H1=>?_;refine H1.alloc af i0 λR n H=>?_;have A:=H.box 0 i0;have hM:∀{h':f8} {As:List HP},Sp h h' As->dY h' x m:=λ{h' As} H'=>w.up H'.ai;obtain⟨b,O⟩:=bE.fix w.aG;have ah:=O.2.1;have am:=J.dr;have ao:=J.ob;refine bg ⟨x.2.2.2.2.2.2.1,A.cell i0,x.2.2.2.2.2.2.2,A.cell i0,?_⟩;refine(jy _ m.drives n (hM H).drives i4).mono ?_;rintro _ h3 ⟨d,rfl,W⟩;have G:=H.comp W;refine⟨d,i0,⟨(G.box 0 i0).cell i0,trivial⟩,?_⟩;refine(VM _ b h3 (nU.up O G.ai).1 i4).mono ?_;rintro _ h4 ⟨o,rfl,X⟩;have H4:=G.comp X;refine⟨o,i0,trivial,?_⟩;refine H4.store af 0 i0 i0 6 [d] i0 i0 i0 j9 λh5 Z=>⟨trivial,?_⟩
 refine Z.store af 0 i0 i0 7 [o] i0 i0 i0 j9 λh6 q=>⟨trivial,?_⟩
 obtain⟨y,u⟩:∃y:cg,y=(x.1,x.2.1,x.2.2.1,x.2.2.2.1,x.2.2.2.2.1,x.2.2.2.2.2.1,d,o):=⟨_,rfl⟩
 have q:Sp h h6 [aw S 44 (aX y),aw R 44 [xH xN 0,xH xN 0,xH xN 0,xH xN 0,xH xN 0,xH xN 0,xI eH 0 0,xI eH 0 0],aq 3 d 1 aC m.drives,aq 94 o 4 bQ b]:=by rw[u];exact q
 have c:y.2.2.2.2.2.2.2=o:=by rw[u]
 have I:y.2.2.2.2.2.2.1=d:=by rw[u]
 refine⟨o,by rw[<-c];exact(q.box 0 i0).cell i0,?_⟩;have ab:=(q.own 3 i0).len;have q:=q.Xf 1 aC;refine av (λt:List eC×List (Sl×aF)=>(t.1.length:Int)) (λt h'=>t.1.length<=m.aG.length/\(∀(j:Nat) r e,t.1[j]?=dB r->m.aG[j]?=dB e->(r.1=e.name/\r.2.1=e.object/\r.2.2.1=e.length)/\(r.2.2.2,e.tries)∈t.2)/\Sp h h' [dC 1 aC t.2,aw S 44 (aX y),aw R 44 [xH xN 0,xH xN 0,xH xN 0,xH xN 0,xH xN 0,xH xN 0,xI eH 0 0,xI eH 0 0],aq 3 d 1 aC m.drives,aq 94 o 4 bQ (t.1++b.drop t.1.length)]) (λt=>m.aG.length-t.1.length) ([],[]) i0 ⟨i9,λj r e k=>by simp at k,q⟩ ?_;rintro⟨a,pool⟩ h7 ⟨hi,D,l⟩;dsimp only at*;refine aj (λe=>?_) (λe=>?_)
 ·have s:a.length<m.aG.length:=i4
  have F7:=nU.up O l.ai;obtain⟨⟨y1,y2,T⟩,V⟩:=Fix.row F7 s;have f:(a++b.drop a.length)[a.length]'(by simp;omega)=b[a.length]'(by omega):=i9
  obtain⟨P,ha,zz,hc,rfl⟩:=(l.seq 4 rfl λ_=>rfl).dQ (g:=bQ) (i:=(a.length:Int)) a.length rfl i7 (b[a.length]'(by omega)) (by rw[f]) (K:=λt=>t=b[a.length]'(by omega)) i0;refine⟨o,by rw[<-c];exact(l.box 1 i0).cell i0,o,by rw[<-c];exact(l.box 1 i0).cell i0,P,ha,_,hc.2.2.2.1,?_⟩;have U:=(J.nm _ (qg s)).2;refine(jy _ m.aG[a.length].tries h7 V i4).mono ?_;rintro _ h8 ⟨t,rfl,R8⟩;have z:=l.cD R8;refine⟨t,i0,⟨by rw[<-c];exact(z.box 2 i0).cell i0,by rw[<-c];exact(z.box 2 i0).cell i0,trivial⟩,?_⟩;refine z.acF af 5 i0 (λ_=>rfl) i0 a.length i0 i7 3 [t] i9 ((b[a.length]'(by omega)).1,(b[a.length]'(by omega)).2.1,(b[a.length]'(by omega)).2.2.1,t) i0 i0 i0 (by rw[f];simp[bQ]) λh9 B=>⟨trivial,?_⟩
  have B:=(B.freeze 0 i0 λ_=>rfl).bs 6 [1,0,2,3,4,5];have B:=B.Xg;refine⟨(a++[((b[a.length]'(by omega)).1,(b[a.length]'(by omega)).2.1,(b[a.length]'(by omega)).2.2.1,t)],(t,m.aG[a.length].tries)::pool),by simp only[qx,List.length_singleton];rw[ak _];rfl,⟨i7,λj r e k n=>?_,?_⟩,i7⟩
  ·dsimp only at k⊢;by_cases F:j<a.length
   ·rw[qm F]at k;obtain⟨g1,g2⟩:=D j r e k n;exact⟨g1,List.mem_cons_of_mem _ g2⟩
   ·have M:j=a.length:=by have:=(qo.1 k).1;simp at this;omega
    subst M;rw[qj (qn _),zc]at k;simp at k;rw[qd s]at n;injection n with n
    subst k;subst n;exact⟨⟨y1,y2,T⟩,List.mem_cons_self⟩
  ·dsimp only;have e4:(a++b.drop a.length).set a.length ((b[a.length]'(by omega)).1,(b[a.length]'(by omega)).2.1,(b[a.length]'(by omega)).2.2.1,t)=a++[((b[a.length]'(by omega)).1,(b[a.length]'(by omega)).2.1,(b[a.length]'(by omega)).2.2.1,t)]++b.drop (a++[((b[a.length]'(by omega)).1,(b[a.length]'(by omega)).2.1,(b[a.length]'(by omega)).2.2.1,t)]).length:=by rw[q7 _ _ (qn _),zc,qV (show a.length<b.length by omega),zq];simp
   rw[<-e4];exact B
 ·have ad:a.length=m.aG.length:=i4
  rw[zf i4,qN]at l;refine⟨y,(l.box 1 i0).aS _ i0,?_⟩;refine l.storeAll af 2 i0 i0 (aX y) i0 i0 i0 i0 λh8 z=>?_;have Q:(a.zip m.aG).map qJ=a:=List.map_fst_zip i4;have N:(a.zip m.aG).map zH=m.aG:=List.map_snd_zip i4;refine⟨y,(z.box 2 i0).aS _ i0,y,a.zip m.aG,pool,i0,⟨by rw[u];exact w.seq,by rw[u];exact w.next,by rw[u];exact w.p,by rw[u];exact w.extra⟩,N,λp Y=>?_,?_⟩
  ·obtain⟨j,F,rfl⟩:=qH Y;have E:j<a.length/\j<m.aG.length:=by simp at F;omega
   have:=D j _ _ (qd E.1) (qd E.2);rw[vh];exact this
  ·rw[Q,I,c];exact z.ck [0,3,4]
theorem MW(x:cg)(m:aI)(h:f8)(a:dY h x m)(b:db m):ac xR 61 #[fN x] h λv h'=>∃y:cg,v=fN y/\Sp h h' [cx y m]:=by refine(nC x m h a b).mono ?_;rintro _ h' ⟨y,L,pool,rfl,c,e,d,H⟩;exact⟨y,i0,aa.EL c e d H⟩
end Go.Qw
namespace Go.Vc
open Go Wl
abbrev bF:=Int×Int×Int×Int×Int×Int×Int×Sl
abbrev bR(x:bF):be:=[xH xN x.1,xH xN x.2.1,xH xN x.2.2.1,xH xN x.2.2.2.1,xH xN x.2.2.2.2.1,xH xN x.2.2.2.2.2.1,xH xP x.2.2.2.2.2.2.1,x.2.2.2.2.2.2.2]
abbrev recv(x:bF):Value:=xM #[xH xN x.1,xH xN x.2.1,xH xN x.2.2.1,xH xN x.2.2.2.1,xH xN x.2.2.2.2.1,xH xN x.2.2.2.2.2.1,xH xP x.2.2.2.2.2.2.1,x.2.2.2.2.2.2.2]
theorem afV:∀x,∀c∈bR x,c.oneCell'=eL:=by intro x c a;simp[bR]at a;rcases a with rfl|rfl|rfl|rfl|rfl|rfl|rfl|rfl<;>rfl
def iw(x y:Int):Int:=if x<y then-1 else if x>y then 1 else 0
def lU(a b:bF):Int:=if iw a.1 b.1≠0 then iw a.1 b.1 else if iw a.2.1 b.2.1≠0 then iw a.2.1 b.2.1 else iw a.2.2.1 b.2.2.1
def co(a b:bF):Bool:=decide (lU a b<=0)
theorem je(x y:Int):(x<y/\iw x y=-1)∨(x>y/\iw x y=1)∨(x=y/\iw x y=0):=by
 unfold iw;by_cases a:x<y
 ·exact .inl ⟨a,f9 a⟩
 ·by_cases b:x>y
  ·exact .inr (.inl ⟨b,by rw[g0 a,f9 b]⟩)
  ·exact .inr (.inr ⟨i4,by rw[g0 a,g0 b]⟩)
theorem Dw(a b:bF):lU a b<=0↔a.1<b.1∨(a.1=b.1/\(a.2.1<b.2.1∨(a.2.1=b.2.1/\a.2.2.1<=b.2.2.1))):=by
 unfold lU;rcases je a.1 b.1 with⟨h1,e1⟩|⟨h1,e1⟩|⟨h1,e1⟩
 ·rw[e1,f9 i5];omega
 ·rw[e1,f9 i5];omega
 ·rw[e1,g0 i5];rcases je a.2.1 b.2.1 with⟨h2,e2⟩|⟨h2,e2⟩|⟨h2,e2⟩
  ·rw[e2,f9 i5];omega
  ·rw[e2,f9 i5];omega
  ·rw[e2,g0 i5];rcases je a.2.2.1 b.2.2.1 with⟨h3,e3⟩|⟨h3,e3⟩|⟨h3,e3⟩<;>rw[e3]<;>omega
theorem sg(a b:bF):lU a b<0↔¬co b a=eL:=by
 unfold co;rw[decide_eq_true_eq,Dw];unfold lU;rcases je a.1 b.1 with⟨h1,e1⟩|⟨h1,e1⟩|⟨h1,e1⟩
 ·rw[e1,f9 i5];omega
 ·rw[e1,f9 i5];omega
 ·rw[e1,g0 i5];rcases je a.2.1 b.2.1 with⟨h2,e2⟩|⟨h2,e2⟩|⟨h2,e2⟩
  ·rw[e2,f9 i5];omega
  ·rw[e2,f9 i5];omega
  ·rw[e2,g0 i5];rcases je a.2.2.1 b.2.2.1 with⟨h3,e3⟩|⟨h3,e3⟩|⟨h3,e3⟩<;>rw[e3]<;>omega
theorem aaM(a b:bF):lU a b=0↔(a.1=b.1/\a.2.1=b.2.1/\a.2.2.1=b.2.2.1):=by
 unfold lU;rcases je a.1 b.1 with⟨h1,e1⟩|⟨h1,e1⟩|⟨h1,e1⟩
 ·rw[e1,f9 i5];omega
 ·rw[e1,f9 i5];omega
 ·rw[e1,g0 i5];rcases je a.2.1 b.2.1 with⟨h2,e2⟩|⟨h2,e2⟩|⟨h2,e2⟩
  ·rw[e2,f9 i5];omega
  ·rw[e2,f9 i5];omega
  ·rw[e2,g0 i5];rcases je a.2.2.1 b.2.2.1 with⟨h3,e3⟩|⟨h3,e3⟩|⟨h3,e3⟩<;>rw[e3]<;>omega
theorem dO:Ord co:=⟨λa b c e d=>by
 unfold co at*;rw[decide_eq_true_eq,Dw]at*;omega,λa b=>by
 unfold co;rw[Bool.or_eq_true,decide_eq_true_eq,decide_eq_true_eq,Dw,Dw];omega⟩
theorem TL{α:Type}(A B C:List α)(x y:α){i j:Nat}(b:i=ii A)(c:j=ii A+1+ii B):
  (A++x::(B++y::C))[i]?=dB x/\(A++x::(B++y::C))[j]?=dB y/\((A++x::(B++y::C)).set i y).set j x=A++y::(B++x::C)/\((A++x::(B++y::C)).set j x).set i y=A++y::(B++x::C):=by
 subst b;subst c;have a:ii A+1+ii B-ii A=ii B+1:=i4
 refine⟨by rw[qj (qn _),zc];rfl,?_,?_,?_⟩
 ·rw[qj i4,a,qu,qj (qn _),zc];rfl
 ·rw[q7 _ _ (qn _),zc,zq,q7 _ _ i4,a,zx,q7 _ _ (qn _),zc,zq]
 ·rw[q7 _ _ (show A.length<=ii A+1+ii B by omega),a,zx,q7 _ _ (qn _),zc,zq,q7 _ _ (qn _),zc,zq]
end Go.Vc
namespace Go.Qw
open Go Go.Vc Go.Proofs Wl
abbrev ahz:bL C.toCM 189 170 8 [xH xN 0,xH xN 0,xH xN 0,xH xN 0,xH xN 0,xH xN 0,xH xP 0,xI eH 0 0] 80:=⟨_,_,i0,i0,i0,i0,i0,i0⟩
theorem ug(x y:Int)(h:f8):ac xR 183 #[xH xN x,xH xN y] h λv h'=>v=xH xN (iw x y)/\h'=h:=by
 refine rL x y ?_;unfold nP;have a:∀z:Int,ac xR 233 #[xH xN z] h λv h'=>v=xL eR/\h'=h:=λz=>by
  refine uz z ?_;unfold rf;exact⟨i9,i0⟩
 refine(a x).mono ?_;rintro _ _ ⟨rfl,rfl⟩;refine⟨_,i0,(a y).mono ?_⟩;rintro _ _ ⟨rfl,rfl⟩;refine⟨_,i0,bv (λe=>j0) λ_=>bv (λe=>j0) λ_=>?_⟩;refine aj (λe=>⟨by rw[iw,f9 e],i0⟩) λe=>aj (λe2=>⟨by rw[iw,g0 e,f9 e2],i0⟩) λe2=>⟨by rw[iw,g0 e,g0 e2],i0⟩
theorem rk(a b:bF)(h:f8):ac xR 197 #[recv a,recv b] h λv h'=>v=xH xN (lU a b)/\Sp h h' []:=by
 refine OM a b ?_;unfold HB;refine(Sp.refl h).boxed λt J D=>D.boxed λw f k=>?_;have k:Sp h f [aw t 170 (bR a),aw w 170 (bR b)]:=k;have o:=k.box 0 i0;have s:=k.box 1 i0;have y:f7 f (t.add 1)=dB (xH xN a.2.1):=o.cell i0;have A:f7 f (w.add 1)=dB (xH xN b.2.1):=s.cell i0;have c3:f7 f (t.add 2)=dB (xH xN a.2.2.1):=o.cell i0;have x:f7 f (w.add 2)=dB (xH xN b.2.2.1):=s.cell i0;refine⟨a.1,o.cell0 i0,b.1,s.cell0 i0,a.2.1,y,b.2.1,A,a.2.2.1,c3,b.2.2.1,x,(ug _ _ f).mono ?_⟩;rintro _ _ ⟨rfl,rfl⟩;refine⟨_,i0,⟨x,c3,A,y,trivial⟩,(ug _ _ _).mono ?_⟩;rintro _ _ ⟨rfl,rfl⟩;refine⟨_,i0,⟨x,c3,trivial⟩,(ug _ _ _).mono ?_⟩;rintro _ M ⟨rfl,rfl⟩;refine⟨_,i0,trivial,?_⟩;refine k.oO af aC ⟨_,_,i0,i0,i0,i0,i0,i0⟩ i0 [iw a.1 b.1,iw a.2.1 b.2.1,iw a.2.2.1 b.2.2.1] i0 (show 3*1<=2^20 by decide) i0 trivial ?_;refine k.lit af aC ⟨_,_,i0,i0,i0,i0,i0,i0⟩ i0 [iw a.1 b.1,iw a.2.1 b.2.1,iw a.2.2.1 b.2.2.1] i0 (show 3*1<=2^20 by decide) i0 λd z q=>?_;refine(Dl d (R:=λv h'=>v=xH xN (lU a b)/\h'=z) ?_).mono ?_
 ·unfold Aw;have B:=q.seq 2 i0 λ_=>rfl;have G:=(q.own 2 i0).len;obtain⟨L,g⟩:∃L,L=[iw a.1 b.1,iw a.2.1 b.2.1,iw a.2.2.1 b.2.2.1]:=⟨_,rfl⟩
  rw[<-g]at B G;have E:ii L=3:=by rw[g];rfl
  refine av (λi:Nat=>(i:Int)) (λi h'=>i<=3/\(∀j,j<i->L[j]?=dB 0)/\h'=z) (λi=>3-i) 0 i0 ⟨i4,i4,i0⟩ ?_;rintro i H ⟨K,n,rfl⟩;have c:0<i->iw a.1 b.1=0:=λh0=>by have:=n 0 h0;rw[g]at this;simpa using this
  have m:1<i->iw a.2.1 b.2.1=0:=λh0=>by have:=n 1 h0;rw[g]at this;simpa using this
  have u:2<i->iw a.2.2.1 b.2.2.1=0:=λh0=>by have:=n 2 h0;rw[g]at this;simpa using this
  refine aj (λe=>?_) (λe=>?_)
  ·have l:i<ii L:=by have F:(i:Int)<(d.len:Int):=e;omega
   refine B.bB i i0 l L[i] i0 ?_;refine cv (λe2=>⟨?_,i0⟩) (λe2=>?_)
   ·congr 1;unfold lU;have:i=0∨i=1∨i=2:=i4
    subst g;rcases this with rfl|rfl|rfl
    ·exact(f9 (show iw a.1 b.1≠0 from e2)).symm
    ·rw[g0 (by rw[c i4];simp)];exact(f9 (show iw a.2.1 b.2.1≠0 from e2)).symm
    ·rw[g0 (by rw[c i4];simp),g0 (by rw[m i4];simp)];rfl
   ·refine⟨i+1,js,⟨i4,λj I=>?_,i0⟩,i4⟩;by_cases p:j=i
    ·subst p;rw[qd l,e2]
    ·exact n j i4
  ·have r:i=3:=by have F:¬(i:Int)<(d.len:Int):=e;omega
   subst r;refine⟨?_,i0⟩;unfold lU;rw[c i4,m i4,u i4];rfl
 ·rintro _ H ⟨rfl,rfl⟩;exact⟨_,i0,trivial,i0,.zip q.ai⟩
abbrev cJ(s:Sl)(d:List bF):HP:=aq 170 s 8 bR d
section
variable {B:aB} {h0 h h':f8} {As:List HP} {s:Sl} {d:List bF}
theorem sh(X U M V Y:List bF)(n:Nat)(a b:Int)(R:ii U=n)(S:ii V=n)(J:a=(ii X:Int))(A:b=(ii X+n+ii M:Nat))(L:ii X+n+ii M+n+ii Y<=2^40)(H:aa B h0 h (cJ s (X++(U++(M++(V++Y))))::As)):
  ac xR 329 #[s,xH xN a,xH xN b,xH xN n,.func (.func 197) #[] #[]] h λv h'=>v=.tuple #[]/\aa B h0 h' (cJ s (X++(V++(M++(U++Y))))::As):=by
 refine mB s a b n (197,#[],#[]) ?_;unfold iH;subst J;subst A;refine av (λk:Nat=>(k:Int)) (λk h'=>k<=n/\aa B h0 h' (cJ s (X++(V.take k++U.drop k++(M++(U.take k++V.drop k++Y))))::As)) (λk=>n-k) 0 i0 ⟨i4,l6⟩ ?_;rintro k Q ⟨T,f⟩;refine aj (λe=>?_) (λe=>?_)
 ·have G:k<n:=i4
  have m:k<ii U:=i4
  have q:k<ii V:=i4
  have d:X++(V.take k++U.drop k++(M++(U.take k++V.drop k++Y)))=(X++V.take k)++U[k]::((U.drop (k+1)++(M++U.take k))++V[k]::(V.drop (k+1)++Y)):=by rw[qV m,qV q];simp only[qp,zt,wm]
  have c:X++(V.take (k+1)++U.drop (k+1)++(M++(U.take (k+1)++V.drop (k+1)++Y)))=(X++V.take k)++V[k]::((U.drop (k+1)++(M++U.take k))++U[k]::(V.drop (k+1)++Y)):=by rw[aK V k q,aK U k m];simp only[qp,zt,wm]
  rw[d]at f;obtain⟨z,x,y,K⟩:=TL (X++V.take k) (U.drop (k+1)++(M++U.take k)) (V.drop (k+1)++Y) U[k] V[k] (i:=ii X+k) (j:=ii X+n+ii M+k) i7 i7;obtain⟨D,E⟩:∃D,D=(X++V.take k)++U[k]::((U.drop (k+1)++(M++U.take k))++V[k]::(V.drop (k+1)++Y)):=⟨_,rfl⟩
  rw[<-E]at f z x y K;have t:=(qo.1 z)
  have u:=(qo.1 x)
  obtain⟨p,r⟩:=t;obtain⟨o,w⟩:=u;have I:qc xN ((ii X:Int)+k)=((ii X+k:Nat):Int):=j3
  have O:qc xN (((ii X+n+ii M:Nat):Int)+k)=((ii X+n+ii M+k:Nat):Int):=j3
  rw[I,O];refine(f.seq 0 i0 λ_=>rfl).dQ (g:=bR) _ i0 o V[k] (by rw[w]) ?_;refine(f.seq 0 i0 λ_=>rfl).dQ (g:=bR) _ i0 p U[k] (by rw[r]) ?_;refine f.set af 0 i0 (λ_=>rfl) i0 (ii X+k) i0 p V[k] i0 i0 i0 λP N=>⟨trivial,?_⟩
  refine N.set af 0 i0 (λ_=>rfl) i0 (ii X+n+ii M+k) i0 oi U[k] i0 i0 i0 λh3 F=>⟨trivial,?_⟩
  refine⟨k+1,js,⟨i4,?_⟩,i4⟩;rw[c,<-y];exact F
 ·have:k=n:=i4
  subst this;rw[qi (l:=V) i4,zf (l:=U) i4,qi (l:=U) i4,zf (l:=V) i4]at f;refine⟨i0,?_⟩;simpa using f
theorem VN(X U V Y:List bF)(a m b:Int)(G:0<ii U)(J:0<ii V)(F:a=(ii X:Int))(x:m=(ii X+ii U:Nat))(y:b=(ii X+ii U+ii V:Nat))(I:ii X+ii U+ii V+ii Y<=2^40)(H:aa B h0 h (cJ s (X++(U++(V++Y)))::As)):
  ac xR 322 #[s,xH xN a,xH xN m,xH xN b,.func (.func 197) #[] #[]] h λv h'=>v=.tuple #[]/\aa B h0 h' (cJ s (X++(V++(U++Y)))::As):=by
 refine nA s a m b (197,#[],#[]) ?_;unfold jt;subst F;subst x;subst y;have D:qc xN (((ii X+ii U:Nat):Int)-ii X)=(ii U:Int):=j3
 have e2:qc xN (((ii X+ii U+ii V:Nat):Int)-(ii X+ii U:Nat))=(ii V:Int):=j3
 rw[D,e2];refine av (λt:List bF×List bF×List bF×List bF=>((ii t.2.1:Int),(ii t.2.2.1:Int))) (λt h'=>0<ii t.2.1/\0<ii t.2.2.1/\X.length+ii t.1+ii t.2.1=ii X+ii U/\V++U=t.1++((t.2.2.1++t.2.1)++t.2.2.2)/\aa B h0 h' (cJ s (X++(t.1++(t.2.1++(t.2.2.1++(t.2.2.2++Y)))))::As)) (λt=>ii t.2.1+ii t.2.2.1) ([],U,V,[]) i0 ⟨G,J,i9,i9,l6⟩ ?_;rintro⟨P,A,c,Q⟩ q ⟨N,O,x,o,p⟩;dsimp only at*;have g:=congrArg vp o;simp only[qx]at g;refine cv (λe=>aj (λE=>?_) λE=>?_) (λe=>?_)
 ·--the left one is longer
  have r:ii c<ii A:=i4
  have z:A=A.take c.length++A.drop c.length:=(qA _ _).symm;have f:ii (A.take c.length)=ii c:=i7
  have i:qc xN (((ii X+ii U:Nat):Int)-ii A)=(ii (X++P):Int):=by rw[ak _];simp;omega
  rw[i];have d:aa B h0 q (cJ s ((X++P)++(A.take c.length++(A.drop c.length++(c++(Q++Y)))))::As):=by
   have:(X++P)++(A.take c.length++(A.drop c.length++(c++(Q++Y))))=X++(P++(A++(c++(Q++Y)))):=by
    conv=>rhs;rw[z]
    simp only[qp,zt,wm]
   rw[this];exact p
  refine(sh (X++P) (A.take c.length) (A.drop c.length) c (Q++Y) c.length _ _ f i0 i0 i7 i7 d).mono ?_;rintro _ w ⟨rfl,k⟩;refine⟨(),i0,(P++c,A.drop c.length,A.take c.length,Q),?_,⟨l0,i6,l0,?_,?_⟩,l0⟩
  ·dsimp only;rw[f,ak _];simp;omega
  ·dsimp only;rw[o,qA];simp
  ·dsimp only;have:X++((P++c)++(A.drop c.length++(A.take c.length++(Q++Y))))=(X++P)++(c++(A.drop c.length++(A.take c.length++(Q++Y)))):=i9
   rw[this];exact k
 ·have r:ii A<ii c:=i4
  obtain⟨j,M⟩:∃j,j=ii c-ii A:=⟨_,rfl⟩
  have K:c=c.take j++c.drop j:=(qA _ _).symm;have n:ii (c.drop j)=ii A:=i7
  have l:ii (c.take j)=j:=i7
  have i:qc xN (((ii X+ii U:Nat):Int)-ii A)=(ii (X++P):Int):=by rw[ak _];simp;omega
  have L:qc xN ((qc xN (((ii X+ii U:Nat):Int)+ii c))-ii A)=((ii (X++P)+ii A+ii (c.take j):Nat):Int):=by rw[ak (((ii X+ii U:Nat):Int)+ii c),ak _,l];simp;omega
  rw[i,L];have d:aa B h0 q (cJ s ((X++P)++(A++(c.take j++(c.drop j++(Q++Y)))))::As):=by
   have:(X++P)++(A++(c.take j++(c.drop j++(Q++Y))))=X++(P++(A++(c++(Q++Y)))):=by
    conv=>rhs;rw[K]
    simp only[qp,zt,wm]
   rw[this];exact p
  refine(sh (X++P) A (c.take j) (c.drop j) (Q++Y) A.length _ _ i0 n i0 i0 i7 d).mono ?_;rintro _ w ⟨rfl,k⟩;refine⟨(),i0,(P,c.drop j,c.take j,A++Q),?_,⟨i6,i6,i6,?_,?_⟩,i6⟩
  ·dsimp only;rw[l,n,ak _];congr 1;omega
  ·dsimp only;rw[o,qA];simp
  ·dsimp only;have:X++(P++(c.drop j++(c.take j++((A++Q)++Y))))=(X++P)++(c.drop j++(c.take j++(A++(Q++Y)))):=i9
   rw[this];exact k
 ·have u:ii A=ii c:=i4
  have i:qc xN (((ii X+ii U:Nat):Int)-ii A)=(ii (X++P):Int):=by rw[ak _];simp;omega
  rw[i];have d:aa B h0 q (cJ s ((X++P)++(A++([]++(c++(Q++Y)))))::As):=by
   have:(X++P)++(A++([]++(c++(Q++Y))))=X++(P++(A++(c++(Q++Y)))):=i9
   rw[this];exact p
  refine(sh (X++P) A [] c (Q++Y) A.length _ _ i0 u.symm i0 i7 i7 d).mono ?_;rintro _ w ⟨rfl,k⟩;refine⟨(),i0,i0,?_⟩;have:X++(V++(U++Y))=(X++P)++(c++([]++(A++(Q++Y)))):=by
   have:V++(U++Y)=(V++U)++Y:=i9
   rw[this,o];simp
  rw[this];exact k
end
end Go.Qw
namespace Wl
open Go
theorem Yp(l:bc)(x:UInt8):dh (l++[x])=dh l*256+x.toNat:=by unfold dh;rw[List.foldl_append];rfl
theorem TM:∀l:bc,ii l<=4->0<=dh l/\dh l<4294967296/\(ii l<=3->dh l<16777216)
 |[],_=>by simp[dh]
 |[a],_=>by have:=a.toNat_lt;simp only[dh,zy,wE];omega
 |[a,b],_=>by have:=a.toNat_lt;have:=b.toNat_lt;simp only[dh,zy,wE];omega
 |[a,b,c],_=>by have:=a.toNat_lt;have:=b.toNat_lt;have:=c.toNat_lt;simp only[dh,zy,wE];omega
 |[a,b,c,d],_=>by have:=a.toNat_lt;have:=b.toNat_lt;have:=c.toNat_lt;have:=d.toNat_lt;simp only[dh,zy,wE,zo,yE];omega
 |_::_::_::_::_::_,h=>ld
theorem ahA(n x:Nat)(f:n<2^32)(e:x<256):qc xN (((qD (qk xN) (qc xN ((n:Int)*2^min (8:Int).toNat (qk xN)))|||qD (qk xN) (qc xN (x:Int))).toNat:Nat):Int)=(n:Int)*256+x:=by
 have d:min (8:Int).toNat (qk xN)=8:=rfl;rw[d];have a:qc xN ((n:Int)*2^8)=((n*256:Nat):Int):=by rw[Go.Vc.ak _];omega
 have e2:qc xN (x:Int)=((x:Nat):Int):=Go.Vc.ak _;rw[a,e2];have c:(qD (qk xN) ((n*256:Nat):Int)|||qD (qk xN) ((x:Nat):Int)).toNat=n*256+x:=by show((qD 64 ((n*256:Nat):Int)|||qD 64 ((x:Nat):Int):BitVec 64)).toNat=n*256+x;rw[BitVec.toNat_or,yg,yg,wU,wU,wo i4,wo i4];have:=Nat.shiftLeft_add_eq_or_of_lt (b:=x) (i:=8) i4 n;rw[Nat.shiftLeft_eq,show(2:Nat)^8=256 from rfl]at this;omega
 rw[c,Go.Vc.ak _];omega
end Wl
namespace Go.Vc
open Go Wl
def fg:iM bF dD:=⟨λh q a b=>(a.1=b.object/\a.2.1=b.block/\a.2.2.1=b.id/\(a.2.2.2.1,a.2.2.2.2.1,a.2.2.2.2.2.1)=b.p/\a.2.2.2.2.2.2.1=b.seed/\0<=b.seed/\b.seed<4294967296)/\Seq h q a.2.2.2.2.2.2.2 1 aE b.data,λa d=>⟨a.1,a.2.ai d⟩,λa c=>⟨a.1,a.2.mono c⟩⟩
end Go.Vc
namespace Go.Qw
open Go Go.Vc Go.Proofs Wl
theorem AG{p q:aB}(a b:Sl)(c d:bc)(h:f8)(f:Seq h p a 1 aE c)(e:Seq h q b 1 aE d):
  ac xR 99 #[a,b] h λv h'=>v=xL (decide (c=d))/\h'=h:=by
 refine Mq a b ?_;unfold Fx;refine WT af ⟨_,i0,i0⟩ ⟨_,i0,i0⟩ ⟨_,i0,i0⟩ f (WT af ⟨_,i0,i0⟩ ⟨_,i0,i0⟩ ⟨_,i0,i0⟩ e ⟨?_,i0⟩);rw[ByteArray.toList_mk,ByteArray.toList_mk];have:(c==d)=decide (c=d):=by rw[Bool.eq_iff_iff];simp
 rw[this]
theorem EM(b:Sl)(c:bc)(h:f8)(g:Rd h b 1 aE c)(y:ii c<=2^30)(d:b.len<=b.cap):
  ac xR 76 #[b] h λv h'=>(fh c=eH->v=.tuple #[xH xN 0,xI eH 0 0,xL eR]/\Sp h h' [])/\
   ∀k x,fh c=dB (k,x)->∃r:Sl,v=.tuple #[xH xN k,r,xL eL]/\Sp h h' [aq 5 r 1 aE x]:=by
 refine QU b ?_;unfold JK;have w:=g.len;refine cv (λe=>?_) (λe=>?_)
 ·have:fh c=eH:=by unfold fh;rw[g0 λa=>e i4]
  rw[this];exact⟨λ_=>⟨i0,Sp.refl h⟩,λk x h=>j6⟩
 have l:ii c=64:=i4
 have h3:3<ii c:=i4
 refine g.RJ 3 i0 h3 ((c.getD 3 0).toNat:Int) (by rw[getD_lt h3];rfl) λz n=>⟨⟨i5,i5,i4⟩,?_⟩
 have f:=(g.drop 4 d).take 55 i7;have p:ii ((c.drop 4).take 55)=55:=i7
 refine(eI ⟨_,55,b.cap-4⟩ ((c.drop 4).take 55) h f i4).mono ?_;rintro _ u ⟨r,rfl,m⟩;refine⟨r,i0,kf m.ai ⟨n,trivial⟩,?_⟩;have A:=(c.getD 3 0).toNat_lt;rw[ak ((c.getD 3 0).toNat:Int)];refine(HW ((c.getD 3 0).toNat:Int) r ((c.drop 4).take 55) u (m.seq 0 i0 λ_=>rfl)).mono ?_;rintro _ s ⟨q,rfl,t⟩;have i:=m.comp t;refine⟨q,i0,(AG b q c _ s (g.up i.ai) (i.seq 1 i0 λ_=>rfl)).mono ?_⟩;rintro _ h3 ⟨rfl,rfl⟩;refine⟨_,i0,bm (λe2=>?_) λe2=>?_⟩
 ·have j:c≠ey ((c.getD 3 0).toNat:Int) ((c.drop 4).take 55):=of_decide_eq_false e2;have:fh c=eH:=by unfold fh;rw[g0 λa=>j a.2.symm]
  rw[this];exact⟨λ_=>⟨i0,.zip i.ai⟩,λk x h=>j6⟩
 ·have o:c=ey ((c.getD 3 0).toNat:Int) ((c.drop 4).take 55):=hY e2;have:fh c=dB (((c.getD 3 0).toNat:Int),(c.drop 4).take 55):=by unfold fh;rw[f9 ⟨l,o.symm⟩]
  rw[this];refine⟨λh=>j6,λk x a=>?_⟩;injection a with a
  injection a with hh1 hh2
  subst hh1;subst hh2;exact⟨r,i0,i.ck [0]⟩
theorem Qg(b:Sl)(l:bc)(h:f8)(d:Rd h b 1 aE l)(k:ii l<=4):ac xR 246 #[b] h λv h'=>v=xH xN (dh l)/\h'=h:=by
 refine MP b ?_;unfold FM;have f:=d.len;refine av (λi:Nat=>(dh (l.take i),(i:Int))) (λi h'=>i<=ii l/\h'=h) (λi=>ii l-i) 0 i0 ⟨i4,i0⟩ ?_;rintro i o ⟨p,rfl⟩;dsimp only;refine aj (λe=>?_) (λe=>?_)
 ·have a:i<ii l:=i4
  refine d.bB i i0 a (l[i].toNat:Int) i0 ⟨i5,?_⟩;have c:=(TM (l.take i) i7)
  have g:=c.2.2 i7;have m:=l[i].toNat_lt;obtain⟨n,j⟩:∃n:Nat,dh (l.take i)=(n:Int):=⟨(dh (l.take i)).toNat,i4⟩
  refine⟨i+1,?_,⟨i4,i0⟩,i4⟩;rw[aK _ _ a,Yp,j,ahA n _ i4 i4,ak ((i:Int)+1)];rfl
 ·rw[qi i4];exact⟨i0,i0⟩
theorem Ka(x:bF)(r:dD)(h:f8)(E:dX fg h x r):ac xR 184 #[recv x] h λv h'=>v=xL (jc r)/\Sp h h' []:=by
 refine OK x ?_;unfold Hy;obtain⟨⟨D,e2,G,m,J,_⟩,z⟩:=E;have q:x.2.2.2.1=r.p.1:=congrArg (·.1) m;have s:x.2.2.2.2.1=r.p.2.1:=congrArg (·.2.1) m;have f:x.2.2.2.2.2.1=r.p.2.2:=congrArg (·.2.2) m;have d:=Seq.len z;refine(Sp.refl h).boxed λa i c=>?_;have c:Sp h i [aw a 170 (bR x)]:=c;have k:=c.box 0 i0;have y:f7 i a=dB (xH xN r.object):=by rw[<-D];exact k.cell0 i0
 have u:f7 i (a.add 1)=dB (xH xN r.block):=by rw[<-e2];exact k.cell i0
 have w:f7 i (a.add 2)=dB (xH xN r.id):=by rw[<-G];exact k.cell i0
 have t:∀{h':f8},Sp h h' [aw a 170 (bR x)]->(jc r=eL->False)->Value.bool eR=xL (jc r)/\Sp h h' []:=λ{h'} H' hn=>⟨by cases hq:jc r with|false=>rfl|true=>exact absurd hq hn,.zip H'.ai⟩
 refine cE (λb h'=>b=decide ((0<=r.object/\r.object<=16777215)/\(0<=r.block/\r.block<=7)/\(0<=r.id/\r.id<=65535))/\h'=i) ?_ ?_
 ·refine⟨_,y,aj (λI=>⟨_,y,aj (λj=>⟨_,u,aj (λF=>⟨_,u,aj (λA=>⟨_,w,aj (λB=>⟨_,w,?_,i0⟩) λB=>⟨?_,i0⟩⟩) λA=>⟨?_,i0⟩⟩) λF=>⟨?_,i0⟩⟩) λj=>⟨?_,i0⟩⟩) λI=>⟨?_,i0⟩⟩
  ·rw[decide_eq_decide];omega
  all_goals (symm;rw[decide_eq_false_iff_not];omega)
 ·rintro _ _ ⟨rfl,rfl⟩;refine aj (λg=>?_) λg=>t c λo=>g (by have:=(kC r).1 o;omega);refine⟨r.p,by rw[<-q,<-s,<-f];exact k.Jh 3 i0 i0 i0,(dM r.p _).mono ?_⟩;rintro _ h3 ⟨rfl,H⟩;have n:Sp h h3 [aw a 170 (bR x)]:=c.up H.ai;have e:=n.box 0 i0;refine⟨_,i0,bv (λj=>?_) λj=>t n λo=>by have:=((kC r).1 o).2.2.2.1;rw[j]at this;cases this⟩;refine⟨x.2.2.2.2.2.2.2,e.cell i0,r.p.2.2,by rw[<-f];exact e.AF 3 2 i0,?_,.zip n.ai⟩;congr 1;by_cases l:(r.data.length:Int)=r.p.2.2
  ·have:jc r=eL:=(kC r).2 ⟨i4,i4,i4,j,l⟩;rw[this,d];simpa using l
  ·have:jc r=eR:=by
    cases hq:jc r with
    |false=>rfl
    |true=>exact absurd ((kC r).1 hq).2.2.2.2 l
   rw[this,d];simpa using l
section
variable {B:aB} {h0 h h':f8} {As:List HP}
theorem nD(s:Sl)(l:bc)(n:Int)(k:Nat)(q:k<=4)(m:ii l<=2^30)(H:aa B h0 h (aq 5 s 1 aE l::As)):
  ac xR 185 #[s,xH xN n,xH xN k] h λv h'=>∃r:Sl,v=r/\aa B h0 h' (aq 5 r 1 aE (l++bY n k)::As):=by
 refine Js s n k ?_;unfold BO;rw[ak ((k:Int)-1)];refine av (λt:Sl×Nat=>(t.1,(k:Int)-1-t.2)) (λt h'=>t.2<=k/\aa B h0 h' (aq 5 t.1 1 aE (l++(bY n k).take t.2)::As)) (λt=>k-t.2) (s,0) i9 ⟨i9,l6⟩ ?_;rintro⟨r,t⟩ p ⟨o,a⟩;dsimp only at*;refine aj (λe=>?_) (λe=>?_)
 ·have b:t<k:=i4
  have d:qc xN ((8:Int)*((k:Int)-1-t))=((8*(k-1-t):Nat):Int):=by rw[ak _];omega
  rw[d,ql];have e2:min (8*(k-1-t)) (qk xN)=8*(k-1-t):=by have:qk xN=64:=rfl;omega
  rw[e2,dR];refine⟨i4,?_⟩;refine a.push af 0 i0 gj i0 i5 (λ_=>rfl) gH (b8 (qX n (2^(8*(k-1-t))))) i0 i5 l9 λi j g=>?_;refine⟨(i,t+1),?_,⟨i6,?_⟩,i6⟩
  ·dsimp only;have f:qc xN ((k:Int)-1-t-1)=(k:Int)-1-((t+1:Nat):Int):=by rw[ak _];omega
   rw[f]
  ·dsimp only;have c:(bY n k).take t++[b8 (qX n (2^(8*(k-1-t))))]=(bY n k).take (t+1):=by rw[aK _ _ (by rw[cy];exact b)];congr 2;simp[bY]
   rw[<-c,<-qp];exact g
 ·have:t=k:=i4
  subst this;rw[qi (by rw[cy];omega)]at a;exact⟨r,i0,a⟩
end
theorem CC(x:bF)(r:dD)(h:f8)(D:dX fg h x r):ac xR 112 #[recv x] h λv h'=>∃s:Sl,v=s/\Sp h h' [aq 5 s 1 aE (dW r)]:=by
 refine OD x ?_;unfold Hn;obtain⟨⟨Q,e2,S,k,Y,e7,e8⟩,N⟩:=id D;have t:x.2.2.2.1=r.p.1:=congrArg (·.1) k;have y:x.2.2.2.2.1=r.p.2.1:=congrArg (·.2.1) k;have q:x.2.2.2.2.2.1=r.p.2.2:=congrArg (·.2.2) k;refine(Sp.refl h).boxed λe I b=>?_;have b:Sp h I [aw e 170 (bR x)]:=b;refine⟨x,(b.box 0 i0).aS _ i0,(Ka x r I (fg.mono (fg.loc D b.ai) λ_ L=>qM L b.ai.1)).mono ?_⟩;rintro _ M ⟨rfl,O⟩;have w:Sp h M [aw e 170 (bR x)]:=b.up O.ai;refine⟨_,i0,bm (λg=>?_) λg=>?_⟩
 ·unfold dW;rw[g];exact⟨⟨eH,0,0⟩,i0,(w.nil 5 1 aE).ck [1]⟩
 have W:=oQ g;have j:=w.box 0 i0;refine⟨r.object,by rw[<-Q];exact j.cell0 i0,(nD ⟨eH,0,0⟩ [] r.object 3 i5 i9 (w.nil 5 1 aE).bN).mono ?_⟩;rintro _ h3 ⟨H,rfl,E⟩;have n:=E.box 1 i0;refine⟨H,i0,r.block,by rw[<-e2];exact n.cell i0,(nD H _ r.block 1 i5 o8 E).mono ?_⟩;rintro _ Z ⟨F,rfl,G⟩;have o:=G.box 1 i0;refine⟨F,i0,r.id,by rw[<-S];exact o.cell i0,(nD F _ r.id 2 i5 o8 G).mono ?_⟩;rintro _ h5 ⟨V,rfl,J⟩;have a:=J.box 1 i0;refine⟨V,i0,r.p.1,by rw[<-t];exact a.cell i0,r.p.2.1,by rw[<-y];exact a.AF 3 1 i0,r.p.2.2,by rw[<-q];exact a.AF 3 2 i0,?_⟩;dsimp only;rw[dR,dR,dR];refine J.lit af aE gj i0 [b8 r.p.1,b8 r.p.2.1,b8 r.p.2.2] i0 (show 3*1<=2^20 by decide) i0 λR h6 A=>?_;refine A.append af 0 i0 gj ⟨_,_,i0,i0⟩ i0 i5 (λ_=>rfl) (A.seq 2 i0 λ_=>rfl) gH o8 λB T f=>?_;have f:Sp h T [aq 5 B 1 aE ([]++bY r.object 3++bY r.block 1++bY r.id 2++[b8 r.p.1,b8 r.p.2.1,b8 r.p.2.2]),aw e 170 (bR x)]:=f.ck [0,1];have m:=f.box 1 i0;refine⟨r.seed,by rw[<-Y];exact m.cell i0,?_⟩;dsimp only;rw[ak r.seed];refine(nD B _ r.seed 4 i5 o8 f).mono ?_;rintro _ h8 ⟨U,rfl,u⟩;have l:=u.box 1 i0;refine⟨U,i0,x.2.2.2.2.2.2.2,l.cell i0,?_⟩;refine u.append af 0 i0 gj ⟨_,_,i0,i0⟩ i0 i5 (λ_=>rfl) (Seq.up N u.ai) gH l9 λz K d=>?_;have P:[]++bY r.object 3++bY r.block 1++bY r.id 2++[b8 r.p.1,b8 r.p.2.1,b8 r.p.2.2]++bY r.seed 4++r.data=iO r:=by unfold iO;simp[qp]
 have d:Sp h K [aq 5 z 1 aE (iO r),aw e 170 (bR x)]:=by rw[<-P];exact d
 refine(HW 1 z (iO r) K (d.seq 0 i0 λ_=>rfl)).mono ?_;rintro _ X ⟨c,rfl,i⟩;refine⟨c,i0,c,i0,?_⟩;unfold dW;rw[g,f9 rfl];exact(d.comp i).ck [2]
theorem TN(b:Sl)(c:bc)(h:f8)(hb:Rd h b 1 aE c)(hc:c.length<=2^30)(ab:b.len<=b.cap):
  ac xR 194 #[b] h λv h'=>∃x:bF,v=.tuple #[recv x,xL (dL c).isSome]/\(dL c=eH->Sp h h' [])/\∀r,dL c=dB r->Sp h h' [EA fg x r]:=by
 refine MH b ?_;unfold FI;refine(Sp.refl h).alloc af i0 λf h1 V=>?_;have V:Sp h h1 [aw f 170 (bR (0,0,0,0,0,0,0,⟨eH,0,0⟩))]:=V;have w:∀{h':f8} {Bs:List HP},Sp h h' (aw f 170 (bR (0,0,0,0,0,0,0,⟨eH,0,0⟩))::Bs)->dL c=eH->
   ag xR (qf 170 (xJ (dB f)) (recv (0,0,0,0,0,0,0,⟨eH,0,0⟩))) h' λ_ H=>∃P:bF,an H f 0 (bR P)/\∃x:bF,Value.tuple #[recv P,xL eR]=.tuple #[recv x,xL (dL c).isSome]/\(dL c=eH->Sp h H [])/\∀r,dL c=dB r->Sp h H [EA fg x r]:=λ{h' Bs} H' E=>by
  refine H'.storeAll af 0 i0 i0 (bR (0,0,0,0,0,0,0,⟨eH,0,0⟩)) i0 i0 i0 i0 λH H4=>?_;exact⟨(0,0,0,0,0,0,0,⟨eH,0,0⟩),(H4.box 0 i0).aS _ i0,(0,0,0,0,0,0,0,⟨eH,0,0⟩),by rw[E];rfl,λ_=>.zip H4.ai,λr O=>by rw[E]at O;cases O⟩
 refine(EM b c h1 (hb.up V.ai) hc ab).mono ?_;rintro _ h2 ⟨Q0,Q1⟩;cases htc:fh c with
 |none=>
  obtain⟨rfl,R2⟩:=Q0 htc;have E:dL c=eH:=by unfold dL;rw[htc]
  exact⟨(0,⟨eH,0,0⟩,eR),i0,bg (bm (λ_=>w (V.up R2.ai) E) λe=>j0)⟩
 |some kx=>
  obtain⟨k,x⟩:=kx;obtain⟨r,rfl,R2⟩:=Q1 k x htc;have s:Sp h h2 [aw f 170 (bR (0,0,0,0,0,0,0,⟨eH,0,0⟩)),aq 5 r 1 aE x]:=V.comp R2;have a2:x.length=55:=by
   unfold fh at htc;split at htc
   ·rename_i m;injection htc with htc
    injection htc with _ htc
    rw[<-htc];simp;omega
   ·cases htc
  have a7:=(s.own 1 i0).len;have S:=(s.own 1 i0).cap;refine⟨(k,r,eL),i0,bg (bm (λe=>j0) λ_=>cv (λe=>w s ?_) λL=>?_)⟩
  ·unfold dL;rw[htc];exact g0 λm=>e m.1
  dsimp only;have L:k=1:=L;obtain⟨R,t⟩:∃R,R=uF x:=⟨_,rfl⟩
  have I:dL c=if bI R.p=eL/\dW R=c then dB R else eH:=by
   unfold dL;rw[htc];dsimp only;rw[<-t];by_cases m:bI R.p=eL/\dW R=c
   ·rw[f9 m];exact f9 ⟨L,m⟩
   ·rw[g0 m];exact g0 λh=>m h.2
  have tA:∀{h':f8},Rd h' r 1 aE x->ac xR 246 #[xI r.ptr 3 r.cap] h' λv M=>v=xH xN R.object/\M=h':=λ{h'} O=>by
   rw[t];exact Qg ⟨r.ptr,3,r.cap⟩ (x.take 3) h' (O.take 3 i4) i7
  have N:∀{h':f8} (j n:Nat),j+n<=55->n<=4->Rd h' r 1 aE x->ac xR 246 #[.slice (if r.cap=j then r.ptr else r.ptr.map (·.add (j*1))) n (r.cap-j)] h' λv M=>v=xH xN (dh ((x.drop j).take n))/\M=h':=λ{h'} j n hjn E O=>
   Qg ⟨if r.cap=j then r.ptr else r.ptr.map (·.add (j*1)),n,r.cap-j⟩ ((x.drop j).take n) h' ((O.drop j S).take n l5) i7
  have rd:∀{h':f8} {A:HP} {Bs:List HP},Sp h h' (A::aq 5 r 1 aE x::Bs)->Rd h' r 1 aE x:=λ{h' A Bs} H'=>H'.seq 1 i0 λ_=>rfl;have JD:∀{h':f8} {A A2:HP} {Bs:List HP},Sp h h' (A::A2::aq 5 r 1 aE x::Bs)->Rd h' r 1 aE x:=λ{h' A A2 Bs} H'=>H'.seq 2 i0 λ_=>rfl;refine cE (λ(a:fz) h'=>Sp h h' [aw a 170 (bR (R.object,R.block,R.id,0,0,0,0,⟨eH,0,0⟩)),aw f 170 (bR (0,0,0,0,0,0,0,⟨eH,0,0⟩)),aq 5 r 1 aE x]) ?_ ?_
  ·have eb:dh ((x.drop 3).take 1)=R.block:=pt
   have ei:dh ((x.drop 4).take 2)=R.id:=pt
   have fin:∀{h':f8} {a:fz},Sp h h' [aw f 170 (bR (0,0,0,0,0,0,0,⟨eH,0,0⟩)),aq 5 r 1 aE x,aw a 170 (bR (0,0,0,0,0,0,0,⟨eH,0,0⟩))]->
     ag xR (qf 170 (xJ (dB a)) (recv (R.object,R.block,R.id,0,0,0,0,⟨eH,0,0⟩))) h' λ_ H=>aA.ok [] H/\Sp h H [aw a 170 (bR (R.object,R.block,R.id,0,0,0,0,⟨eH,0,0⟩)),aw f 170 (bR (0,0,0,0,0,0,0,⟨eH,0,0⟩)),aq 5 r 1 aE x]:=λ{h' a} H'=>
    H'.storeAll af 2 i0 i0 (bR (R.object,R.block,R.id,0,0,0,0,⟨eH,0,0⟩)) i0 i0 i0 i0 λH H4=>⟨trivial,H4.ck [2,0,1]⟩
   have A_:∀{h':f8} {Bs:List HP} {K:Int->f8->Prop},Sp h h' (aw f 170 (bR (0,0,0,0,0,0,0,⟨eH,0,0⟩))::aq 5 r 1 aE x::Bs)->K R.object h'->ae xR 246 #[xI r.ptr 3 r.cap] (.one (.sc (.int .i64))) h' K:=λ{h' Bs K} H' hK=>by
    refine(tA (rd H')).mono ?_;rintro _ _ ⟨rfl,rfl⟩;exact⟨_,i0,hK⟩
   have B_:∀{h':f8} {Bs:List HP} {K:Int->f8->Prop},Sp h h' (aw f 170 (bR (0,0,0,0,0,0,0,⟨eH,0,0⟩))::aq 5 r 1 aE x::Bs)->K R.block h'->ae xR 246 #[.slice (if r.cap=3 then r.ptr else r.ptr.map (·.add (3*1))) 1 (r.cap-3)] (.one (.sc (.int .i64))) h' K:=λ{h' Bs K} H' hK=>by
    refine(N 3 1 i5 i5 (rd H')).mono ?_;rintro _ _ ⟨rfl,rfl⟩;exact⟨_,i0,by rw[eb];exact hK⟩
   have C_:∀{h':f8} {Bs:List HP} {K:Int->f8->Prop},Sp h h' (aw f 170 (bR (0,0,0,0,0,0,0,⟨eH,0,0⟩))::aq 5 r 1 aE x::Bs)->K R.id h'->ae xR 246 #[.slice (if r.cap=4 then r.ptr else r.ptr.map (·.add (4*1))) 2 (r.cap-4)] (.one (.sc (.int .i64))) h' K:=λ{h' Bs K} H' hK=>by
    refine(N 4 2 i5 i5 (rd H')).mono ?_;rintro _ _ ⟨rfl,rfl⟩;exact⟨_,i0,by rw[ei];exact hK⟩
   refine⟨⟨i5,i4⟩,⟨i5,i5,i4⟩,⟨i5,i5,i4⟩,A_ s ⟨trivial,B_ s ⟨trivial,C_ s ⟨trivial,?_⟩,?_⟩,?_⟩,?_⟩
   ·refine s.alloc af i0 λa9 h9 i=>⟨trivial,?_⟩
    exact fin i
   ·refine s.alloc af i0 λa9 h9 i=>⟨trivial,?_⟩
    exact C_ i ⟨trivial,fin i⟩
   ·refine s.alloc af i0 λa9 h9 i=>⟨trivial,?_⟩
    exact B_ i ⟨trivial,C_ i ⟨trivial,fin i⟩⟩
   ·refine s.alloc af i0 λa9 h9 i=>⟨trivial,?_⟩
    exact A_ i ⟨trivial,B_ i ⟨trivial,C_ i ⟨trivial,fin i⟩⟩⟩
  ·rintro a9 h5 H5;have J:0<=R.seed/\R.seed<4294967296:=by have:=TM ((x.drop 9).take 4) i7;rw[t];exact⟨this.1,this.2.1⟩
   have e6:dh ((x.drop 6).take 1)=R.p.1:=pt
   have e7:dh ((x.drop 7).take 1)=R.p.2.1:=pt
   have e8:dh ((x.drop 8).take 1)=R.p.2.2:=pt
   have e9:dh ((x.drop 9).take 4)=R.seed:=pt
   refine bg ⟨⟨i5,i5,i4⟩,⟨i5,i5,i4⟩,⟨i5,i5,i4⟩,(N 6 1 i5 i5 (JD H5)).mono ?_⟩;rintro _ _ ⟨rfl,rfl⟩;refine⟨_,i0,trivial,(N 7 1 i5 i5 (JD H5)).mono ?_⟩;rintro _ _ ⟨rfl,rfl⟩;refine⟨_,i0,trivial,(N 8 1 i5 i5 (JD H5)).mono ?_⟩;rintro _ a5 ⟨rfl,rfl⟩;refine⟨_,i0,trivial,?_⟩;dsimp only;rw[e6,e7,e8];refine H5.store af 0 i0 i0 3 [xH xN R.p.1,xH xN R.p.2.1,xH xN R.p.2.2] i0 i0 i0 i9 λam y=>⟨trivial,?_⟩
   have y:Sp h am [aw a9 170 (bR (R.object,R.block,R.id,R.p.1,R.p.2.1,R.p.2.2,0,⟨eH,0,0⟩)),aw f 170 (bR (0,0,0,0,0,0,0,⟨eH,0,0⟩)),aq 5 r 1 aE x]:=y;refine⟨⟨i5,i5,i4⟩,(N 9 4 i5 i5 (JD y)).mono ?_⟩;rintro _ a4 ⟨rfl,rfl⟩;refine⟨_,i0,?_⟩;dsimp only;have ew:qc xP (dh ((x.drop 9).take 4))=R.seed:=by rw[e9];unfold qc;simp[qk,ve];omega
   rw[ew];refine y.store af 0 i0 i0 6 [xH xP R.seed] i0 i0 i0 i9 λT D=>?_;have D:Sp h T [aw a9 170 (bR (R.object,R.block,R.id,R.p.1,R.p.2.1,R.p.2.2,R.seed,⟨eH,0,0⟩)),aw f 170 (bR (0,0,0,0,0,0,0,⟨eH,0,0⟩)),aq 5 r 1 aE x]:=D;refine⟨R.p,(D.box 0 i0).Jh 3 i0 i0 i0,(dM R.p T).mono ?_⟩;rintro _ Z ⟨rfl,ap⟩;have z:Sp h Z [aw a9 170 (bR (R.object,R.block,R.id,R.p.1,R.p.2.1,R.p.2.2,R.seed,⟨eH,0,0⟩)),aw f 170 (bR (0,0,0,0,0,0,0,⟨eH,0,0⟩)),aq 5 r 1 aE x]:=D.up ap.ai;refine⟨_,i0,bm (λg=>w (z.bs 2 [1,0]) (by rw[I,g0 λm=>by rw[g]at m;cases m.1])) λg=>?_⟩;have a8:=(ce R.p).1 g;refine⟨R.p.2.2,(z.box 0 i0).AF 3 2 i0,?_⟩;dsimp only;rw[ak ((13:Int)+R.p.2.2)];refine⟨⟨i5,i4,i4⟩,?_⟩;have ao:((13:Int)+R.p.2.2).toNat-(13:Int).toNat=R.p.2.2.toNat:=i4
   rw[ao];have F:(x.drop 13).take R.p.2.2.toNat=R.data:=pt
   have G:=((JD z).drop 13 S).take R.p.2.2.toNat l5;rw[F]at G;have a3:R.data.length=R.p.2.2.toNat:=by rw[<-F];simp;omega
   refine(eI ⟨if r.cap=13 then r.ptr else r.ptr.map (·.add (13*1)),R.p.2.2.toNat,r.cap-13⟩ R.data Z G i4).mono ?_;rintro _ bb ⟨u,rfl,ar⟩;have a0:=z.comp ar;refine⟨u,i0,?_⟩;refine a0.store af 0 i0 i0 7 [u] i0 i0 i0 i9 λW l=>?_;have l:Sp h W [aw a9 170 (bR (R.object,R.block,R.id,R.p.1,R.p.2.1,R.p.2.2,R.seed,u)),aw f 170 (bR (0,0,0,0,0,0,0,⟨eH,0,0⟩)),aq 5 r 1 aE x,aq 5 u 1 aE R.data]:=l;obtain⟨X,hX⟩:∃X:bF,X=(R.object,R.block,R.id,R.p.1,R.p.2.1,R.p.2.2,R.seed,u):=⟨_,rfl⟩
   rw[<-hX]at l;have Q:∀{h':f8} {q:aB},Seq h' q u 1 aE R.data->fg.p h' q X R:=λ{h' q} hs=>by rw[hX];exact⟨⟨i0,i0,i0,i0,i0,J⟩,hs⟩
   refine⟨X,(l.box 0 i0).aS _ i0,(CC X R W (Q (l.seq 3 i0 λ_=>rfl))).mono ?_⟩;rintro _ ah ⟨s5,rfl,ay⟩;have o:=l.comp ay;refine⟨s5,i0,(AG b s5 c (dW R) ah (hb.up o.ai) (o.seq 4 i0 λ_=>rfl)).mono ?_⟩;rintro _ a6 ⟨rfl,rfl⟩;refine⟨_,i0,bm (λY=>w (o.bs 2 [1,0]) (by rw[I,g0 λm=>(of_decide_eq_false Y) m.2.symm])) λY=>?_⟩;have Y:c=dW R:=hY Y;refine⟨X,(o.box 0 i0).aS _ i0,?_⟩;refine o.storeAll af 1 i0 i0 (bR X) i0 i0 i0 i0 λad U=>?_;have d:dL c=dB R:=by rw[I,f9 ⟨g,Y.symm⟩]
   refine⟨X,(U.box 1 i0).aS _ i0,X,by rw[d];rfl,λE=>(by rw[d]at E;cases E),λr' B=>?_⟩;rw[d]at B;injection B with B
   subst B;have ax:Sp h ad [aq 5 u 1 aE R.data]:=U.ck [3];exact ax.fI 0 i0 λq hq=>Q (hq.1.seq (λ_=>rfl) hq.2)
end Go.Qw
namespace Go.Vc
open Go Wl Go.Qw
section
variable {B:aB} {h0 h h':f8} {As L:List HP} {X Y Z:HP}
theorem aa.aiu(H:aa B h0 h (X::Y::(L++As))):aa B h0 h (L++(X::Y::As)):=
 H.pick (λi=>if i<ii L then i+2 else if i=ii L then 0 else if i=ii L+1 then 1 else i) (λa b c=>by(try dsimp only at c);split at c<;>split at c<;>(try split at c)<;>(try split at c)<;>(try split at c)<;>(try split at c)<;>omega) λi A d=>by
  try dsimp only
  by_cases g:i<ii L
  ·rw[qm g]at d;rw[f9 g,qu,qu,qm g];exact d
  ·rw[qj i4]at d;rw[g0 g];by_cases f:i=ii L
   ·subst f;rw[f9 rfl];rw[zc]at d;exact d
   ·rw[g0 f];by_cases e:i=ii L+1
    ·subst e;rw[f9 rfl];rw[show L.length+1-ii L=1 by omega]at d;exact d
    ·rw[g0 e];obtain⟨j,rfl⟩:∃j,i=ii L+(j+2):=⟨i-ii L-2,i4⟩
     rw[zr,qu,qu]at d;rw[show L.length+(j+2)=(ii L+j)+1+1 by omega,qu,qu,qj i4,zr];exact d
theorem aa.afW(n:Nat)(b:L[n]?=dB X)(H:aa B h0 h (Y::Z::(L++As))):aa B h0 h (X::Z::Y::(L.set n emp++As)):=by
 have a:=(qo.1 b).1;have c:=H.cons (n+2) (A:=X) (by rw[qu,qu,qm a];exact b);have e:(Y::Z::(L++As)).set (n+2) emp=Y::Z::(L.set n emp++As):=by rw[zx,zx,List.set_append_left _ _ a]
 rw[e]at c;exact c.bs 3 [0,2,1]
theorem aa.OX(n:Nat)(f:n<ii L)(H:aa B h0 h (X::Z::Y::(L.set n emp++As))):aa B h0 h (Y::Z::(L.set n X++As)):=
 H.pick (λi=>if i=0 then 2 else if i=1 then 1 else if i=n+2 then 0 else i+1) (λa b c=>by(try dsimp only at c);split at c<;>split at c<;>(try split at c)<;>(try split at c)<;>(try split at c)<;>(try split at c)<;>omega) λi A d=>by
  try dsimp only
  match i,d with
  |0,d=>exact d
  |1,d=>exact d
  |i+2,d=>
   rw[g0 i4,g0 i4];rw[qu,qu]at d;by_cases e:i=n
   ·subst e;rw[qm n5,zm f]at d;rw[f9 rfl];exact d
   ·rw[g0 i4,qu,qu,qu];by_cases g:i<ii L
    ·rw[qm oj,zG i4]at d;rw[qm oj,zG i4];exact d
    ·rw[qj i7,zj]at d;rw[qj i7,zj];exact d
end
structure Kit where
 tS:Nat
 tP:Nat
 tD:Nat
 f:fz->bw->Sl->Sl->be
def ahB(k:Kit)(pw:fz)(a:aT)(d:Option bw):HP:=match a,d with
 |some a,dB d=>ie k.tD (k.f pw) a d
 |_,_=>emp
abbrev cH(b:be)(pw:fz)(offs:Int)(a:List aT):be:=b++(xJ (dB pw)::xH xN offs::a.map .pointer)
structure fS (mc:be) (da:List aT) (ds:aW):Prop where
 l8:ii mc=8
 la:ii da=64
 ls:ii ds=64
 same:∀i:Nat,(da.getD i eH).isSome=(ds.getD i eH).isSome
abbrev fO(k:Kit)(pw:fz)(a:List aT)(ds:aW):List HP:=List.zipWith (ahB k pw) a ds
def bj(k:Kit)(a pw:fz)(c:be)(offs:Int)(b:List aT)(w:Pow)(ds:aW):HP:=
 (HP.all (aw a k.tS (cH c pw offs b)::de k.tP pw w::fO k pw b ds)).and (fS c b ds)
section
variable {k:Kit} {B:aB} {h0 h h':f8} {As:List HP} {a pw:fz} {mc:be} {offs:Int} {da:List aT} {w w':Pow} {ds:aW} {d d':bw} {n:Nat}
theorem EN(ok:fS mc da ds):ii (fO k pw da ds)=64:=by simp[fO,ok.la,ok.ls]
theorem aa.oJ(H:aa B h0 h (bj k a pw mc offs da w ds::As)):fS mc da ds/\aa B h0 h (aw a k.tS (cH mc pw offs da)::de k.tP pw w::(fO k pw da ds++As)):=by obtain⟨H,ok⟩:=H.Ku;exact⟨ok,H.uY⟩
theorem aa.po(ok:fS mc da ds)(H:aa B h0 h (aw a k.tS (cH mc pw offs da)::de k.tP pw w::(fO k pw da ds++As))):aa B h0 h (bj k a pw mc offs da w ds::As):=
 (aa.closeAll (aw a k.tS (cH mc pw offs da)::de k.tP pw w::fO k pw da ds) H).toKu ok
theorem fS.addr(ok:fS mc da ds)(c:ds[n]?=dB (dB d)):∃b,da[n]?=dB (dB b):=by
 have g:n<64:=by have:=(qo.1 c).1;rw[ok.ls]at this;exact this
 have a:=ok.same n;rw[qe,qe,c]at a;have f:n<ii da:=by rw[ok.la];exact g
 rw[qd f]at a⊢;simp at a;obtain⟨b,e⟩:=y9.1 a;exact⟨b,by rw[e]⟩
theorem fS.aaN(ok:fS mc da ds)(d:n<64)(c:ds[n]?=dB eH):da[n]?=dB eH:=by
 have a:=ok.same n;rw[qe,qe,c]at a;have b:n<ii da:=by rw[ok.la];exact d
 rw[qd b]at a⊢;simp at a;rw[a]
theorem fS.set(ok:fS mc da ds){b:fz}(c:da[n]?=dB (dB b)):fS mc da (ds.set n (dB d')):=by
 refine⟨ok.l8,ok.la,by rw[zj];exact ok.ls,λi=>?_⟩;by_cases a:n=i
 ·subst a;have d:n<ii ds:=by have:=(qo.1 c).1;rw[ok.la]at this;rw[ok.ls];exact this
  rw[qe,c,qe,zm d];rfl
 ·rw[qe (l:=ds.set n _),zG a,<-qe];exact ok.same i
theorem adl{b:fz}(c:da[n]?=dB (dB b))(e:n<ii ds):(fO k pw da ds).set n (ie k.tD (k.f pw) b d')=fO k pw da (ds.set n (dB d')):=by
 apply zC;intro j;have d:n<ii da:=(qo.1 c).1;simp only[fO,qY,wk,vb];by_cases a:n=j
 ·subst a;rw[f9 i0,f9 i4,f9 i0,f9 e,c];rfl
 ·simp[a]
def RN(k:Kit)(a pw:fz)(c:be)(offs:Int)(b:List aT)(ds:aW)(n:Nat):HP:=
 (HP.all (aw a k.tS (cH c pw offs b)::(fO k pw b ds).set n emp)).and (fS c b ds)
theorem aa.ko(H:aa B h0 h (bj k a pw mc offs da w ds::As))(e:ds[n]?=dB (dB d)):∃b,da[n]?=dB (dB b)/\aa B h0 h (ie k.tD (k.f pw) b d::de k.tP pw w::RN k a pw mc offs da ds n::As):=by
 obtain⟨ok,l⟩:=H.oJ;obtain⟨b,c⟩:=ok.addr e;refine⟨b,c,?_⟩;have i:(fO k pw da ds)[n]?=dB (ie k.tD (k.f pw) b d):=by simp only[fO,wk,c,e];rfl
 have g:=l.afW n i;have j:aa B h0 h (ie k.tD (k.f pw) b d::de k.tP pw w::((aw a k.tS (cH mc pw offs da)::(fO k pw da ds).set n emp)++As)):=g;exact(((aa.closeAll _ j.aiu).toKu ok).bs 3 [1,2,0]:aa B h0 h (ie k.tD (k.f pw) b d::de k.tP pw w::RN k a pw mc offs da ds n::As))
theorem aa.AH{b:fz}(j:da[n]?=dB (dB b))(H:aa B h0 h (ie k.tD (k.f pw) b d'::de k.tP pw w'::RN k a pw mc offs da ds n::As)):aa B h0 h (bj k a pw mc offs da w' (ds.set n (dB d'))::As):=by
 have l:aa B h0 h (RN k a pw mc offs da ds n::de k.tP pw w'::ie k.tD (k.f pw) b d'::As):=H.bs 3 [2,1,0];obtain⟨l,ok⟩:=l.Ku;have r:=l.uY;have q:n<ii ds:=by have:=(qo.1 j).1;rw[ok.la]at this;rw[ok.ls];exact this
 have s:=EN (k:=k) (pw:=pw) ok;have g:n<ii (fO k pw da ds):=by rw[s,<-ok.ls];exact q
 obtain⟨L,o⟩:∃L,L=fO k pw da ds:=⟨_,rfl⟩
 rw[<-o]at r g;have t:aa B h0 h (ie k.tD (k.f pw) b d'::de k.tP pw w'::aw a k.tS (cH mc pw offs da)::(L.set n emp++As)):=by
  refine r.pick (λi=>if i=0 then 1+ii L+1 else if i=1 then 1+ii L else if i=2 then 0 else if i<3+ii L then i-2 else i) (λx y c=>by(try dsimp only at c);split at c<;>split at c<;>(try split at c)<;>(try split at c)<;>(try split at c)<;>(try split at c)<;>(try split at c)<;>(try split at c)<;>omega) λi A e=>?_
  try dsimp only
  have d:ii (aw a k.tS (cH mc pw offs da)::L.set n emp)=1+ii L:=i7
  match i,e with
  |0,e=>rw[f9 i0,qj i4,d,show 1+ii L+1-(1+ii L)=1 by omega];exact e
  |1,e=>rw[g0 i4,f9 i0,qj i4,d,zc];exact e
  |2,e=>rw[g0 i4,g0 i4,f9 rfl];exact e
  |i+3,e=>
   rw[g0 i4,g0 i4,g0 i4];rw[qu,qu,qu]at e;by_cases m:i<ii L
   ·rw[f9 i4,show i+3-2=i+1 by omega,qm (by rw[d];omega),qu];rw[qm (by simpa using m)]at e;exact e
   ·rw[g0 i4,qj (by rw[d];omega),d,show i+3-(1+ii L)=(i-ii L)+2 by omega,qu,qu];rw[qj i7,zj]at e;exact e
 have p:=aa.OX n g t;rw[o,adl j q]at p;exact p.po (ok.set j)
end
def jJ:iM (Int×Sl) (Int×bc):=⟨λh q a b=>a.1=b.1/\Seq h q a.2 1 aE b.2,λa d=>⟨a.1,a.2.ai d⟩,λa c=>⟨a.1,a.2.mono c⟩⟩
def piv(x:Int×Sl):be:=[xH xN x.1,x.2]
theorem OY:∀x,∀c∈piv x,c.oneCell'=eL:=by intro x c a;simp[piv]at a;rcases a with rfl|rfl<;>rfl
def ig(a:List aT)(slot:Int):aT:=if 0<=slot/\slot<64 then(a[slot.toNat]?).join else eH
theorem nc{g:be}{c:List aT}{ds:aW}(ok:fS g c ds)(slot:Int):
  (bC ds slot=eH/\ig c slot=eH)∨∃(n:Nat) (d:bw) (b:fz),slot=n/\n<64/\ds[n]?=dB (dB d)/\bC ds slot=dB d/\c[n]?=dB (dB b)/\ig c slot=dB b:=by
 unfold bC ig;by_cases h:0<=slot/\slot<64
 ·rw[f9 h,f9 h];have f:slot.toNat<ii ds:=by rw[ok.ls];omega
  cases hd:ds[slot.toNat]with
  |none=>
   have a:ds[slot.toNat]?=dB eH:=by rw[qd f,hd]
   exact .inl ⟨by rw[a];rfl,by rw[ok.aaN i4 a];rfl⟩
  |some d=>
   have a:ds[slot.toNat]?=dB (dB d):=by rw[qd f,hd]
   obtain⟨b,e⟩:=ok.addr a;exact .inr ⟨slot.toNat,d,b,i4,i4,a,by rw[a];rfl,e,n8⟩
 ·rw[g0 h,g0 h];exact .inl ⟨i0,i0⟩
theorem tE{b:be}{pw:fz}{offs:Int}{a:List aT}(h8:ii b=8)(n:Nat):(cH b pw offs a)[10+n]?=(a[n]?).map .pointer:=by unfold cH;rw[qj i4,h8,show 10+n-8=n+1+1 by omega,qu,qu,qR]
theorem TO{a:be}{pw:fz}{offs:Int}{b:List aT}(h8:ii a=8):(cH a pw offs b)[8]?=dB (xJ (dB pw)):=by unfold cH;rw[qj i4,h8];rfl
theorem Yq{a:be}{pw:fz}{offs:Int}{b:List aT}(h8:ii a=8):(cH a pw offs b)[9]?=dB (xH xN offs):=by unfold cH;rw[qj i4,h8];rfl
end Go.Vc
namespace Go.Qw
open Go Go.Vc Go.Proofs Wl
abbrev bu:Go.Vc.Kit:=⟨84,92,156,λpw=>ff pw⟩
theorem TP{e:TypeId}(s:Sl)(l:aF)(h:f8)(c:Own h e s 1 aC l)(a:ii l<2^40):ac xR 172 #[s] h λv h'=>v=xI s.ptr (Lib.compact l).length s.cap/\Own h' e ⟨s.ptr,ii (Lib.compact l),s.cap⟩ 1 aC (Lib.compact l)/\aV (λb=>¬s.on b) h h':=
 LM Tryz.slices_Compact_int Tryz.slices_Compact_int_empty c a
section
variable {B:aB} {h0 h h':f8} {As:List HP} {a pw:fz} {mc:be} {offs:Int} {da:List aT} {w:Pow} {ds:aW}
theorem mv(slot:Int)(ok:fS mc da ds)(d:cA h a 84 (cH mc pw offs da)):ac xR 35 #[xJ (dB a),xH xN slot] h λv h'=>v=.pointer (ig da slot)/\h'=h:=by
 refine CV (dB a) slot ?_;unfold rE;have c:¬(0<=slot/\slot<64)->Value.pointer eH=.pointer (ig da slot)/\h=h:=λe=>by unfold ig;rw[g0 e];exact⟨i0,i0⟩
 refine bg (bv (λe=>j0) λ_=>aj (λe=>c i4) λf=>aj (λe=>c i4) λe2=>?_);have b:slot.toNat<ii da:=p6
 refine⟨a,i0,⟨i4,i4⟩,da[slot.toNat],?_,?_,i0⟩
 ·rw[z6];refine d.AF 10 slot.toNat ?_;rw[tE ok.l8,qd b];rfl
 ·unfold ig;rw[f9 i4,qd b];rfl
theorem aa.cC(H:aa B h0 h (bj bu a pw mc offs da w ds::As)):fS mc da ds/\cA h a 84 (cH mc pw offs da):=by obtain⟨ok,b⟩:=Go.Vc.aa.oJ H;exact⟨ok,b.box 0 i0⟩
theorem MX(s:Sl)(l:aF)(x:Rd h s 1 aC l)(K:ii l<=2^30)(H:aa B h0 h (bj bu a pw mc offs da w ds::As)):
  ac xR 80 #[.func (.func 35) #[xJ (dB a)] #[],s] h λv h'=>∃r:Sl,v=r/\Sp h h' [aq 3 r 1 aC (aN ds l)]:=by
 refine Ts (35,#[xJ (dB a)],#[]) s ?_;unfold Mn;have z:=x.len;obtain⟨ok,u⟩:=aa.cC H;refine av (λt:Sl×Nat=>(t.1,(t.2:Int))) (λt h'=>t.2<=ii l/\Sp h h' [aq 3 t.1 1 aC (aN ds (l.take t.2))]) (λt=>ii l-t.2) (⟨eH,0,0⟩,0) i0 ⟨i9,by simpa[aN]using(Sp.refl h).nil 3 1 aC⟩ ?_;rintro⟨o,i⟩ L ⟨M,j⟩;dsimp only at*;refine aj (λe=>?_) (λe=>?_)
 ·have p:i<ii l:=i4
  have c:aN ds (l.take (i+1))=aN ds (l.take i)++(if isLive ds l[i]then[l[i]]else[]):=by unfold aN;rw[aK _ _ p,zk,zp,vl]
  have A:ii (aN ds (l.take i))<=ii l:=by have:=qP (isLive ds) (l.take i);unfold aN;simp at this⊢;omega
  have next:∀{h':f8} {k:Sl},Sp h h' [aq 3 k 1 aC (aN ds (l.take (i+1)))]->∃m:Sl×Nat,((⟨k.ptr,k.len,k.cap⟩:Sl),qc xN ((i:Int)+1))=(m.1,(m.2:Int))/\(m.2<=ii l/\Sp h h' [aq 3 m.1 1 aC (aN ds (l.take m.2))])/\l.length-m.2<ii l-i:=λ{h' k} H'=>
   ⟨(k,i+1),jj,⟨i6,H'⟩,i6⟩
  refine(Seq.up x j.ai).bB i i0 p l[i] i0 (fa k9 ?_);refine(mv l[i] ok (u.ai j.ai u.lt)).mono ?_;rintro _ G ⟨rfl,rfl⟩;refine⟨_,i0,?_⟩;rcases nc ok l[i]with⟨c1,c2⟩|⟨n,d,b,c0,c1,c2,c3,c4,c5⟩
  ·rw[c2];have g:isLive ds l[i]=eR:=by unfold isLive;rw[c1]
   rw[g]at c;refine bm (λe=>j0) λ_=>next (by rw[c];simpa using j)
  ·rw[c5];have g:isLive ds l[i]=!d.lost:=by unfold isLive;rw[c3]
   refine bm (λ_=>?_) λe=>j0
   obtain⟨J,f,F⟩:=Go.Vc.aa.ko (aa.up H j.ai) c2;rw[c4]at f;injection f with f
   injection f with f
   subst f;obtain⟨E,y,q,_,_⟩:=iI.box F;refine(HV E y q).mono ?_;rintro _ h3 ⟨rfl,rfl⟩;refine⟨_,i0,bm (λe=>?_) λe=>?_⟩
   ·rw[g,e]at c;refine j.push af 0 i0 lx i0 i5 (λ_=>rfl) ir l[i] i0 i5 i4 λk I D=>next ?_
    rw[c];exact D
   ·rw[g,e]at c;exact next (by rw[c];simpa using j)
 ·rw[qi i4]at j;exact⟨o,i0,j⟩
theorem Yr(s:Sl)(l:aF)(O:St B h0 As λh=>Rd h s 1 aC l)(hl:ii l<=2^30)(F:∀x∈l,0<=x/\x<64)(H:aa B h0 h (bj bu a pw mc offs da w ds::As)):
  ac xR 103 #[.func (.func 35) #[xJ (dB a)] #[],s] h λv h'=>v=xH xN (kP (ge l) w ds).1/\aa B h0 h' (bj bu a pw mc offs da (kP (ge l) w ds).2.1 (kP (ge l) w ds).2.2::As):=by
 refine Tv (35,#[xJ (dB a)],#[]) s ?_;unfold Ms;refine(jy s l h (O.at [_] H) i4).mono ?_;rintro _ V ⟨r,rfl,P⟩;have K:=H.cD P;refine⟨r,i0,(HT r l V (K.own 0 i0) i4).mono ?_⟩;rintro _ N ⟨rfl,L,S⟩;have X:=K.kX 0 i0 S L;refine⟨(),i0,(TP r (gK l) N L (by rw[GC];omega)).mono ?_⟩;rintro _ h3 ⟨rfl,T,I⟩;have o:=X.step (D:=aq 3 ⟨r.ptr,ii (Lib.compact (gK l)),r.cap⟩ 1 aC (Lib.compact (gK l))) 0 i0 λq E G=>⟨I.mono λb _ m A=>m (E.2 b A),T,λb m=>⟨qM (G b (E.2 b m)) I.1,.inl (E.2 b m)⟩⟩
 rw[XT l F]at o⊢;obtain⟨u,M⟩:∃u,u=ge l:=⟨_,rfl⟩
 rw[<-M]at o⊢;have o:aa B h0 h3 (aq 3 ⟨r.ptr,ii u,r.cap⟩ 1 aC u::bj bu a pw mc offs da w ds::As):=o;have R:ii u<=64:=by have:=qP (λi=>decide (i∈l)) ((qE 64).map λi:Nat=>(i:Int));rw[M];unfold ge;simpa using this
 refine⟨⟨r.ptr,ii u,r.cap⟩,i0,?_⟩;refine av (λt:Nat×Pow×aW=>(t.1:Int)) (λt h'=>t.1<=ii u/\kP u w ds=kP (u.drop t.1) t.2.1 t.2.2/\aa B h0 h' (aq 3 ⟨r.ptr,ii u,r.cap⟩ 1 aC u::bj bu a pw mc offs da t.2.1 t.2.2::As)) (λt=>ii u-t.1) (0,w,ds) i0 ⟨i9,i0,o⟩ ?_;rintro⟨i,j,f⟩ Z ⟨hi,c,p⟩;dsimp only at*;refine aj (λe=>?_) (λe=>?_)
 ·have y:i<ii u:=i4
  obtain⟨ok,m⟩:=aa.cC p.rest;rw[qV y,DX]at c;refine(p.seq 0 i0 λ_=>rfl).bB i i0 y u[i] i0 (fa k9 ?_);refine(mv u[i] ok m).mono ?_;rintro _ Y ⟨rfl,rfl⟩;refine⟨_,i0,?_⟩;rcases nc ok u[i]with⟨c1,c2⟩|⟨n,d,b,c0,c1,c2,c3,c4,c5⟩
  ·rw[c2];refine(TJ Y).mono ?_;rintro _ U ⟨rfl,rfl⟩;have z:gu j f u[i]=(5,j,f):=by unfold gu;rw[c1]
   rw[z]at c;refine⟨5,i0,cv (λ_=>?_) λe=>absurd e i5⟩;have:kP u w ds=(5,j,f):=c;rw[this];exact⟨i0,p.rest⟩
  ·rw[c5];obtain⟨b',g,W⟩:=Go.Vc.aa.ko (p.bs 2 [1,0]) c2;rw[c4]at g;injection g with g
   injection g with g
   subst g;refine(aaE W).mono ?_;rintro _ U ⟨rfl,Q⟩;have J:=Go.Vc.aa.AH (k:=bu) (n:=n) c4 Q;have z:gu j f u[i]=((d.sync j).1,(d.sync j).2.1,f.set n (dB (d.sync j).2.2)):=by unfold gu;rw[c3];simp only[gh,c0,ql]
   rw[z]at c;refine⟨_,i0,cv (λe2=>?_) λe2=>?_⟩
   ·have:kP u w ds=((d.sync j).1,(d.sync j).2.1,f.set n (dB (d.sync j).2.2)):=by rw[c];exact g0 e2
    rw[this];exact⟨i0,J.pC⟩
   ·refine⟨(i+1,(d.sync j).2.1,f.set n (dB (d.sync j).2.2)),jj,⟨i6,?_,J.bs 2 [1,0]⟩,i6⟩;rw[c];exact f9 e2
 ·rw[zf i4]at c;rw[c];exact⟨i0,p.rest⟩
end
end Go.Qw
namespace Go.Vc
open Go Wl
theorem HP.Dx{h:f8}:∀{L:List HP} {q:aB} {i:Nat} {A:HP},(HP.all L).p h q->L[i]?=dB A->A.p h q
 |A::L,q,0,A',⟨q1,q2,_,b,_,d,_⟩,hi=>by simp at hi;subst hi;exact A.mono d b
 |A::L,q,i+1,A',⟨q1,q2,_,_,c,_,e⟩,hi=>A'.mono (HP.Dx e (by simpa using hi)) c
 |[],_,i,_,_,hi=>by simp at hi
section
variable {α β:Type} {B:aB} {h0 h:f8} {As:List HP} {e e2 k:Nat} {s:Sl} {f:α->be} {ll:List (List α)}
theorem aa.adm(H:aa B h0 h (gy e s e2 k f ll::As))(j:∀x,ii (f x)=k):∃rs,aa B h0 h (cK (ct k f) 1 bt s rs ll::As):=by
 obtain⟨rs,H⟩:=H.DV;obtain⟨H,b⟩:=H.Ku;refine⟨rs,H.fI 0 i0 λq d=>⟨?_,b,λi r l c a=>?_⟩⟩
 ·have:=HP.Dx (i:=0) d i0;exact this.1.seq (λ_=>rfl) this.2
 ·have g:i<ii ll:=(qo.1 a).1;have n:=gg (e:=e2) (k:=k) (f:=f) b i g;have:=HP.Dx (i:=i+1) d n4;have m:rs[i]'(by omega)=r:=by rw[qd i4]at c;simpa using c
  have e2:ll[i]=l:=by rw[qd g]at a;simpa using a
  rw[m,e2]at this;exact this.1.seq j this.2
end
end Go.Vc
namespace Wl
def bH(m:aI)(cj:aF):List (Int×bc):=cj.flatMap λn=>(bo m).map λc=>(n,c)
theorem kJ{m:aI}{cj:aF}{x:Int×bc}(h:x∈bH m cj):x.1∈cj/\x.2.length=64:=by unfold bH at h;obtain⟨n,d,a⟩:=zJ.1 h;obtain⟨c,b,rfl⟩:=qw.1 a;exact⟨d,Eb b⟩
end Wl
namespace Go.Qw
open Go Go.Vc Go.Proofs Wl
theorem kp(m:aI)(a:db m):ii (bo m)<=3000:=by have:=Le m a;unfold bo ij;simp;omega
abbrev TQ:bL C.toCM 89 101 2 [xH xN 0,xI eH 0 0] 32:=⟨_,_,i0,i0,i0,i0,i0,i0⟩
section
variable {B:aB} {h0 h h':f8} {As:List HP} {a pw:fz} {mc:be} {offs:Int} {da:List aT} {w:Pow} {ds:aW}
theorem HY(s:Sl)(r:List (Int×Sl))(P:List (Int×bc))(G:St B h0 As λh=>nU jJ 2 piv h s r P)(hl:ii P<=2^30)(D:∀x∈P,(0<=x.1/\x.1<64)/\x.2.length<=2^20)(H:aa B h0 h (bj bu a pw mc offs da w ds::As)):
  ac xR 44 #[.func (.func 35) #[xJ (dB a)] #[],s] h λv h'=>v=xH xN (layAll P w ds).1/\aa B h0 h' (bj bu a pw mc offs da (layAll P w ds).2.1 (layAll P w ds).2.2::As):=by
 refine VB (35,#[xJ (dB a)],#[]) s ?_;unfold PT;have X:=(G.at [_] H).1.len;have W:=(G.at [_] H).2.1;have Y:=(H.nil 3 1 aC).bN;refine av (λt:Sl×Nat×Pow×aW=>(t.1,(t.2.1:Int))) (λt h'=>t.2.1<=ii P/\kY P w ds=kY (P.drop t.2.1) t.2.2.1 t.2.2.2/\aa B h0 h' (aq 3 t.1 1 aC ((P.take t.2.1).map qJ)::bj bu a pw mc offs da t.2.2.1 t.2.2.2::As)) (λt=>ii P-t.2.1) (⟨eH,0,0⟩,0,w,ds) i0 ⟨i9,i0,by simpa using Y⟩ ?_;rintro⟨o,i,u,m⟩ h1 ⟨hi,f,I⟩;dsimp only at*;refine aj (λe=>?_) (λe=>?_)
 ·have q:i<ii P:=i4
  rw[qV q,xW]at f;have S:=G.at [_,_] I;have L:=D _ (qg q);refine S.1.dQ (g:=piv) i i0 i4 (r[i]'(by omega)) i0 ?_;refine I.alloc af i0 λa4 Q E=>?_;have E:=E.bN;refine E.storeAll af 0 i0 i0 (piv (r[i]'(by omega))) i0 i0 i0 i0 λh3 l=>?_;obtain⟨O,N⟩:=Fix.row (G.at [_,_,_] l) q;have l:aa B h0 h3 (aw a4 101 (piv (r[i]'(by omega)))::aq 3 o 1 aC ((P.take i).map qJ)::bj bu a pw mc offs da u m::As):=l;have l:=l.bs 3 [2,0,1];obtain⟨ok,R⟩:=aa.cC l;obtain⟨c,p⟩:∃c,c=eO u m P[i].1 P[i].2:=⟨_,rfl⟩
  rw[<-p]at f;refine cE (λ_ h'=>c.1=0/\aa B h0 h' (bj bu a pw mc offs da c.2.1 c.2.2::aw a4 101 (piv (r[i]'(by omega)))::aq 3 o 1 aC ((P.take i).map qJ)::As)) ?_ ?_
  ·refine cE (λe h'=>e=c.1/\aa B h0 h' (bj bu a pw mc offs da c.2.1 c.2.2::aw a4 101 (piv (r[i]'(by omega)))::aq 3 o 1 aC ((P.take i).map qJ)::As)) ?_ ?_
   ·refine⟨P[i].1,by rw[<-O];exact(l.box 1 i0).cell0 i0,(r[i]'(by omega)).2,(l.box 1 i0).cell i0,fa k9 ?_⟩;refine(mv P[i].1 ok R).mono ?_;rintro _ J ⟨rfl,rfl⟩;refine⟨_,i0,⟨(l.box 1 i0).cell i0,trivial⟩,?_⟩;rcases nc ok P[i].1 with⟨c1,c2⟩|⟨n,d,b,c0,c1,c2,c3,c4,c5⟩
    ·rw[c2];refine(OU (r[i]'(by omega)).2 P[i].2 J N).mono ?_;rintro _ h5 ⟨rfl,rfl⟩;have z:c=(if P[i].2.length≠64 then 1 else 5,u,m):=by rw[p];unfold eO;rw[c1]
     refine⟨_,i0,trivial,by rw[z],?_⟩;rw[z];exact l
    ·rw[c5];obtain⟨b',j,M⟩:=Go.Vc.aa.ko l c2;rw[c4]at j;injection j with j
     injection j with j
     subst j;refine(VJ (r[i]'(by omega)).2 P[i].2 M N L.2).mono ?_;rintro _ h6 ⟨rfl,U⟩;have T:=Go.Vc.aa.AH (k:=bu) (n:=n) c4 U;have z:c=((d.append u P[i].2).1,(d.append u P[i].2).2.1,m.set n (dB (d.append u P[i].2).2.2)):=by rw[p];unfold eO;rw[c3];simp only[gh,c0,ql]
     refine⟨_,i0,trivial,by rw[z],?_⟩;rw[z];exact T
   ·rintro e4 J ⟨rfl,A⟩;refine cv (λe2=>?_) λe2=>⟨e2,A⟩
    rw[g0 e2]at f;have:layAll P w ds=c:=by unfold layAll;rw[f];exact g0 e2
    rw[this];exact⟨i0,A.pC.pC⟩
  ·rintro _ J ⟨e2,A⟩;rw[f9 e2]at f;refine⟨P[i].1,by rw[<-O];exact(A.box 1 i0).cell0 i0,?_⟩;refine A.push af 2 i0 lx i0 i5 (λ_=>rfl) ir P[i].1 i0 i5 i7 λo' h5 M=>?_;refine⟨(o',i+1,c.2.1,c.2.2),jj,⟨i6,f,?_⟩,i6⟩;dsimp only;rw[aK _ _ q,qT];exact M.bs 3 [2,0]
 ·have K:i=ii P:=i4
  subst K;rw[List.drop_length]at f;rw[q8]at I;have E:=(I.freeze 0 i0 λ_=>rfl).bs 2 [1,0];have F:layAll P w ds=kP (ge (P.map qJ)) u m:=by unfold layAll;rw[f];rfl
  refine(Yr o (P.map qJ) (St.gI 0 i0 λh' Z=>Z) i7 (λx V=>?_) E).mono ?_
  ·obtain⟨y,hy,rfl⟩:=qw.1 V;exact(D y hy).1
  ·rintro _ Q ⟨rfl,l⟩;refine⟨_,i0,by rw[F],?_⟩;rw[F];exact l.pC
theorem Kb(x:cg)(m:aI)(s:Sl)(cj:aF)(h:f8)(X:dY h x m)(F:db m)(U:Rd h s 1 aC cj)(ah:ii cj<=2^10):
  ac xR 45 #[fN x,s] h λv h'=>∃(r:Sl) (ys:List (Int×Sl)),v=r/\Sp h h' [cK jJ 2 piv r ys (bH m cj)]:=by
 refine QR x s ?_;unfold JI;refine(Sp.refl h).boxed λa1 R N=>?_;refine⟨x,(N.box 0 i0).aS _ i0,(nB x m R (X.up N.ai) F).mono ?_⟩;rintro _ Q ⟨r,rfl,R2⟩;have A:=N.cD R2;refine⟨r,i0,?_⟩;obtain⟨rs,A⟩:=A.adm λ_=>rfl;have M:=kp m F;obtain⟨a,w⟩:∃a,a=bo m:=⟨_,rfl⟩
 rw[<-w]at A M;have V:=A.eG 0 i0;have ab:=V.1.len;have am:=V.2.1;have ad:=U.len;obtain⟨T,G⟩:∃T:Int->List ((Int×Sl)×(Int×bc)),T=λn=>(rs.zip a).map λz=>((n,z.1),(n,z.2)):=⟨_,rfl⟩
 have d:∀n,ii (T n)=ii a:=λn=>by rw[G];simp;omega
 have J:∀n,(T n).map zH=a.map λc=>(n,c):=λn=>by
  have F:=List.map_snd_zip (l₁:=rs) (l₂:=a) i4
  conv=>rhs;rw[<-F]
  rw[G];simp[yd,Function.comp_def]
 have P:∀n j (I:j<ii a),(T n)[j]'(by rw[d];exact I)=((n,rs[j]'(by omega)),(n,a[j])):=λn j I=>by subst G;simp
 have f:Sp h Q [aq 101 ⟨eH,0,0⟩ 2 piv (((cj.take 0).flatMap T).map qJ),cK (ct 1 aE) 1 bt r rs a]:=(A.nil 101 2 piv).ck [2,0];have y:∀i,i<=ii cj->ii ((cj.take i).flatMap T)<=i*3000:=λi=>by
  induction i with
  |zero=>simp
  |succ i ih=>
   intro W;rw[aK _ _ (show i<ii cj by omega),zg,qx];have R:=ih i4;have Q:ii ([cj[i]].flatMap T)=ii a:=by rw[zl,wu,qN,d]
   omega
 refine av (λt:Sl×Nat=>(t.1,(t.2:Int))) (λt h'=>t.2<=ii cj/\Sp h h' [aq 101 t.1 2 piv (((cj.take t.2).flatMap T).map qJ),cK (ct 1 aE) 1 bt r rs a]) (λt=>ii cj-t.2) (⟨eH,0,0⟩,0) i0 ⟨i9,f⟩ ?_;rintro⟨o,i⟩ h3 ⟨W,f⟩;dsimp only at*;refine aj (λe=>?_) (λe=>?_)
 ·have D:i<ii cj:=i4
  have ht:=y i W;have hb:i*3000<=2^10*3000:=zB _ i4;refine(Seq.up U f.ai).bB i i0 D cj[i] i0 ?_;refine av (λt:Sl×Nat=>(t.1,(t.2:Int))) (λt h'=>t.2<=ii a/\Sp h h' [aq 101 t.1 2 piv (((cj.take i).flatMap T).map qJ++((T cj[i]).take t.2).map qJ),cK (ct 1 aE) 1 bt r rs a]) (λt=>ii a-t.2) (o,0) i0 ⟨i9,n5⟩ ?_;rintro⟨u,j⟩ h4 ⟨I,g⟩;dsimp only at*;refine aj (λe2=>?_) (λe2=>?_)
  ·have B:j<ii a:=i4
   refine(g.eG 1 i0).1.lM j i0 i4 ?_;refine g.push af 0 i0 TQ i0 i5 (λ_=>rfl) OY (cj[i],rs[j]'(by omega)) i0 i5 (by simp only[qx,qy,qU,d];omega) λu' h5 Y=>?_;refine⟨(u',j+1),jj,⟨i6,?_⟩,i6⟩;dsimp only;rw[aK (T cj[i]) j (by rw[d];exact B),qT,P _ _ B,<-qp];exact Y
  ·have L:j=ii a:=i4
   subst L;rw[qi (l:=T cj[i]) (by rw[d];exact qn _)]at g;refine⟨(u,i+1),jj,⟨i6,?_⟩,i6⟩;dsimp only;rw[aK _ _ D,zg,qT,zl,wu,qN];exact g
 ·have O:i=ii cj:=i4
  subst O;rw[q8]at f;refine⟨o,(cj.flatMap T).map qJ,i0,?_⟩;have g:=(f.freeze 0 i0 λ_=>rfl).ov;refine g.fI 0 i0 λq ⟨q1,q2,_,b,c,z1,Z⟩=>?_;have E:(cj.flatMap T).map zH=bH m cj:=by unfold bH;rw[List.map_flatMap,<-w];congr 1;funext n;exact J n
  rw[<-E];refine⟨Z.mono c,i9,λj r' l' p H=>?_⟩;rw[qR]at p H;cases g3:(cj.flatMap T)[j]? with
  |none=>rw[g3]at p;cases p
  |some t=>
   rw[g3]at p H;simp at p H;subst p;subst H;obtain⟨n,_,S⟩:=zJ.1 (yi g3);rw[G]at S;obtain⟨z,K,rfl⟩:=qw.1 S;obtain⟨k,hk,rfl⟩:=List.mem_iff_getElem.1 K;rw[vh];exact⟨i0,(z1.2.2 k _ _ (qd _) (qd _)).mono b⟩
end
section
variable {B:aB} {h0 h h':f8} {As:List HP} {s:Sl} {d:List bF}
theorem Ys{c b:List bF}{y:bF}(d:Sd co (c++b))(g:∀z∈c,co z y=eL)(f:∀z∈b,¬co z y=eL):Sd co (c++y::b):=
 Sd.app dO d.left (zF.2 ⟨λz a=>dO.GH (f z a),d.right⟩) λx e z a=>by
  rcases zd.1 a with rfl|a
  ·exact g x e
  ·exact d.IV x e z a
theorem Dy(X M Y:List bF)(a b:Int)(ha:a=(ii X:Int))(hb:b=(ii X+ii M:Nat))(ab:ii X+ii M+ii Y<=2^40)(H:aa B h0 h (cJ s (X++(M++Y))::As)):
  ac xR 300 #[s,xH xN a,xH xN b,.func (.func 197) #[] #[]] h λv h'=>v=.tuple #[]/\∃M',Sd co M'/\cz co M M'/\aa B h0 h' (cJ s (X++(M'++Y))::As):=by
 refine lu s a b (197,#[],#[]) ?_;unfold gV;subst ha;subst hb;rw[ak ((ii X:Int)+1)];refine av (λt:Nat×List bF=>((ii X+1+t.1:Nat):Int)) (λt h'=>(t.1+1<=ii M∨t.1=0)/\Sd co t.2/\cz co (M.take (t.1+1)) t.2/\t.2.length=ii (M.take (t.1+1))/\aa B h0 h' (cJ s (X++(t.2++(M.drop (t.1+1)++Y)))::As)) (λt=>ii M-t.1) (0,M.take 1) i0 ?_ ?_
 ·refine⟨.inr i0,?_,cz.refl _,i0,?_⟩
  ·cases M with
   |nil=>exact List.Pairwise.nil
   |cons x M=>exact zF.2 ⟨λ_ h=>ld,i9⟩
  ·rw[<-qp (M.take (0+1)),qA];exact H
 rintro⟨t,P⟩ h1 ⟨ht,A,r,Z,R⟩;dsimp only at*;refine aj (λe=>?_) (λe=>?_)
 ·have J:t+1<ii M:=i4
  obtain⟨y,hy⟩:∃y,y=M[t+1]:=⟨_,rfl⟩
  have I:ii P=t+1:=by rw[Z];simp;omega
  have eD:M.drop (t+1)=y::M.drop (t+1+1):=by rw[qV J,hy]
  rw[eD]at R;refine av (λu:List bF×List bF=>((ii X+ii u.1:Nat):Int)) (λu h'=>u.1++u.2=P/\(∀z∈u.2,¬co z y=eL)/\aa B h0 h' (cJ s (X++(u.1++(y::(u.2++(M.drop (t+1+1)++Y)))))::As)) (λu=>ii u.1) (P,[]) (by dsimp only;rw[I];congr 1;omega) ⟨i9,i9,by simpa using R⟩ ?_;rintro⟨c,d⟩ U ⟨K,l,G⟩;dsimp only at*;have ad:ii c+ii d=t+1:=by rw[<-I,<-K,qx]
  have k:∀{h':f8},(∀z∈c,co z y=eL)->aa B h0 h' (cJ s (X++(c++(y::(d++(M.drop (t+1+1)++Y)))))::As)->
    ∃f:Nat×List bF,qc xN (((ii X+1+t:Nat):Int)+1)=((ii X+1+f.1:Nat):Int)/\((f.1+1<=ii M∨f.1=0)/\Sd co f.2/\cz co (M.take (f.1+1)) f.2/\f.2.length=ii (M.take (f.1+1))/\aa B h0 h' (cJ s (X++(f.2++(M.drop (f.1+1)++Y)))::As))/\M.length-f.1<ii M-t:=λ{h'} hle H'=>by
   refine⟨(t+1,c++y::d),by dsimp only;rw[ak _];omega,⟨.inl i6,?_,?_,?_,?_⟩,i6⟩
   ·exact Ys p7 hle l
   ·dsimp only;rw[aK M (t+1) J,<-hy];have h1:cz co (M.take (t+1)++[y]) (P++[y]):=r.app (cz.refl _);refine h1.trans ?_;rw[<-K,qp];have U:cz co (d++[y]) ([y]++d):=cz.ZZ dO λx hx z O=>by rw[qC.1 O];exact l x hx
    exact(cz.refl _).app U
   ·dsimp only;simp;omega
   ·dsimp only;have:X++((c++y::d)++(M.drop (t+1+1)++Y))=X++(c++(y::(d++(M.drop (t+1+1)++Y)))):=i9
    rw[this];exact H'
  obtain⟨D,N⟩:∃D,D=X++(c++(y::(d++(M.drop (t+1+1)++Y)))):=⟨_,rfl⟩
  refine cE (λ_ h'=>∃(Q:List bF) (z:bF),c=Q++[z]/\¬co z y=eL/\aa B h0 h' (cJ s D::As)) ?_ ?_
  ·rw[<-N]at G k;refine aj (λe2=>?_) (λe2=>⟨trivial,k (λz O=>?_) G⟩)
   ·have L:c≠[]:=λh=>by rw[h]at e2;simp at e2
    obtain⟨Q,z,n⟩:∃(Q:List bF) (z:bF),c=Q++[z]:=⟨c.dropLast,c.getLast L,(List.dropLast_concat_getLast L).symm⟩
    have V:ii c=ii Q+1:=by rw[n];simp
    have g1:D[ii X+ii c]?=dB y:=by rw[N,qj i4,show X.length+ii c-ii X=ii c by omega,qj i4,zc];rfl
    have g2:D[ii X+ii c-1]?=dB z:=by rw[N,qj i4,show X.length+ii c-1-ii X=ii Q by omega,n,qp,qj (qn _),zc];rfl
    obtain⟨T,p⟩:=qo.1 g1;obtain⟨S,q⟩:=qo.1 g2;refine(G.seq 0 i0 λ_=>rfl).dQ (g:=bR) _ i0 T y (by rw[p]) ?_;have W:qc xN (((ii X+ii c:Nat):Int)-1)=((ii X+ii c-1:Nat):Int):=j3
    rw[W];refine(G.seq 0 i0 λ_=>rfl).dQ (g:=bR) _ i0 S z sp (fa k9 ?_);refine(rk y z U).mono ?_;rintro _ h3 ⟨rfl,R3⟩;have F:=G.up R3.ai;refine⟨_,i0,trivial,aj (λe3=>⟨Q,z,n,(sg y z).1 e3,F⟩) λe3=>k (λw m=>?_) F⟩;have o:co z y=eL:=by
     by_cases hc:co z y=eL
     ·exact hc
     ·exact absurd ((sg y z).2 hc) e3
    rw[n]at m;rcases qz.1 m with m|m
    ·refine dO.trans _ _ _ ?_ o;have:Sd co (Q++[z]):=by rw[<-n];exact Sd.left (v:=d) p7
     exact this.IV w m z i9
    ·rw[qC.1 m];exact o
   ·have:c=[]:=by
     cases c with
     |nil=>rfl
     |cons x P=>exfalso;simp only[zo]at e2;omega
    rw[this]at O;cases O
  ·rintro _ h3 ⟨Q,z,n,o,F⟩;have V:ii c=ii Q+1:=by rw[n];simp
   have E:D=(X++Q)++z::([]++y::(d++(M.drop (t+1+1)++Y))):=by rw[N,n];simp
   obtain⟨q1,q2,q3,q4⟩:=TL (X++Q) [] (d++(M.drop (t+1+1)++Y)) z y (i:=ii X+ii c-1) (j:=ii X+ii c) i7 i7;rw[<-E]at q1 q2 q3 q4;obtain⟨S,q⟩:=qo.1 q1;obtain⟨T,p⟩:=qo.1 q2;have W:qc xN (((ii X+ii c:Nat):Int)-1)=((ii X+ii c-1:Nat):Int):=j3
   rw[W];refine(F.seq 0 i0 λ_=>rfl).dQ (g:=bR) _ i0 S z sp ?_;refine(F.seq 0 i0 λ_=>rfl).dQ (g:=bR) _ i0 T y (by rw[p]) ?_;refine F.set af 0 i0 (λ_=>rfl) i0 (ii X+ii c) i0 T z i0 i0 i0 λh4 H4=>⟨trivial,?_⟩
   refine H4.set af 0 i0 (λ_=>rfl) i0 (ii X+ii c-1) i0 (by simpa using S) y i0 i0 i0 λh5 H5=>⟨trivial,?_⟩
   refine⟨(Q,z::d),by dsimp only;congr 1;omega,⟨by dsimp only;rw[<-K,n];simp,?_,?_⟩,i6⟩
   ·dsimp only;intro w m;rcases zd.1 m with rfl|m
    ·exact o
    ·exact l w m
   ·dsimp only;have:X++(Q++(y::(z::d++(M.drop (t+1+1)++Y))))=(X++Q)++y::([]++z::(d++(M.drop (t+1+1)++Y))):=i9
    rw[this,<-q4];exact H5
 ·refine⟨i0,P,A,?_,?_⟩
  ·rw[qi i4]at r;exact r
  ·rw[zf i4]at R;simpa using R
end
theorem Ji(x y:Nat)(h:x+y<=2^62:=by omega):qc xN (qX (qc xQ (qc xN ((x:Int)+(y:Int)))) (2^min (1:Int).toNat (qk xQ)))=(((x+y)/2:Nat):Int):=by
 rw[ak ((x:Int)+y)];have e:qc xQ ((x:Int)+(y:Int))=(x:Int)+y:=by unfold qc;simp[qk,ve];omega
 rw[e,show min (1:Int).toNat (qk xQ)=1 from i0,Int.fdiv_eq_ediv_of_nonneg _ i5,ak _];omega
section
variable {B:aB} {h0 h h':f8} {As:List HP} {s:Sl} {d:List bF}
theorem CD{x y:bF}(h:¬lU x y<0):co y x=eL:=by
 by_cases a:co y x=eL
 ·exact a
 ·exact absurd ((sg x y).2 a) h
theorem jY{K:bF->Prop}(H:aa B h0 h (cJ s d::As)){i:Int}(n:Nat)(c:i=n){x:bF}(e:d[n]?=dB x)(j:K x):
  ∃a:fz,(s.ptr=dB a/\0<=i/\i<((s.len:Nat):Int))/\∃x:bF,an h (a.add (i.toNat*8)) 0 (bR x)/\K x:=by
 obtain⟨f,b⟩:=qo.1 e;exact(H.seq 0 i0 λ_=>rfl).dQ (g:=bR) n c f x (by rw[b]) j
theorem OZ(x:bF)(X R Y:List bF)(ab:ii X+1+ii R+ii Y<=2^40)(D:Sd co R)(H:aa B h0 h (cJ s (X++(x::(R++Y)))::As)){K:Kr}
  (d:∀h',(∃M,Sd co M/\cz co (x::R) M/\aa B h0 h' (cJ s (X++(M++Y))::As))->K (.tuple #[]) h') (a m b:Int) (ha:a=(ii X:Int)) (hm:m=(ii X+1:Nat)) (hb:b=(ii X+1+ii R:Nat)):
  aM (σ:=Int×Int) (λc K1 g=>
   Br (decide (c.1<c.2))
   ((0<=(1:Int))/\
   ∃a2:fz,(s.ptr=dB a2/\0<=(qc xN (qX (qc xQ (qc xN (c.1+c.2))) (2^min (1:Int).toNat (qk xQ))))/\(qc xN (qX (qc xQ (qc xN (c.1+c.2))) (2^min (1:Int).toNat (qk xQ))))<((s.len:Nat):Int))/\
   ∃x3:bF,an g (a2.add ((qc xN (qX (qc xQ (qc xN (c.1+c.2))) (2^min (1:Int).toNat (qk xQ)))).toNat*8)) 0 (bR x3)/\
   ∃a4:fz,(s.ptr=dB a4/\0<=a/\a<((s.len:Nat):Int))/\
   ∃x5:bF,an g (a4.add (a.toNat*8)) 0 (bR x5)/\
   ia C 197 ((#[]:Array Value).toList++[recv x3,recv x5]++(#[]:Array Value).toList) (.one (.sc (.int .i64))) g λr6 n=>
   (aA.ok [] n)/\
   Br (decide (r6<(0:Int)))
   (K1 (qc xN ((qc xN (qX (qc xQ (qc xN (c.1+c.2))) (2^min (1:Int).toNat (qk xQ))))+(1:Int)),c.2) n)
   (K1 (c.1,qc xN (qX (qc xQ (qc xN (c.1+c.2))) (2^min (1:Int).toNat (qk xQ)))) n))
   (aM (σ:=Int) (λf K2 h3=>
   Br (decide (f<(qc xN (c.1-(1:Int)))))
   (∃a8:fz,(s.ptr=dB a8/\0<=(qc xN (f+(1:Int)))/\(qc xN (f+(1:Int)))<((s.len:Nat):Int))/\
   ∃x9:bF,an h3 (a8.add ((qc xN (f+(1:Int))).toNat*8)) 0 (bR x9)/\
   ∃G:fz,(s.ptr=dB G/\0<=f/\f<((s.len:Nat):Int))/\
   ∃L:bF,an h3 (G.add (f.toNat*8)) 0 (bR L)/\
   ∃I:fz,(s.ptr=dB I/\0<=f/\f<((s.len:Nat):Int))/\
   ag xR (qf 170 (xJ (dB (I.add (f.toNat*8)))) (recv x9)) h3 λ_ V=>
   (aA.ok [] V)/\
   ∃J:fz,(s.ptr=dB J/\0<=(qc xN (f+(1:Int)))/\(qc xN (f+(1:Int)))<((s.len:Nat):Int))/\
   ag xR (qf 170 (xJ (dB (J.add ((qc xN (f+(1:Int))).toNat*8)))) (recv L)) V λ_ T=>
   (aA.ok [] T)/\
   K2 (qc xN (f+(1:Int))) T)
   (K (.tuple #[]) h3)) a g)) (m,b) h:=by
 subst ha;subst hm;subst hb;refine av (λt:Nat×Nat=>(((ii X+1+t.1:Nat):Int),((ii X+1+t.2:Nat):Int))) (λt h'=>t.1<=t.2/\t.2<=ii R/\(∀k (d:k<ii R),k<t.1->¬co x R[k]=eL)/\(∀k (d:k<ii R),t.2<=k->co x R[k]=eL)/\aa B h0 h' (cJ s (X++(x::(R++Y)))::As)) (λt=>t.2-t.1) (0,ii R) i0 ⟨i9,i9,λ_ _ h=>ld,λ_ g n=>absurd g n4,H⟩ ?_;rintro⟨i,j⟩ g ⟨ah,hj,q,E,O⟩;dsimp only at*;refine aj (λe=>?_) (λe=>?_)
 ·have o:i<j:=i4
  rw[Ji _ _];have eh:((ii X+1+i)+(ii X+1+j))/2=ii X+1+(i+j)/2:=i4
  rw[eh];have d:(i+j)/2<ii R:=i4
  refine⟨i5,jY O _ i0 (x:=R[(i+j)/2]) ?_ (jY O X.length i0 (x:=x) ?_ (fa k9 ?_))⟩
  ·rw[qj i4,show X.length+1+(i+j)/2-ii X=(i+j)/2+1 by omega,qu,qm d,qd d]
  ·rw[qj (qn _),zc];rfl
  refine(rk R[(i+j)/2] x g).mono ?_;rintro _ n ⟨rfl,R2⟩;have H2:=O.up R2.ai;refine⟨_,i0,trivial,aj (λe2=>?_) λe2=>?_⟩
  ·have U:=(sg _ _).1 e2;refine⟨((i+j)/2+1,j),jj,⟨i6,hj,λk r Z=>?_,E,H2⟩,i6⟩;intro hc;exact U (dO.trans _ _ _ hc (D.at_ dO (i:=k) (j:=(i+j)/2) (by dsimp only at Z;omega) d))
  ·refine⟨(i,(i+j)/2),i0,⟨i6,i6,q,λk r W=>?_,H2⟩,i6⟩;exact dO.trans _ _ _ (CD e2) (D.at_ dO (by dsimp only at W;omega) r)
 ·have o:i=j:=i4
  subst o;have hM:Sd co (R.take i++x::R.drop i):=by
   refine Sd.app dO (Sd.left (v:=R.drop i) (by rw[qA];exact D)) (zF.2 ⟨λz y=>?_,Sd.right (u:=R.take i) (by rw[qA];exact D)⟩) λz y w F=>?_
   ·obtain⟨k,d,rfl⟩:=qH y;rw[wA];exact E _ _ i4
   ·obtain⟨k,d,rfl⟩:=qH y;rw[yq];have S:k<i:=kt
    have g:=dO.GH (q k kt S);rcases zd.1 F with rfl|F
    ·exact g
    ·obtain⟨l,hl,rfl⟩:=qH F;rw[wA];exact D.at_ dO i4 (by simp at hl;omega)
  have hE:cz co (x::R) (R.take i++x::R.drop i):=by
   have g:cz co ([x]++R.take i) (R.take i++[x]):=cz.ZZ dO λz y w F=>by
    rw[qC.1 y];obtain⟨k,d,rfl⟩:=qH F;rw[yq];exact q k kt kt
   have n:=g.app (cz.refl (le:=co) (R.drop i));have e1:([x]++R.take i)++R.drop i=x::R:=by rw[qp,qA];rfl
   have e2:(R.take i++[x])++R.drop i=R.take i++x::R.drop i:=i9
   rw[e1,e2]at n;exact n
  have el:qc xN (((ii X+1+i:Nat):Int)-1)=((ii X+i:Nat):Int):=j3
  rw[el];refine av (λt:Nat=>((ii X+t:Nat):Int)) (λt h'=>t<=i/\aa B h0 h' (cJ s (X++(R.take t++(x::(R.drop t++Y))))::As)) (λt=>i-t) 0 i0 ⟨i4,by simpa using O⟩ ?_;rintro t h3 ⟨ht,N⟩;refine aj (λe2=>?_) (λe2=>?_)
  ·have ad:t<i:=i4
   have A:t<ii R:=i4
   have p:X++(R.take t++(x::(R.drop t++Y)))=(X++R.take t)++x::([]++R[t]::(R.drop (t+1)++Y)):=by rw[qV A];simp only[qp,zt,wm]
   obtain⟨Q,P,q3,q4⟩:=TL (X++R.take t) [] (R.drop (t+1)++Y) x R[t] (i:=ii X+t) (j:=ii X+t+1) i7 i7;rw[<-p]at Q P q3 q4;have ek:qc xN (((ii X+t:Nat):Int)+1)=((ii X+t+1:Nat):Int):=j3
   rw[ek];refine jY N _ i0 P (jY N _ i0 Q ?_);refine N.set af 0 i0 (λ_=>rfl) i0 (ii X+t) i0 (qo.1 Q).1 R[t] i0 i0 i0 λV H4=>⟨trivial,?_⟩
   refine H4.set af 0 i0 (λ_=>rfl) i0 (ii X+t+1) i0 (by rw[zj];exact(qo.1 P).1) x i0 i0 i0 λT H5=>⟨trivial,?_⟩
   refine⟨t+1,i0,⟨i4,?_⟩,i4⟩;have e3:X++(R.take (t+1)++(x::(R.drop (t+1)++Y)))=(X++R.take t)++R[t]::([]++x::(R.drop (t+1)++Y)):=by rw[aK R t A];simp only[qp,zt,wm]
   rw[e3,<-q3];exact H5
  ·have:t=i:=i4
   subst this;refine d h3 ⟨R.take t++x::R.drop t,hM,hE,?_⟩;have:X++((R.take t++x::R.drop t)++Y)=X++(R.take t++(x::(R.drop t++Y))):=i9
   rw[this];exact N
end
section
variable {B:aB} {h0 h h':f8} {As:List HP} {s:Sl} {d:List bF}
theorem MY(y:bF)(X L Y:List bF)(ap:ii X+ii L+1+ii Y<=2^40)(A:Sd co L)(H:aa B h0 h (cJ s (X++(L++(y::Y)))::As)){K:Kr}
  (d:∀h',(∃M,Sd co M/\cz co (L++[y]) M/\aa B h0 h' (cJ s (X++(M++Y))::As))->K (.tuple #[]) h') (a m:Int) (ha:a=(ii X:Int)) (hm:m=(ii X+ii L:Nat)):
  aM (σ:=Int×Int) (λb K3 W=>
   Br (decide (b.1<b.2))
   ((0<=(1:Int))/\
   ∃O:fz,(s.ptr=dB O/\0<=m/\m<((s.len:Nat):Int))/\
   ∃U:bF,an W (O.add (m.toNat*8)) 0 (bR U)/\
   ∃q:fz,(s.ptr=dB q/\0<=(qc xN (qX (qc xQ (qc xN (b.1+b.2))) (2^min (1:Int).toNat (qk xQ))))/\(qc xN (qX (qc xQ (qc xN (b.1+b.2))) (2^min (1:Int).toNat (qk xQ))))<((s.len:Nat):Int))/\
   ∃J:bF,an W (q.add ((qc xN (qX (qc xQ (qc xN (b.1+b.2))) (2^min (1:Int).toNat (qk xQ)))).toNat*8)) 0 (bR J)/\
   ia C 197 ((#[]:Array Value).toList++[recv U,recv J]++(#[]:Array Value).toList) (.one (.sc (.int .i64))) W λab h7=>
   (aA.ok [] h7)/\
   Br (!(decide (ab<(0:Int))))
   (K3 (qc xN ((qc xN (qX (qc xQ (qc xN (b.1+b.2))) (2^min (1:Int).toNat (qk xQ))))+(1:Int)),b.2) h7)
   (K3 (b.1,qc xN (qX (qc xQ (qc xN (b.1+b.2))) (2^min (1:Int).toNat (qk xQ)))) h7))
   (aM (σ:=Int) (λc K4 h8=>
   Br (decide (c>b.1))
   (∃N:fz,(s.ptr=dB N/\0<=(qc xN (c-(1:Int)))/\(qc xN (c-(1:Int)))<((s.len:Nat):Int))/\
   ∃S:bF,an h8 (N.add ((qc xN (c-(1:Int))).toNat*8)) 0 (bR S)/\
   ∃I:fz,(s.ptr=dB I/\0<=c/\c<((s.len:Nat):Int))/\
   ∃r:bF,an h8 (I.add (c.toNat*8)) 0 (bR r)/\
   ∃a25:fz,(s.ptr=dB a25/\0<=c/\c<((s.len:Nat):Int))/\
   ag xR (qf 170 (xJ (dB (a25.add (c.toNat*8)))) (recv S)) h8 λ_ h9=>
   (aA.ok [] h9)/\
   ∃E:fz,(s.ptr=dB E/\0<=(qc xN (c-(1:Int)))/\(qc xN (c-(1:Int)))<((s.len:Nat):Int))/\
   ag xR (qf 170 (xJ (dB (E.add ((qc xN (c-(1:Int))).toNat*8)))) (recv r)) h9 λ_ P=>
   (aA.ok [] P)/\
   K4 (qc xN (c-(1:Int))) P)
   (K (.tuple #[]) h8)) m W)) (a,m) h:=by
 subst ha;subst hm;refine av (λt:Nat×Nat=>(((ii X+t.1:Nat):Int),((ii X+t.2:Nat):Int))) (λt h'=>t.1<=t.2/\t.2<=ii L/\(∀k (d:k<ii L),k<t.1->co L[k] y=eL)/\(∀k (d:k<ii L),t.2<=k->¬co L[k] y=eL)/\aa B h0 h' (cJ s (X++(L++(y::Y)))::As)) (λt=>t.2-t.1) (0,ii L) i0 ⟨i9,i9,λ_ _ h=>ld,λ_ g p=>absurd g p8,H⟩ ?_;rintro⟨i,j⟩ g ⟨ax,hj,T,n,Z⟩;dsimp only at*;refine aj (λe=>?_) (λe=>?_)
 ·have f:i<j:=i4
  rw[Ji _ _];have eh:((ii X+i)+(ii X+j))/2=ii X+(i+j)/2:=i4
  rw[eh];have d:(i+j)/2<ii L:=i4
  refine⟨i5,jY Z (ii X+ii L) i0 (x:=y) ?_ (jY Z _ i0 (x:=L[(i+j)/2]) ?_ (fa k9 ?_))⟩
  ·rw[qj i4,show X.length+ii L-ii X=ii L by omega,qj (qn _),zc];rfl
  ·rw[qj i4,show X.length+(i+j)/2-ii X=(i+j)/2 by omega,qm d,qd d]
  refine(rk y L[(i+j)/2] g).mono ?_;rintro _ p ⟨rfl,R2⟩;have H2:=Z.up R2.ai;refine⟨_,i0,trivial,?_⟩;by_cases e2:lU y L[(i+j)/2]<0
  ·have ah:=(sg _ _).1 e2;refine bm (λR=>absurd R m9) λ_=>?_;refine⟨(i,(i+j)/2),i0,⟨i6,i6,T,λk D am=>?_,H2⟩,i6⟩;intro hc;exact ah (dO.trans _ _ _ (A.at_ dO (i:=(i+j)/2) (j:=k) (by dsimp only at am;omega) D) hc)
  ·refine bm (λ_=>?_) λR=>absurd R m9;refine⟨((i+j)/2+1,j),jj,⟨i6,hj,λk D ao=>?_,n,H2⟩,i6⟩;exact dO.trans _ _ _ (A.at_ dO (by dsimp only at ao;omega) d) (CD e2)
 ·have f:i=j:=i4
  subst f;have hM:Sd co (L.take i++y::L.drop i):=by
   refine Sd.app dO (Sd.left (v:=L.drop i) (by rw[qA];exact A)) (zF.2 ⟨λz G=>?_,Sd.right (u:=L.take i) (by rw[qA];exact A)⟩) λz G w Q=>?_
   ·obtain⟨k,d,rfl⟩:=qH G;rw[wA];exact dO.GH (n _ kt i4)
   ·obtain⟨k,d,rfl⟩:=qH G;rw[yq];have ad:k<i:=kt
    have g:=T k kt ad;rcases zd.1 Q with rfl|Q
    ·exact g
    ·obtain⟨l,hl,rfl⟩:=qH Q;rw[wA];exact A.at_ dO i4 (by simp at hl;omega)
  have hE:cz co (L++[y]) (L.take i++y::L.drop i):=by
   have g:cz co (L.drop i++[y]) ([y]++L.drop i):=cz.ZZ dO λz G w Q=>by
    rw[qC.1 Q];obtain⟨k,d,rfl⟩:=qH G;rw[wA];exact n _ kt i4
   have p:=(cz.refl (le:=co) (L.take i)).app g;have e1:L.take i++(L.drop i++[y])=L++[y]:=by rw[<-qp,qA]
   rw[e1]at p;exact p
  refine av (λt:Nat=>((ii X+t:Nat):Int)) (λt h'=>i<=t/\t<=ii L/\aa B h0 h' (cJ s (X++(L.take t++(y::(L.drop t++Y))))::As)) (λt=>t-i) L.length i0 ⟨i4,i4,by simpa using Z⟩ ?_;rintro t h3 ⟨ht,ar,V⟩;refine aj (λe2=>?_) (λe2=>?_)
  ·obtain⟨u,rfl⟩:∃u,t=u+1:=⟨t-1,i4⟩
   have F:u<ii L:=i4
   have o:X++(L.take (u+1)++(y::(L.drop (u+1)++Y)))=(X++L.take u)++L[u]::([]++y::(L.drop (u+1)++Y)):=by rw[aK L u F];simp only[qp,zt,wm]
   obtain⟨q1,q2,q3,q4⟩:=TL (X++L.take u) [] (L.drop (u+1)++Y) L[u] y (i:=ii X+u) (j:=ii X+(u+1)) i7 i7;rw[<-o]at q1 q2 q3 q4;have ek:qc xN (((ii X+(u+1):Nat):Int)-1)=((ii X+u:Nat):Int):=j3
   rw[ek];refine jY V _ i0 q1 (jY V _ i0 q2 ?_);refine V.set af 0 i0 (λ_=>rfl) i0 (ii X+(u+1)) i0 (qo.1 q2).1 L[u] i0 i0 i0 λh4 H4=>⟨trivial,?_⟩
   refine H4.set af 0 i0 (λ_=>rfl) i0 (ii X+u) i0 (by rw[zj];exact(qo.1 q1).1) y i0 i0 i0 λh5 H5=>⟨trivial,?_⟩
   refine⟨u,i0,⟨i4,i4,?_⟩,i4⟩;have R:X++(L.take u++(y::(L.drop u++Y)))=(X++L.take u)++y::([]++L[u]::(L.drop (u+1)++Y)):=by rw[qV F];simp only[qp,zt,wm]
   rw[R,<-q4];exact H5
  ·have:t=i:=i4
   subst this;refine d h3 ⟨L.take t++y::L.drop t,hM,hE,?_⟩;have:X++((L.take t++y::L.drop t)++Y)=X++(L.take t++(y::(L.drop t++Y))):=i9
   rw[this];exact V
end
end Go.Qw
namespace Wl
open Go Go.Vc
theorem aaO{L R:List bF}(h:Sd co L)(k:Sd co R)(p q:Nat)(s:p<=ii L)(r:q<=ii R)
  (n:∀i j (d:i<ii L) (a:j<ii R),i+1=p->j=q->co L[i] R[j]=eL)
  (o:∀i j (d:i<ii L) (a:j<ii R),i=p->j+1=q->¬co L[i] R[j]=eL):
  (∀x∈L.take p,∀y∈R.drop q,co x y=eL)/\(∀x∈L.drop p,∀y∈R.take q,¬co x y=eL):=by
 constructor
 ·intro x e y f;obtain⟨i,d,rfl⟩:=qH e;obtain⟨j,a,rfl⟩:=qH f;rw[yq,wA];have c:i<p:=kt
  have b:q+j<ii R:=by simp at a;omega
  have g:=h.at_ dO (i:=i) (j:=p-1) i4 i4;have m:=n (p-1) q i4 i4 i4 i0;have h3:=k.at_ dO (i:=q) (j:=q+j) i4 b;exact dO.trans _ _ _ g (dO.trans _ _ _ m h3)
 ·intro x e y f l;obtain⟨i,d,rfl⟩:=qH e;obtain⟨j,a,rfl⟩:=qH f;rw[yq,wA]at l;have b:j<q:=by simp at a;omega
  have c:p+i<ii L:=kt
  have g:=h.at_ dO (i:=p) (j:=p+i) i4 c;have h3:=k.at_ dO (i:=j) (j:=q-1) i4 i4;exact o p (q-1) i4 i4 i0 i4 (dO.trans _ _ _ g (dO.trans _ _ _ l h3))
end Wl
namespace Go.Qw
open Go Go.Vc Go.Proofs Wl
theorem FP:∀(N:Nat) {B:aB} {h0 h:f8} {As:List HP} {s:Sl} (X L R Y:List bF) (a m b:Int),0<ii L->0<ii R->ii L+ii R<=N->a=(ii X:Int)->m=(ii X+ii L:Nat)->b=(ii X+ii L+ii R:Nat)->ii X+ii L+ii R+ii Y<=2^40->Sd co L->Sd co R->
  aa B h0 h (cJ s (X++(L++(R++Y)))::As)->
  ac xR 301 #[s,xH xN a,xH xN m,xH xN b,.func (.func 197) #[] #[]] h λv h'=>v=.tuple #[]/\∃M,Sd co M/\cz co (L++R) M/\aa B h0 h' (cJ s (X++(M++Y))::As):=by
 intro N
 induction N with
 |zero=>intro B h0 h As s X L R Y a m b hL hR hN;omega
 |succ N ih=>
  intro B h0 h As s X L R Y a m b hL hR hN ha hm hb T sL W H;refine mJ s a m b (197,#[],#[]) ?_;unfold iR;have e1:qc xN (m-a)=(ii L:Int):=j3
  have e2:qc xN (b-m)=(ii R:Int):=j3
  rw[e1,e2];refine cu (λc=>?_) λc=>cu (λc2=>?_) λc2=>?_
  ·obtain⟨x,hx⟩:∃x,L=[x]:=by
    match L,hL,c with
    |[x],_,_=>exact⟨x,i0⟩
    |x::y::L,_,c=>simp at c;omega
   subst hx;exact OZ (K:=λv h'=>v=.tuple #[]/\∃M,Sd co M/\cz co ([x]++R) M/\aa B h0 h' (cJ s (X++(M++Y))::As)) x X R Y (by simp at T⊢;omega) W H (λh' ⟨M,V,P,q3⟩=>⟨i0,M,V,P,q3⟩) a m b ha (by rw[hm];simp) (by rw[hb];simp)
  ·obtain⟨y,hy⟩:∃y,R=[y]:=by
    match R,hR,c2 with
    |[x],_,_=>exact⟨x,i0⟩
    |x::y::L,_,c=>simp at c;omega
   subst hy;exact MY (K:=λv h'=>v=.tuple #[]/\∃M,Sd co M/\cz co (L++[y]) M/\aa B h0 h' (cJ s (X++(M++Y))::As)) y X L Y (by simp at T⊢;omega) sL H (λh' ⟨M,V,P,q3⟩=>⟨i0,M,V,P,q3⟩) a m ha hm
  ·refine⟨i5,?_⟩;subst ha;subst hm;subst hb;have c':ii L≠1:=λA=>c i4;have bq:ii R≠1:=λA=>c2 i4;rw[Ji X.length (ii X+ii L+ii R)];obtain⟨Fg,am⟩:∃Fg,Fg=(ii X+(ii X+ii L+ii R))/2:=⟨_,rfl⟩
   rw[<-am];have en:qc xN ((Fg:Int)+((ii X+ii L:Nat):Int))=((Fg+(ii X+ii L):Nat):Int):=j3
   rw[en];obtain⟨n,hn⟩:∃n,n=Fg+(ii X+ii L):=⟨_,rfl⟩
   rw[<-hn];have ep:qc xN ((n:Int)-1)=((n-1:Nat):Int):=j3
   rw[ep];obtain⟨D,hD⟩:∃D,D=X++(L++(R++Y)):=⟨_,rfl⟩
   have gL:∀i (f:i<ii L),D[ii X+i]?=dB L[i]:=λi f=>by
    rw[hD,qj i4,zr,qm f,qd f]
   have gR:∀i (f:i<ii R),D[ii X+ii L+i]?=dB R[i]:=λi f=>by
    rw[hD,qj i4,show X.length+ii L+i-ii X=ii L+i by omega,qj i4,zr,qm f,qd f]
   rw[<-hD]at H;refine cE (λ(k:Int×Int) h'=>h'=h/\∃o f:Nat,k=((o:Int),(f:Int))/\o<=f/\X.length<=o/\f<=ii X+ii L/\f<=Fg/\n<=o+(ii X+ii L+ii R)/\(o=ii X∨n=o+(ii X+ii L+ii R))/\(f=ii X+ii L∨f=Fg)) ?_ ?_
   ·refine aj (λe=>⟨i0,n-(ii X+ii L+ii R),Fg,?_,i4,i4,i4,i4,i4,i4,i4⟩) λe=>⟨i0,ii X,ii X+ii L,i0,i4,i4,i4,i4,i4,i4,i4⟩
    have:qc xN ((n:Int)-((ii X+ii L+ii R:Nat):Int))=((n-(ii X+ii L+ii R):Nat):Int):=j3
    rw[this]
   ·rintro⟨bl,br⟩ _ ⟨rfl,o,f,ar,b1,b2,b3,b4,b5,b6,b7⟩;injection ar with est1 est2
    subst est1;subst est2;dsimp only;refine av (λt:Nat×Nat=>((t.1:Int),(t.2:Int))) (λt h'=>o<=t.1/\t.1<=t.2/\t.2<=f/\
     (∀i j (l:i<ii L) (Q:j<ii R),ii X+i+1=t.1->ii X+i+(ii X+ii L+j)=n-1->o<t.1->co L[i] R[j]=eL)/\
     (∀i j (l:i<ii L) (Q:j<ii R),ii X+i=t.2->ii X+i+(ii X+ii L+j)=n-1->t.2<f->¬co L[i] R[j]=eL)/\
     aa B h0 h' (cJ s D::As)) (λt=>t.2-t.1) (o,f) i0 ⟨i9,by simpa using b1,i9,λ_ _ _ _ _ _ F=>absurd F i9,λ_ _ _ _ _ _ F=>absurd F i9,H⟩ ?_
    rintro⟨k,r⟩ h1 ⟨t1,t2,t3,F1,F2,H1⟩;dsimp only at*;refine aj (λe=>?_) (λe=>?_)
    ·have F:k<r:=i4
     rw[Ji _ _];obtain⟨I,a8⟩:∃I,I=(k+r)/2:=⟨_,rfl⟩
     rw[<-a8];have ap:qc xN (((n-1:Nat):Int)-(I:Int))=((n-1-I:Nat):Int):=j3
     rw[ap];obtain⟨i,l⟩:∃i,I=ii X+i:=⟨I-ii X,i4⟩
     obtain⟨j,a3⟩:∃j,n-1-I=ii X+ii L+j:=⟨n-1-I-(ii X+ii L),i4⟩
     have a2:i<ii L:=i4
     have ay:j<ii R:=i4
     rw[a3,l];refine⟨i5,jY H1 _ i0 (gR j ay) (jY H1 _ i0 (gL i a2) (fa k9 ?_))⟩;refine(rk R[j] L[i] h1).mono ?_;rintro _ h2 ⟨rfl,R2⟩;have G:=H1.up R2.ai;refine⟨_,i0,trivial,?_⟩;by_cases e2:lU R[j] L[i]<0
     ·have a5:=(sg _ _).1 e2;refine bm (λe3=>absurd e3 m9) λ_=>?_;refine⟨(k,ii X+i),i0,⟨t1,i6,i6,F1,λi2 j2 a1 a4 w E _=>?_,G⟩,i6⟩;dsimp only at w;have:i2=i:=i4
      subst this;have:j2=j:=i4
      subst this;exact a5
     ·refine bm (λ_=>?_) λe3=>absurd e3 m9;refine⟨(ii X+i+1,r),jj,⟨i6,i6,t3,λi2 j2 a1 a4 w E _=>?_,F2,G⟩,i6⟩;dsimp only at w;have:i2=i:=i4
      subst this;have:j2=j:=i4
      subst this;exact CD e2
    ·have a0:k=r:=i4
     subst a0;have bd:qc xN ((n:Int)-(k:Int))=((n-k:Nat):Int):=j3
     rw[bd];obtain⟨p,hp⟩:∃p,k=ii X+p:=⟨k-ii X,i4⟩
     obtain⟨q,hq⟩:∃q,n-k=ii X+ii L+q:=⟨n-k-(ii X+ii L),i4⟩
     have ao:p<=ii L:=i4
     have bb:q<=ii R:=i4
     obtain⟨a6,a7⟩:=aaO sL W p q ao bb (λi j l Q w E=>F1 i j l Q i4 i4 (by
      by_cases bk:o<k
      ·exact bk
      ·exfalso;have:k=o:=i4
       omega)) (λi j l Q w E=>F2 i j l Q i4 i4 (by
      by_cases a9:k<f
      ·exact a9
      ·exfalso;have:k=f:=i4
       omega))
     have Z:L.take p++L.drop p=L:=qA _ _;have U:R.take q++R.drop q=R:=qA _ _;have l1:ii (L.take p)=p:=i7
     have l2:ii (L.drop p)=ii L-p:=i9
     have r1:ii (R.take q)=q:=i7
     have r2:ii (R.drop q)=ii R-q:=i9
     have ad:Sd co (L.take p):=Sd.left (v:=L.drop p) (by rw[Z];exact sL);have S:Sd co (L.drop p):=Sd.right (u:=L.take p) (by rw[Z];exact sL);have ah:Sd co (R.take q):=Sd.left (v:=R.drop q) (by rw[U];exact W);have ab:Sd co (R.drop q):=Sd.right (u:=R.take q) (by rw[U];exact W);rw[hq,hp];refine cE (λ_ h'=>aa B h0 h' (cJ s (X++(L.take p++(R.take q++(L.drop p++(R.drop q++Y)))))::As)) ?_ ?_
     ·have z:aa B h0 h1 (cJ s ((X++L.take p)++(L.drop p++(R.take q++(R.drop q++Y))))::As):=by
       have:(X++L.take p)++(L.drop p++(R.take q++(R.drop q++Y)))=D:=by
        rw[hD]
        conv=>rhs;rw[<-Z,<-U]
        simp only[qp,zt,wm]
       rw[this];exact H1
      refine aj (λw=>aj (λE=>?_) λE=>?_) λw=>?_
      ·refine(VN (X++L.take p) (L.drop p) (R.take q) (R.drop q++Y) _ _ _ i4 i4 i7 i7 i7 i7 z).mono ?_;rintro _ h2 ⟨rfl,G⟩;refine⟨(),i0,?_⟩;rw[qp]at G;exact G
      ·have:R.take q=[]:=q9 i4;rw[this]at z⊢;simpa using z
      ·have:L.drop p=[]:=q9 i4;rw[this]at z⊢;simpa using z
     ·rintro _ h2 G;refine cE (λ_ h'=>∃g,Sd co g/\cz co (L.take p++R.take q) g/\g.length=p+q/\aa B h0 h' (cJ s (X++(g++(L.drop p++(R.drop q++Y))))::As)) ?_ ?_
      ·have d:(L.take p=[]∨R.take q=[])->∃g,Sd co g/\cz co (L.take p++R.take q) g/\g.length=p+q/\aa B h0 h2 (cJ s (X++(g++(L.drop p++(R.drop q++Y))))::As):=λO=>by
        refine⟨L.take p++R.take q,?_,cz.refl _,i7,by rw[qp];exact G⟩;rcases O with A|A
        ·rw[A];exact ah
        ·rw[A,qN];exact ad
       refine aj (λw=>aj (λE=>?_) λE=>d (.inr (q9 i4))) λw=>d (.inl (q9 i4));refine(ih X (L.take p) (R.take q) (L.drop p++(R.drop q++Y)) _ _ _ i4 i4 i4 i0 (by rw[l1]) (by rw[l1,r1];omega) i7 ad ah G).mono ?_;rintro _ h3 ⟨rfl,g,V,P,q3⟩;refine⟨(),i0,g,V,P,?_,q3⟩;have J:=uZ dO P;rw[<-J];simp;omega
      ·rintro _ h3 ⟨g,m1,m2,m3,H3⟩;have fin:∀{h':f8} {M2:List bF},Sd co M2->cz co (L.drop p++R.drop q) M2->aa B h0 h' (cJ s (X++(g++(M2++Y)))::As)->(Value.tuple #[]=.tuple #[]/\∃M,Sd co M/\cz co (L++R) M/\aa B h0 h' (cJ s (X++(M++Y))::As)):=λ{h' M2} k1 k2 k3=>by
        obtain⟨f1,f2⟩:=aaa dO (by rw[Z];exact sL) (by rw[U];exact W) a6 a7 m2 m1 k2 k1;rw[Z,U]at f2;exact⟨i0,g++M2,f1,f2,by rw[qp];exact k3⟩
       have d:(L.drop p=[]∨R.drop q=[])->(Value.tuple #[]=.tuple #[]/\∃M,Sd co M/\cz co (L++R) M/\aa B h0 h3 (cJ s (X++(M++Y))::As)):=λO=>by
        refine fin (M2:=L.drop p++R.drop q) ?_ (cz.refl _) (by rw[qp];exact H3);rcases O with A|A
        ·rw[A];exact ab
        ·rw[A,qN];exact S
       refine aj (λw=>aj (λE=>?_) λE=>d (.inr (q9 i4))) λw=>d (.inl (q9 i4));have ax:aa B h0 h3 (cJ s ((X++g)++(L.drop p++(R.drop q++Y)))::As):=by rw[qp];exact H3
       refine(ih (X++g) (L.drop p) (R.drop q) Y _ _ _ i4 i4 i4 i7 i7 i7 i7 S ab ax).mono ?_;rintro _ h4 ⟨rfl,M2,k1,k2,k3⟩;refine⟨(),i0,fin k1 k2 (by rw[qp]at k3;exact k3)⟩
end Go.Qw
namespace Wl
open Go Go.Vc
def Bs(k:Nat)(l:List bF):Prop:=∀q,Sd co ((l.drop (q*k)).take k)
theorem Bs.nil(k:Nat):Bs k []:=λq=>by simp[Sd]
theorem Bs.first{k:Nat}{l:List bF}(h:Bs k l):Sd co (l.take k):=by have:=h 0;simpa using this
theorem Bs.rest{k:Nat}{l:List bF}(h:Bs k l):Bs k (l.drop k):=λq=>by
 have:=h (q+1);rw[zE,show k+q*k=(q+1)*k by rw[zK,Nat.add_comm]];exact this
theorem Bs.snoc{k t:Nat}{l M:List bF}(h:Bs k l)(d:ii l=t*k)(b:Sd co M)(c:ii M<=k):Bs k (l++M):=λq=>by
 rcases Nat.lt_trichotomy q t with hq|hq|hq
 ·have a:(q+1)*k<=t*k:=zB _ hq;rw[zK]at a;rw[List.drop_append_of_le_length i4,z8 l5];exact h q
 ·subst hq;rw[<-d,List.drop_left,qi c];exact b
 ·have a:(t+1)*k<=q*k:=zB _ hq;rw[zK]at a;rw[zf (by rw[qx];omega)];simp[Sd]
theorem Bs.whole{k:Nat}{l:List bF}(h:Bs k l)(a:ii l<=k):Sd co l:=by have:=h.first;rw[qi a]at this;exact this
end Wl
namespace Go.Qw
open Go Go.Vc Go.Proofs Wl
section
variable {B:aB} {h0 h h':f8} {As:List HP} {s:Sl} {d:List bF}
theorem VO(d:List bF)(n:Int)(hn:n=ii d)(hd:ii d<=2^30)(H:aa B h0 h (cJ s d::As)):
  ac xR 248 #[s,xH xN n,.func (.func 197) #[] #[]] h λv h'=>v=.tuple #[]/\aa B h0 h' (cJ s (d.mergeSort co)::As):=by
 subst hn;refine nz s d.length (197,#[],#[]) ?_;unfold jr;refine av (λP:List bF=>((ii P:Int),((ii P+20:Nat):Int))) (λP h'=>ii P<=ii d/\(∃t,ii P=t*20)/\Bs 20 P/\cz co (d.take P.length) P/\aa B h0 h' (cJ s (P++d.drop P.length)::As)) (λP=>ii d-ii P) [] i0 ⟨i9,⟨0,i9⟩,Bs.nil _,by simpa using cz.refl _,l6⟩ ?_;rintro P h1 ⟨hP,⟨t,K⟩,X,S,N⟩;dsimp only;refine aj (λe=>?_) (λe=>?_)
 ·have am:ii P+20<=ii d:=i4
  have eY:(d.drop P.length).take 20++d.drop (ii P+20)=d.drop P.length:=by rw[<-zE];exact qA _ _
  have U:ii ((d.drop P.length).take 20)=20:=i7
  rw[<-eY]at N;refine(Dy P ((d.drop P.length).take 20) (d.drop (ii P+20)) _ _ i0 (by rw[U]) i7 N).mono ?_;rintro _ h2 ⟨rfl,i,j,b,H2⟩;have y:ii i=20:=by rw[<-uZ dO b,U]
  have g:ii (P++i)=ii P+20:=by rw[qx,y]
  refine⟨(),i0,P++i,?_,⟨i4,⟨t+1,by rw[g,K,zK]⟩,X.snoc K j i4,?_,?_⟩,i4⟩
  ·rw[g,ak _];congr 1
  ·rw[g];have:d.take (ii P+20)=d.take P.length++(d.drop P.length).take 20:=by rw[List.take_add]
   rw[this];exact S.app b
  ·rw[g,qp];exact H2
 ·have R:aa B h0 h1 (cJ s (P++(d.drop P.length++[]))::As):=by rw[qN];exact N
  refine(Dy P (d.drop P.length) [] _ _ i0 l5 i7 R).mono ?_;rintro _ h3 ⟨rfl,i,j,b,T⟩;have y:ii i=ii d-ii P:=by rw[<-uZ dO b,za]
  have F:Bs 20 (P++i):=X.snoc K j i4;have c:cz co d (P++i):=by have:=S.app b;rw[qA]at this;exact this
  refine⟨(),i0,?_⟩;refine av (λt:Nat×List bF=>(t.1:Int)) (λt h'=>0<t.1/\t.1<=2^32/\t.2.length=ii d/\Bs t.1 t.2/\cz co d t.2/\aa B h0 h' (cJ s t.2::As)) (λt=>2^32-t.1) (20,P++i) i0 ⟨i6,i6,by dsimp only;rw[qx];omega,F,c,by rw[qN]at T;exact T⟩ ?_;rintro⟨k,l⟩ h4 ⟨ao,hk,Z,W,z,J⟩;dsimp only at*;refine aj (λe2=>?_) (λe2=>?_)
  ·have ah:k<ii d:=i4
   have E:qc xN ((2:Int)*k)=((2*k:Nat):Int):=j3
   have I:qc xN ((k:Int)*2)=((2*k:Nat):Int):=j3
   rw[E];have next:∀{h':f8} (q:List bF),ii q=ii d->Bs (2*k) q->cz co l q->aa B h0 h' (cJ s q::As)->∃f:Nat×List bF,qc xN ((k:Int)*2)=(f.1:Int)/\(0<f.1/\f.1<=2^32/\f.2.length=ii d/\Bs f.1 f.2/\cz co d f.2/\aa B h0 h' (cJ s f.2::As))/\2^32-f.1<2^32-k:=λ{h'} q q1 q2 q3 q4=>
    ⟨(2*k,q),I,⟨i6,i6,q1,q2,z.trans q3,q4⟩,i6⟩
   refine av (λt:List bF×List bF=>((ii t.1:Int),((ii t.1+2*k:Nat):Int))) (λt h'=>(∃u,ii t.1=u*(2*k))/\t.1.length+ii t.2=ii d/\Bs (2*k) t.1/\Bs k t.2/\cz co l (t.1++t.2)/\aa B h0 h' (cJ s (t.1++t.2)::As)) (λt=>ii t.2) ([],l) (by dsimp only;rw[yE,Nat.zero_add];rfl) ⟨⟨0,i9⟩,by simpa using Z,Bs.nil _,W,by simpa using cz.refl _,by simpa using J⟩ ?_;rintro⟨P,Q⟩ V ⟨⟨u,D⟩,Y,m,a,c,G⟩;dsimp only at*;have L:qc xN ((ii P:Int)+k)=((ii P+k:Nat):Int):=j3
   rw[L];have eQ:Q.take k++Q.drop k=Q:=qA _ _;refine aj (λe3=>?_) (λe3=>aj (λe4=>?_) λe4=>?_)
   ·have ad:2*k<=ii Q:=i4
    have w:Q.take k++((Q.drop k).take k++Q.drop (2*k))=Q:=by
     have:Q.drop (2*k)=(Q.drop k).drop k:=by rw[zE];congr 1;omega
     rw[this,qA,eQ]
    have l1:ii (Q.take k)=k:=i7
    have l2:ii ((Q.drop k).take k)=k:=i7
    have o:aa B h0 V (cJ s (P++(Q.take k++((Q.drop k).take k++Q.drop (2*k))))::As):=by rw[w];exact G
    refine(FP _ P (Q.take k) ((Q.drop k).take k) (Q.drop (2*k)) _ _ _ i4 i4 (qn _) i0 (by rw[l1]) (by rw[l1,l2];omega) i7 a.first a.rest.first o).mono ?_;rintro _ h6 ⟨rfl,M,j,b,A⟩;have r:ii M=2*k:=by rw[<-uZ dO b,qx,l1,l2];omega
    have p:ii (P++M)=ii P+2*k:=by rw[qx,r]
    refine⟨(),i0,(P++M,Q.drop (2*k)),?_,⟨⟨u+1,by dsimp only;rw[p,D];exact(zK u (2*k)).symm⟩,by dsimp only;rw[p,za];omega,m.snoc D j i4,?_,?_,?_⟩,by dsimp only;rw[za];omega⟩
    ·dsimp only;rw[p,ak _];congr 1
    ·dsimp only;have:Q.drop (2*k)=(Q.drop k).drop k:=by rw[zE];congr 1;omega
     rw[this];exact a.rest.rest
    ·dsimp only;refine c.trans ?_
     conv=>arg 2;rw[<-w]
     rw[qp];have:=(cz.refl (le:=co) P).app (b.app (cz.refl (le:=co) (Q.drop (2*k))));rw[qp]at this;exact this
    ·dsimp only;rw[qp];exact A
   ·have x:k<ii Q:=i4
    have ab:ii Q<2*k:=i4
    have l1:ii (Q.take k)=k:=i7
    have l2:ii (Q.drop k)=ii Q-k:=i9
    have O:Sd co (Q.drop k):=by have:=a.rest.first;rw[qi i4]at this;exact this
    have o:aa B h0 V (cJ s (P++(Q.take k++(Q.drop k++[])))::As):=by rw[qN,eQ];exact G
    refine(FP _ P (Q.take k) (Q.drop k) [] _ _ _ i4 i4 (qn _) i0 (by rw[l1]) (by rw[l1,l2];omega) i7 a.first O o).mono ?_;rintro _ h6 ⟨rfl,M,j,b,A⟩;have r:ii M=ii Q:=by rw[<-uZ dO b,eQ]
    rw[eQ]at b;rw[qN]at A;exact⟨(),i0,next (P++M) (by rw[qx];omega) (m.snoc D j i4) (c.trans ((cz.refl _).app b)) A⟩
   ·have x:ii Q<=k:=i4
    exact next (P++Q) (by rw[qx];omega) (m.snoc D (a.whole x) i4) c G
  ·have hs:Sd co l:=W.whole i4;rw[aeB dO hs z]at J;exact⟨i0,J⟩
theorem MZ(d:List bF)(a:ii d<=2^30)(H:aa B h0 h (cJ s d::As)):
  ac xR 196 #[s,.func (.func 197) #[] #[]] h λv h'=>v=.tuple #[]/\aa B h0 h' (cJ s (d.mergeSort co)::As):=by
 refine jQ s (197,#[],#[]) ?_;unfold gb;refine(VO d _ (by rw[(H.own 0 i0).len]) a H).mono ?_;rintro _ c ⟨rfl,b⟩;exact⟨(),i0,i0,b⟩
def jP:bF:=(0,0,0,0,0,0,0,⟨eH,0,0⟩)
end
end Go.Qw
namespace Wl
open Go Go.Vc Go.Qw
def kq(l:List bF)(k:Nat):Bool:=decide (k=0)||decide (lU (l.getD k jP) (l.getD (k-1) jP)≠0)
def kr(l:List bF)(k:Nat):List bF:=((qE k).filter (kq l)).map λi=>l.getD i jP
def cpt(l:List bF):List bF:=kr l l.length
theorem nE(l:List bF)(k:Nat):kr l (k+1)=kr l k++if kq l k then[l.getD k jP]else[]:=by unfold kr;rw[zO,zk,qT,zp,vl];split<;>rfl
end Wl
namespace Go.Qw
open Go Go.Vc Go.Proofs Wl
section
variable {B:aB} {h0 h h':f8} {As:List HP} {s:Sl} {d:List bF}
theorem Na(a b:bF)(h:f8):ac xR 199 #[recv a,recv b] h λv h'=>v=xL (decide (lU a b=0))/\Sp h h' []:=by refine HC a b ?_;unfold Ax;refine(Sp.refl h).boxed λf j g=>g.boxed λe d c=>?_;have c:Sp h d [aw f 170 (bR a),aw e 170 (bR b)]:=c;refine⟨a,(c.box 0 i0).aS _ i0,b,(c.box 1 i0).aS _ i0,(rk a b d).mono ?_⟩;rintro _ h3 ⟨rfl,i⟩;refine⟨_,i0,?_,.zip (aa.up c i.ai).ai⟩;congr 1
theorem Lf(l:List bF)(hd:ii l<=2^30)(H:aa B h0 h (cJ s l::As)):
  ac xR 198 #[s,.func (.func 199) #[] #[]] h λv h'=>∃r:Sl,v=r/\aa B h0 h' (cJ r (cpt l)::As):=by
 refine kI s (199,#[],#[]) ?_;unfold gx;have am:=(H.own 0 i0).len;have w:=(H.own 0 i0).cap;have n:(∀j,j<ii l->kq l j=eL)->cpt l=l:=λz=>by
  have:∀k,k<=ii l->kr l k=l.take k:=λk=>by
   induction k with
   |zero=>simp[kr]
   |succ k ih=>
    intro T;rw[nE,ih i4,f9 (z k i4),aK l k,getD_lt (show k<ii l by omega)]
  unfold cpt;rw[this _ (qn _),q8]
 refine aj (λe=>⟨s,i0,?_⟩) (λe=>?_)
 ·rw[n λj m=>by unfold kq;rw[g9 (show j=0 by omega)];rfl];exact H
 refine av (λi:Nat=>(i:Int)) (λi h'=>1<=i/\i<=ii l/\(∀j,j<i->kq l j=eL)/\aa B h0 h' (cJ s l::As)) (λi=>ii l-i) 1 i0 ⟨i4,i4,λj m=>by unfold kq;rw[g9 (show j=0 by omega)];rfl,H⟩ ?_;rintro i h1 ⟨ao,hi,z,J⟩;refine aj (λK=>?_) (λK=>?_)
 ·have A:i<ii l:=by have e':(i:Int)<(s.len:Int):=K;omega
  have ei:qc xN ((i:Int)-1)=((i-1:Nat):Int):=j3
  rw[ei];refine jY J i i0 (x:=l.getD i jP) (by rw[getD_lt A,qd A]) (jY J (i-1) i0 (x:=l.getD (i-1) jP) (by rw[getD_lt (show i-1<ii l by omega),qd]) (fa k9 ?_));refine(Na _ _ h1).mono ?_;rintro _ h2 ⟨rfl,R2⟩;have W:=J.up R2.ai;refine⟨_,i0,trivial,bv (λe2=>?_) λe2=>?_⟩
  ·have p:kq l i=eR:=by unfold kq;rw[hU (show¬i=0 by omega)];simpa using e2
   have u:kr l i=l.take i:=by
    have:∀k,k<=i->kr l k=l.take k:=λk=>by
     induction k with
     |zero=>simp[kr]
     |succ k ih=>
      intro T;rw[nE,ih i4,f9 (z k i4),aK l k,getD_lt (show k<ii l by omega)]
    exact this i (qn _)
   refine⟨⟨i4,i4⟩,?_⟩;rw[ql];refine av (λt:Nat×List bF=>((ii (kr l (i+t.1)):Int),(t.1:Int))) (λt h'=>1<=t.1/\i+t.1<=ii l/\t.2.length=ii l/\(kr l (i+t.1)).length+1<=i+t.1/\t.2.take (kr l (i+t.1)).length=kr l (i+t.1)/\(∀j,i+t.1-1<=j->t.2[j]?=l[j]?)/\aa B h0 h' (cJ s t.2::As)) (λt=>ii l-t.1) (1,l) ?_ ⟨i9,i6,i0,?_,?_,λ_ _=>rfl,W⟩ ?_
   ·dsimp only;rw[nE,p,u];simp;omega
   ·dsimp only;rw[nE,p,u];simp;omega
   ·dsimp only;rw[nE,p,u];simp
   rintro⟨k,D⟩ h3 ⟨ad,ab,F,U,d,o,I⟩;dsimp only at*;obtain⟨c,O⟩:∃c,c=ii (kr l (i+k)):=⟨_,rfl⟩
   rw[<-O]at U d⊢;have ah:=(I.own 0 i0).len;have E:=(I.seq 0 i0 λ_=>rfl).drop i w;refine aj (λe3=>?_) (λe3=>?_)
   ·have M:i+k<ii l:=i4
    have ek:qc xN ((k:Int)-1)=((k-1:Nat):Int):=j3
    rw[ek];have X:∀j,k-1<=j->(m:i+j<ii l)->(D.drop i)[j]?=dB (l.getD (i+j) jP):=λj m G=>by
     rw[List.getElem?_drop,o _ i4,getD_lt G,qd G]
    have gk:=X k i4 M;have L:=X (k-1) i4 i4;obtain⟨Y,Z⟩:=qo.1 gk;obtain⟨q1,q2⟩:=qo.1 L;refine Seq.dQ (f:=bR) (g:=bR) E k i0 Y (l.getD (i+k) jP) (by rw[Z]) ?_;refine Seq.dQ (f:=bR) (g:=bR) E (k-1) i0 q1 (l.getD (i+(k-1)) jP) (by rw[q2]) (fa k9 ?_);refine(Na _ _ h3).mono ?_;rintro _ h4 ⟨rfl,R4⟩;have P:=I.up R4.ai;have q:kq l (i+k)=!decide (lU (l.getD (i+k) jP) (l.getD (i+(k-1)) jP)=0):=by unfold kq;rw[hU (show¬i+k=0 by omega),show i+k-1=i+(k-1)by omega];simp
    have a:=nE l (i+k);rw[q]at a;refine⟨_,i0,trivial,bm (λS=>?_) λS=>?_⟩
    ·rw[S]at a;have b:ii (kr l (i+(k+1)))=c+1:=by rw[<-w9,a];simp[O]
     have y:=(P.seq 0 i0 λ_=>rfl).drop i w;refine Seq.dQ (f:=bR) (g:=bR) y k i0 Y (l.getD (i+k) jP) (by rw[Z]) ?_;refine P.set af 0 i0 (λ_=>rfl) i0 c i0 i4 (l.getD (i+k) jP) i0 i0 i0 λh5 H5=>?_;refine⟨(k+1,D.set c (l.getD (i+k) jP)),?_,⟨i6,i6,by dsimp only;rw[zj];exact F,by dsimp only;rw[b];omega,?_,λj m=>?_,H5⟩,i6⟩
     ·dsimp only;rw[b,ak _,ak _];rfl
     ·dsimp only;rw[b,aK _ c (by rw[zj];omega),List.getElem_set_self,List.take_set_of_le (qn _),d,<-w9,a];simp
     ·dsimp only at m⊢;rw[zG i4];exact o j i4
    ·rw[S]at a;have b:ii (kr l (i+(k+1)))=c:=by rw[<-w9,a];simp[O]
     refine⟨(k+1,D),?_,⟨i6,i6,F,by dsimp only;rw[b];omega,?_,λj m=>o j (by dsimp only at m;omega),P⟩,i6⟩
     ·dsimp only;rw[b,ak _];rfl
     ·dsimp only;rw[b,d,<-w9,a];simp
   ·have Q:i+k=ii l:=i4
    refine⟨⟨i4,i4⟩,?_⟩;rw[ql];refine I.oR af 0 i0 ahz (λ_=>rfl) i0 i5 c i4 λh6 V=>⟨⟨i4,i4⟩,⟨s.ptr,c,s.cap⟩,i0,?_⟩
    rw[d,Q]at V;exact V
  ·refine⟨i+1,js,⟨i4,i4,λj m=>?_,W⟩,i4⟩;by_cases N:j=i
   ·subst N;unfold kq;rw[g9 (show lU (l.getD j jP) (l.getD (j-1) jP)≠0 by simpa using e2)];simp
   ·exact z j i4
 ·have R:i=ii l:=by have e':¬(i:Int)<(s.len:Int):=K;omega
  subst R;rw[n z];exact⟨s,i0,J⟩
end
def fieldsOf(d:Option TypeDesc):List (Bool×TypeId×Nat):=match d with|some (.struct fs)=>fs.toList.map (λf=>(f.name== "_",f.type,f.offset))|_=>[]
theorem aaQ:fieldsOf (Tryz.prog.underlying 24)=[(eR,3,0),(eR,3,1),(eR,3,2)]:=j1
theorem adn:Tryz.prog.stoodInHeld 24=eR:=j1
theorem ado:Tryz.prog.eqGuardType Tryz.prog.depth 24=eR:=j1
theorem TR{P:Program}{t:TypeId}{a b c:TypeId×Nat}(h:fieldsOf (P.underlying t)=[(eR,a.1,a.2),(eR,b.1,b.2),(eR,c.1,c.2)]):
  ∃f g e:Field,P.underlying t=dB (.struct #[f,g,e])/\(f.name≠ "_" /\f.type=a.1/\f.offset=a.2)/\(g.name≠ "_" /\g.type=b.1/\g.offset=b.2)/\(e.name≠ "_" /\e.type=c.1/\e.offset=c.2):=by
 cases hu:P.underlying t with
 |none=>rw[hu]at h;cases h
 |some d=>
  rw[hu]at h;cases d with
  |struct fs=>
   simp only[fieldsOf]at h;obtain⟨l⟩:=fs;have i:ii l=3:=by simpa using congrArg vp h
   obtain⟨f,r,rfl⟩:=yB i;obtain⟨g,j,rfl⟩:=yB (by simpa using i:ii r=1+1);obtain⟨e,k,rfl⟩:=yB (by simpa using i:ii j=0+1);obtain rfl:k=[]:=by simpa using i
   simp at h;exact⟨f,g,e,i0,⟨h.1.1,h.1.2.1,h.1.2.2⟩,⟨h.2.1.1,h.2.1.2.1,h.2.1.2.2⟩,⟨h.2.2.1,h.2.2.2.1,h.2.2.2.2⟩⟩
  |_=>cases h
theorem jf{P:Program}{d:Nat}{t:TypeId}{k:IntKind}(h:∃c,P.underlying t=dB (.int c))(a b:Int):aH P (Op.equalIn (d+1) t (.int k a) (.int k b)) (a==b):=by obtain⟨c,h⟩:=h;unfold Op.equalIn;refine(aJ h).bind ?_;simp only[if_true];exact .pure
theorem mw{P:Program}{t:TypeId}{k:IntKind}(h:P.underlying t=dB (.int k)){a:Array Value}{i:Nat}{v:Value}(b:a[i]?=dB v):aH P (part t a i) v:=by unfold part isAgg;refine aH.bind (v:=eR) ((aJ h).bind .pure) ?_;simp only[ze,if_false,b];exact .pure
theorem aiv(p q:Pm):aH xR (Op.equal 24 (xM #[xH xN p.1,xH xN p.2.1,xH xN p.2.2]) (xM #[xH xN q.1,xH xN q.2.1,xH xN q.2.2])) (decide (p=q)):=by
 obtain⟨f,g,u,B,⟨z,F,A⟩,⟨D,I,y⟩,⟨E,G,u3⟩⟩:=TR (a:=(3,0)) (b:=(3,1)) (c:=(3,2)) aaQ;have H:∃k,Tryz.prog.underlying 3=dB (.int k):=⟨.i64,j1⟩
 obtain⟨k,d⟩:=H;unfold Op.equal;rw[show Op.maxDepth=9998+1+1 from i0,Op.equalIn];refine(aJ B).bind ?_;refine aH.bind (v:=xR) (λw=>rfl) ?_;simp only[adn,ze,if_false,List.forIn_toArray,List.forIn_cons,List.forIn_nil,ne_eq,z,D,E,not_false_eq_true,if_true,F,A,I,y,G,u3];obtain⟨a,b,c⟩:=p;obtain⟨h,i,j⟩:=q;dsimp only;have n:aH xR (part 3 #[Value.int xN a,Value.int xN b,Value.int xN c] 0) _:=mw d i0;have o:aH xR (part 3 #[Value.int xN h,Value.int xN i,Value.int xN j] 0) _:=mw d i0;have r:aH xR (part 3 #[Value.int xN a,Value.int xN b,Value.int xN c] 1) _:=mw d i0;have s:aH xR (part 3 #[Value.int xN h,Value.int xN i,Value.int xN j] 1) _:=mw d i0;have t:aH xR (part 3 #[Value.int xN a,Value.int xN b,Value.int xN c] 2) _:=mw d i0;have x:aH xR (part 3 #[Value.int xN h,Value.int xN i,Value.int xN j] 2) _:=mw d i0;by_cases l:a=h
 ·by_cases m:b=i
  ·by_cases h3:c=j
   ·have e:decide ((a,b,c)=(h,i,j))=eL:=by simp[l,m,h3]
    rw[e];refine aH.bind (v:=(eH,())) (aH.bind (v:=ForInStep.yield (eH,())) (n.bind (o.bind ((jf ⟨k,d⟩ a h).bind ?_))) (aH.bind (v:=ForInStep.yield (eH,())) (r.bind (s.bind ((jf ⟨k,d⟩ b i).bind ?_))) (aH.bind (v:=ForInStep.yield (eH,())) (t.bind (x.bind ((jf ⟨k,d⟩ c j).bind ?_))) .pure))) .pure
    ·simp only[l,beq_self_eq_true,yk,ze,if_false];exact .pure
    ·simp only[m,beq_self_eq_true,yk,ze,if_false];exact .pure
    ·simp only[h3,beq_self_eq_true,yk,ze,if_false];exact .pure
   ·have e:decide ((a,b,c)=(h,i,j))=eR:=by simp[h3]
    rw[e];refine aH.bind (v:=(dB eR,())) (aH.bind (v:=ForInStep.yield (eH,())) (n.bind (o.bind ((jf ⟨k,d⟩ a h).bind ?_))) (aH.bind (v:=ForInStep.yield (eH,())) (r.bind (s.bind ((jf ⟨k,d⟩ b i).bind ?_))) (aH.bind (v:=ForInStep.done (dB eR,())) (t.bind (x.bind ((jf ⟨k,d⟩ c j).bind ?_))) .pure))) .pure
    ·simp only[l,beq_self_eq_true,yk,ze,if_false];exact .pure
    ·simp only[m,beq_self_eq_true,yk,ze,if_false];exact .pure
    ·rw[show(c==j)=eR by simpa using h3];simp only[yl,if_true];exact .pure
  ·have e:decide ((a,b,c)=(h,i,j))=eR:=by simp[m]
   rw[e];refine aH.bind (v:=(dB eR,())) (aH.bind (v:=ForInStep.yield (eH,())) (n.bind (o.bind ((jf ⟨k,d⟩ a h).bind ?_))) (aH.bind (v:=ForInStep.done (dB eR,())) (r.bind (s.bind ((jf ⟨k,d⟩ b i).bind ?_))) .pure)) .pure
   ·simp only[l,beq_self_eq_true,yk,ze,if_false];exact .pure
   ·rw[show(b==i)=eR by simpa using m];simp only[yl,if_true];exact .pure
 ·have e:decide ((a,b,c)=(h,i,j))=eR:=by simp[l]
  rw[e];refine aH.bind (v:=(dB eR,())) (aH.bind (v:=ForInStep.done (dB eR,())) (n.bind (o.bind ((jf ⟨k,d⟩ a h).bind ?_))) .pure) .pure;rw[show(a==h)=eR by simpa using l];simp only[yl,if_true];exact .pure
theorem ahC(x y:Operand)(p q:Pm):ke xR .neq 24 x y (xM #[xH xN p.1,xH xN p.2.1,xH xN p.2.2]) (xM #[xH xN q.1,xH xN q.2.1,xH xN q.2.2]) (xL (!decide (p=q))):=by
 unfold ke eqGuard;refine aH.bind (v:=()) ?_ ?_
 ·simp only[yk,ze,if_false];refine aH.bind (v:=xR) (λw=>rfl) ?_;refine aH.bind (v:=xR) (λw=>rfl) ?_;simp only[ado,yl,if_true];exact .pure
 ·exact(aiv p q).bind .pure
end Go.Qw
namespace Wl
def Yt(P:cb->Bool)(l:List cb)(i:Int):Prop:=(i=-1/\l.any P=eR)∨∃n:Nat,∃h:n<ii l,i=n/\P l[n]=eL/\(l.take n).any P=eR
theorem TS{P:cb->Bool}{l:List cb}{i:Int}(h:Yt P l i):decide (i>=0)=l.any P:=by
 rcases h with⟨rfl,h⟩|⟨n,hn,rfl,h,_⟩
 ·rw[h];rfl
 ·rw[zV.2 ⟨_,qg hn,h⟩];exact g9 i4
end Wl
namespace Go.Qw
open Go Go.Vc Go.Proofs Wl
theorem Kc(f:FuncId)(pre post:Array Value)(P:Wl.cb->Bool)(l:Sl)(a:List Wl.cb)(h:f8)(q:C.fns[f]?=dB eL)(m:dX vU h l a)(D:ii a<=2^30)
  (w:∀(u:eC) (E:Wl.cb) (h':f8),Sp h h' []->dX ol h' u E->E∈a->ac xR f (pre.toList++[Value.agg #[xK u.1,xH xN u.2.1,xH xN u.2.2.1,u.2.2.2]]++post.toList).toArray h' λv k=>v=xL (P E)/\Sp h' k []):
  ac xR 152 #[l,.func (.func f) pre post] h λv h'=>(∃i:Int,v=xH xN i/\Yt P a i)/\Sp h h' []:=by
 refine gT l (f,pre,post) ?_;unfold fo;obtain⟨j,y,B,x⟩:=bE.kO m;have t:=bE.len m;refine av (λi:Nat=>(i:Int)) (λi h'=>i<=ii a/\(a.take i).any P=eR/\Sp h h' []) (λi=>ii a-i) 0 i0 ⟨i4,i9,Sp.refl h⟩ ?_;rintro i n ⟨F,b,d⟩;refine aj (λe=>?_) (λe=>?_)
 ·have c:i<ii a:=by have s:(i:Int)<(l.len:Int):=e;omega
  have z:dX ol n (j[i]'(by omega)) a[i]:=ol.mono (ol.loc (x i i4 c) d.ai) λ_ p=>qM p d.ai.1;refine(Seq.up y d.ai).dQ (g:=bQ) i i0 i4 (j[i]'(by omega)) i0 (fa q ?_);refine(w (j[i]'(by omega)) a[i] n d z (qg c)).mono ?_;rintro _ A ⟨rfl,r⟩;have o:=d.up r.ai;refine⟨_,i0,bv (λe2=>⟨⟨i,i0,.inr ⟨i,c,i0,e2,b⟩⟩,o⟩) λe2=>?_⟩;refine⟨i+1,js,⟨i4,?_,o⟩,i4⟩;rw[aK _ _ c,yV,b,List.any_cons,List.any_nil,e2];rfl
 ·have s:¬(i:Int)<(l.len:Int):=e;rw[qi i4]at b;exact⟨⟨-1,i0,.inl ⟨i0,b⟩⟩,d⟩
theorem Pa(f:FuncId)(pre post:Array Value)(P:Wl.cb->Bool)(l:Sl)(a:List Wl.cb)(h:f8)(c:C.fns[f]?=dB eL)(e:dX vU h l a)(j:ii a<=2^30)
  (g:∀(u:eC) (E:Wl.cb) (h':f8),Sp h h' []->dX ol h' u E->E∈a->ac xR f (pre.toList++[Value.agg #[xK u.1,xH xN u.2.1,xH xN u.2.2.1,u.2.2.2]]++post.toList).toArray h' λv b=>v=xL (P E)/\Sp h' b []):
  ac xR 165 #[l,.func (.func f) pre post] h λv h'=>v=xL (a.any P)/\Sp h h' []:=by
 refine gp l (f,pre,post) ?_;unfold eM;refine(Kc f pre post P l a h c e j g).mono ?_;rintro _ m ⟨⟨i,rfl,k⟩,d⟩;exact⟨i,i0,by rw[TS k],d⟩
theorem rl(o b t:Int)(h:f8):ac xR 62 #[xH xN o,xH xN b,xH xN t] h λv h'=>v=xH xP (cF o b t)/\h'=h:=by
 refine QS o b t ?_;unfold JJ;refine⟨?_,i0⟩;have:qc xP ((qc xP ((qc xP ((128:Int)*(qc xP o)))+(qc xP ((16:Int)*(qc xP b)))))+(qc xP t))=cF o b t:=by unfold cF qc;simp[qk,ve];omega
 rw[this]
theorem VP(x:cg)(m:aI)(y:bF)(r:dD)(h:f8)(o:dY h x m)(V:db m)(R:dX fg h y r):
  ac xR 195 #[fN x,recv y] h λv h'=>v=xL (dT m r)/\Sp h h' []:=by
 refine MI x y ?_;unfold FJ;refine(Sp.refl h).boxed λS h1 Y=>Y.boxed λd J j=>?_;have j:Sp h J [aw S 44 (aX x),aw d 170 (bR y)]:=j;obtain⟨⟨Z,e2,e3,z,e5,e7,e8⟩,e6⟩:=id R;have G:x.2.2.1=m.p.1:=congrArg (·.1) o.p;have H:x.2.2.2.1=m.p.2.1:=congrArg (·.2.1) o.p;have F:x.2.2.2.2.1=m.p.2.2:=congrArg (·.2.2) o.p;have t:y.2.2.2.1=r.p.1:=congrArg (·.1) z;have I:y.2.2.2.2.1=r.p.2.1:=congrArg (·.2.1) z;have s:y.2.2.2.2.2.1=r.p.2.2:=congrArg (·.2.2) z;have ab:=V.ob;refine bg ⟨y,(j.box 1 i0).aS _ i0,(Ka y r J (fg.mono (fg.loc R j.ai) λ_ U=>qM U j.ai.1)).mono ?_⟩;rintro _ h3 ⟨rfl,R3⟩;have e:Sp h h3 [aw S 44 (aX x),aw d 170 (bR y)]:=j.up R3.ai;have O:=e.box 0 i0;have B:=e.box 1 i0;refine⟨_,i0,bm (λg=>⟨by unfold dT;rw[g];rfl,.zip e.ai⟩) λg=>?_⟩;obtain⟨_,g2,_⟩:=(kC r).1 g;refine⟨r.p,by rw[<-t,<-I,<-s];exact B.Jh 3 i0 i0 i0,m.p,by rw[<-G,<-H,<-F];exact O.Jh 2 i0 i0 i0,_,ahC _ _ r.p m.p,bm (λA=>⟨?_,.zip e.ai⟩) λA=>?_⟩
 ·unfold dT;rw[g,A];rfl
 obtain⟨P,K⟩:∃P:Wl.cb->Bool,P=λx=>decide (x.object=r.object)&&(decide (r.block<(x.tries.length:Int))&&decide (r.seed=cF r.object r.block (x.tries.getD r.block.toNat 0))):=⟨_,rfl⟩
 have w:dT m r=m.aG.any P:=by unfold dT;rw[g,A,K];rfl
 refine⟨x.2.2.2.2.2.2.2,O.cell i0,?_⟩;refine(Pa 247 #[] #[xJ (dB d)] P x.2.2.2.2.2.2.2 m.aG h3 k9 (o.up e.ai).aG i4 λu E L H4 he _=>?_).mono ?_
 ·obtain⟨⟨y1,y2,y3⟩,Q⟩:=he;have X:=Seq.len Q;have l:=B.ai H4.ai B.lt;refine Ju u d ?_;unfold BQ;refine(Sp.refl L).boxed λa5 b a=>?_;have a:Sp L b [aw a5 94 (bQ u)]:=a;have M:=a.box 0 i0;have c:=l.ai a.ai l.lt;have q:f7 b (a5.add 1)=dB (xH xN E.object):=by rw[<-y2];exact M.cell i0
  have k:f7 b (a5.add 3)=dB (xI u.2.2.2.ptr u.2.2.2.len u.2.2.2.cap):=M.cell i0;have n:f7 b d=dB (xH xN r.object):=by rw[<-Z];exact c.cell0 i0
  have i:f7 b (d.add 1)=dB (xH xN r.block):=by rw[<-e2];exact c.cell i0
  have N:f7 b (d.add 6)=dB (xH xP r.seed):=by rw[<-e5];exact c.cell i0
  rw[K];refine⟨E.object,q,r.object,n,cu (λD=>?_) λD=>⟨⟨n,q,trivial⟩,?_,.zip a.ai⟩⟩
  ·refine⟨u.2.2.2,k,r.block,i,aj (λW=>?_) λW=>⟨⟨i,k,n,q,trivial⟩,?_,.zip a.ai⟩⟩
   ·have T:r.block.toNat<E.tries.length:=i4
    refine⟨r.seed,N,r.object,n,r.block,i,u.2.2.2,k,r.block,i,?_⟩;refine Seq.bB (f:=aC) (Seq.up Q a.ai) r.block.toNat i4 T (E.tries.getD r.block.toNat 0) (by rw[getD_lt T];rfl) ?_;refine(rl _ _ _ b).mono ?_;rintro _ _ ⟨rfl,rfl⟩;refine⟨_,i0,⟨i,k,N,i,k,n,q,trivial⟩,?_,.zip a.ai⟩;dsimp only;rw[g9 D,g9 (show r.block<(E.tries.length:Int)by omega),zU,zU];congr 1
   ·dsimp only;rw[hU (show¬r.block<(E.tries.length:Int)by omega)];simp
  ·dsimp only;rw[hU D];rfl
 ·rintro _ b ⟨rfl,R5⟩;exact⟨_,i0,by rw[w],.zip (aa.up e R5.ai).ai⟩
section
variable {α:Type}
def ox(k:Nat)(f:α->be):iM Sl (List α):=⟨λh q s l=>Seq h q s k f l/\s.len<=s.cap,λa c=>⟨a.1.ai c,a.2⟩,λa b=>⟨a.1.mono b,a.2⟩⟩
theorem aa.afd{B:aB}{d h:f8}{As:List HP}{e b k:Nat}{s:Sl}{f:α->be}{a:List (List α)}(H:aa B d h (gy e s b k f a::As))(o:∀x,ii (f x)=k):∃rs,aa B d h (cK (ox k f) 1 bt s rs a::As):=by
 obtain⟨rs,H⟩:=H.DV;obtain⟨H,g⟩:=H.Ku;refine⟨rs,H.fI 0 i0 λq m=>⟨?_,g,λi r l j c=>?_⟩⟩
 ·have:=HP.Dx (i:=0) m i0;exact this.1.seq (λ_=>rfl) this.2
 ·have n:i<ii a:=(qo.1 c).1;have t:=gg (e:=b) (k:=k) (f:=f) g i n;have:=HP.Dx (i:=i+1) m qa;have p:rs[i]'(by omega)=r:=by rw[qd i4]at j;simpa using j
  have b:a[i]=l:=by rw[qd n]at c;simpa using c
  rw[p,b]at this;exact⟨this.1.seq o this.2,this.1.cap⟩
end
def sM(T:List (bF×dD)):HP:=⟨λh q=>∀t∈T,fg.p h q t.1 t.2,λa d t b=>fg.loc (a t b) d,λa c t b=>fg.mono (a t b) c⟩
end Go.Qw
namespace Wl
open Go Go.Vc Go.Qw
def Keyed(T:List (bF×dD)):Prop:=∀t∈T,t.1.1=t.2.object/\t.1.2.1=t.2.block/\t.1.2.2.1=t.2.id
def Qh(a b:bF×dD):Bool:=leC a.2 b.2
theorem adp{T:List (bF×dD)}(k:Keyed T):∀a∈T,∀b∈T,Qh a b=co a.1 b.1:=λa i b c=>by
 obtain⟨e,d,a3⟩:=k a i;obtain⟨g,f,h⟩:=k b c;unfold Qh leC co;rw[decide_eq_decide,Dw,e,d,a3,g,f,h]
theorem Yu{T:List (bF×dD)}(k:Keyed T):(T.mergeSort Qh).map qJ=(T.map qJ).mergeSort co/\(T.mergeSort Qh).map zH=(T.map zH).mergeSort leC/\Keyed (T.mergeSort Qh):=
 ⟨vL (adp k),vL λa _ b _=>rfl,λt c=>k t (yM.1 c)⟩
def Nb:bF×dD:=(jP,LN)
def EO(T:List (bF×dD)):List (bF×dD):=((qE T.length).filter (uG (T.map zH))).map λi=>T.getD i Nb
theorem getD_map{α β:Type}(f:α->β)(l:List α)(i:Nat)(d:α):(l.map f).getD i (f d)=f (l.getD i d):=by rw[qe,qe,qR];cases l[i]?<;>rfl
theorem aaR{T:List (bF×dD)}(k:Keyed T):(EO T).map qJ=cpt (T.map qJ)/\(EO T).map zH=Ad (T.map zH)/\∀t∈EO T,t∈T:=by
 have q:∀i,i<ii T->kq (T.map qJ) i=uG (T.map zH) i:=λi a=>by
  unfold kq uG;have g:∀j,j<ii T->(T.map qJ).getD j jP=(T[j]?.getD Nb).1/\(T.map zH).getD j LN=(T[j]?.getD Nb).2:=λj l=>by
   rw[qe,qe,qR,qR,qd l];exact⟨i0,i0⟩
  by_cases h0:i=0
  ·rw[g9 h0];rfl
  ·rw[hU h0,vD,vD,(g i a).1,(g i a).2,(g (i-1) i4).1,(g (i-1) i4).2];rw[qd a,qd (show i-1<ii T by omega)];obtain⟨o,p,a3⟩:=k _ (qg a);obtain⟨f,m,r⟩:=k _ (qg (show i-1<ii T by omega));unfold Ed;simp only[xh];have c:=aaM T[i].1 (T[i-1]'(by omega)).1;rw[o,p,a3,f,m,r]at c;by_cases b:lU T[i].1 (T[i-1]'(by omega)).1=0
   ·rw[hU λh=>h b,g9 (c.1 b)];rfl
   ·rw[g9 b,hU λn=>b (c.2 n)];rfl
 have e:(qE T.length).filter (kq (T.map qJ))=(qE T.length).filter (uG (T.map zH)):=List.filter_congr λi a=>q i (qG.1 a);refine⟨?_,?_,λt d=>?_⟩
 ·unfold EO cpt kr;rw[qy,e,yd];congr 1;funext i;exact(getD_map qJ T i Nb).symm
 ·unfold EO Ad;rw[qy,yd];congr 1;funext i;exact(getD_map zH T i Nb).symm
 ·unfold EO at d;obtain⟨i,a,rfl⟩:=qw.1 d;have:=qG.1 (qI.1 a).1;rw[getD_lt this];exact qg this
end Wl
namespace Go.Qw
open Go Go.Vc Go.Proofs Wl
theorem Rl(a pw:fz)(d:bw)(s b:Sl)(x:cg)(m:aI)(h:f8)(H:cA h a 156 (ff pw d s b))(hl:fF h s 1 aE d.l)(ok:eV d)(hx:dY h x m)(hz:db m):
  ac xR 130 #[xJ (dB a),fN x] h λv h'=>∃(r:Sl) (T:List (bF×dD)),v=r/\T.map zH=kS m d.l/\Keyed T/\Sp h h' [cJ r (T.map qJ),sM T]:=by
 refine KP (dB a) x ?_;unfold Dg;have ab:=ok.len;have V:=ok.room;refine(Sp.refl h).boxed λp h1 J=>?_;have J:Sp h h1 [aw p 44 (aX x)]:=J;refine(TK s b (H.ai J.ai H.lt) (hl.up J.ai) ok).mono ?_;rintro _ h2 ⟨G,rfl,R2⟩;have M:=J.cD R2;obtain⟨rs,M⟩:=aa.afd M λ_=>rfl;refine⟨G,i0,?_⟩;have F2:=M.eG 0 i0;have ah:=F2.1.len;have ao:=F2.2.1;have w:Sp h h2 [cJ ⟨eH,0,0⟩ [],sM [],cK (ox 1 aE) 1 bt G rs d.l,aw p 44 (aX x)]:=
  ((M.comp (.one (A:=sM []) (aV.refl _ _) λt f=>(by cases f))).nil 170 8 bR).ck [3,2,0,1]
 refine av (λt:Sl×Nat×List (bF×dD)=>(t.1,(t.2.1:Int)-1)) (λt h'=>t.2.1<=ii d.l/\t.2.2.length<=t.2.1/\Keyed t.2.2/\t.2.2.map zH=(d.l.take t.2.1).filterMap (jN m)/\Sp h h' [cJ t.1 (t.2.2.map qJ),sM t.2.2,cK (ox 1 aE) 1 bt G rs d.l,aw p 44 (aX x)]) (λt=>ii d.l-t.2.1) (⟨eH,0,0⟩,0,[]) i0 ⟨i9,i9,(λt f=>(by cases f)),i9,w⟩ ?_;rintro⟨o,i,T⟩ h3 ⟨hi,ad,L,k,w⟩;dsimp only at*;have ei:qc xN ((i:Int)-1+1)=(i:Int):=j3
 rw[ei];refine aj (λe=>?_) (λe=>?_)
 ·have W:i=ii d.l:=i4
  subst W;rw[q8]at k;refine(MZ (T.map qJ) m0 w).mono ?_;rintro _ h4 ⟨rfl,H4⟩;obtain⟨s1,s2,s3⟩:=Yu L;rw[<-s1]at H4;refine⟨(),i0,(Lf _ (by rw[qy,List.length_mergeSort];omega) H4).mono ?_⟩;rintro _ h5 ⟨r5,rfl,H5⟩;obtain⟨c1,c2,c3⟩:=aaR s3;rw[<-c1]at H5;refine⟨r5,i0,r5,EO (T.mergeSort Qh),i0,?_,λt f=>s3 t (c3 t f),?_⟩
  ·have hr:kS m d.l=(EO (T.mergeSort Qh)).map zH:=by unfold kS;rw[<-k,c2,s2]
   exact hr.symm
  ·exact(H5.fI 1 i0 (D:=sM (EO (T.mergeSort Qh))) λq z t f=>z t (yM.1 (c3 t f))).ck [0,1]
 ·have E:i<ii d.l:=i4
  have g:=XU m d.l i E;have next:∀{h':f8} {F:Sl} {T':List (bF×dD)},ii T'<=i+1->Keyed T'->T'.map zH=(d.l.take (i+1)).filterMap (jN m)->Sp h h' [cJ F (T'.map qJ),sM T',cK (ox 1 aE) 1 bt G rs d.l,aw p 44 (aX x)]->
    ∃j:Sl×Nat×List (bF×dD),((⟨F.ptr,F.len,F.cap⟩:Sl),(i:Int))=(j.1,(j.2.1:Int)-1)/\(j.2.1<=ii d.l/\j.2.2.length<=j.2.1/\Keyed j.2.2/\j.2.2.map zH=(d.l.take j.2.1).filterMap (jN m)/\Sp h h' [cJ j.1 (j.2.2.map qJ),sM j.2.2,cK (ox 1 aE) 1 bt G rs d.l,aw p 44 (aX x)])/\d.l.length-j.2.1<ii d.l-i:=λ{h' F T'} q1 Z q3 q4=>
   ⟨(F,i+1,T'),by dsimp only;congr 1;omega,⟨i6,q1,Z,q3,q4⟩,i6⟩
  refine bg ?_;refine(w.eG 2 i0).1.lM i i0 i4 ?_;obtain⟨u,R⟩:=Fix.row (w.eG 2 rfl) E;obtain⟨c,hc⟩:∃c,c=d.l[i]:=⟨_,rfl⟩
  rw[<-hc]at u g;have ap:ii c=64:=by rw[hc];exact ok.cell _ (qg E)
  refine(TN (rs[i]'(by omega)) c h3 u i4 R).mono ?_;rintro _ h6 ⟨y,rfl,Q0,Q1⟩;refine⟨(y,(dL c).isSome),i0,?_⟩;dsimp only;cases htr:dL c with
  |none=>
   have I:jN m c=eH:=by unfold jN;rw[htr]
   rw[I,Option.toList_none,qN]at g;have O:=w.up (Q0 htr).ai;refine O.alloc af i0 λa9 h7 U=>?_;refine U.storeAll af 4 i0 i0 (bR y) i0 i0 i0 i0 λh8 n=>bv (λe=>j0) λ_=>?_;exact next i4 L (by rw[k,g]) (n.ck [0,1,2,3])
  |some r=>
   have O:=w.cD (Q1 r htr);refine O.alloc af i0 λa9 h7 U=>?_;refine U.storeAll af 5 i0 i0 (bR y) i0 i0 i0 i0 λh8 n=>bv (λ_=>?_) λe=>j0
   have n:Sp h h8 [EA fg y r,cJ o (T.map qJ),sM T,cK (ox 1 aE) 1 bt G rs d.l,aw p 44 (aX x),aw a9 170 (bR y)]:=n;have N:=n.eAt 0 i0;have X:an h8 p 0 (aX x):=(n.box 4 i0).aS _ i0;have Y:an h8 a9 0 (bR y):=(n.box 5 i0).aS _ i0;have Q:=VP x m y r h8 (hx.up n.ai) hz N;refine⟨x,X,y,Y,Q.mono ?_⟩;rintro _ h9 ⟨rfl,R9⟩;have P:Sp h h9 [EA fg y r,cJ o (T.map qJ),sM T,cK (ox 1 aE) 1 bt G rs d.l,aw p 44 (aX x),aw a9 170 (bR y)]:=n.up R9.ai;refine⟨_,i0,bv (λe2=>?_) λe2=>?_⟩
   ·have I:jN m c=dB r:=by unfold jN;rw[htr];exact f9 e2
    rw[I,Option.toList_some]at g;refine⟨y,(P.box 5 i0).aS _ i0,?_⟩;refine P.push af 1 i0 ahz i0 i5 (λ_=>rfl) afV y j1 i5 m0 λF am K=>?_;have B:=(K.eAt 0 i0).1;have S:=K.merge 2 0 i5 i0 i0 (D:=sM (T++[(y,r)])) (λq1 Z _ p1 p2 t f=>by
     rcases qz.1 f with f|f
     ·exact fg.mono (p1 t f) λ_ H=>.inl H
     ·rw[qC.1 f];exact fg.mono p2 λ_ H=>.inr H)
    refine next (T':=T++[(y,r)]) i7 (λt f=>?_) (by rw[qT,k,g];rfl) ?_
    ·rcases qz.1 f with f|f
     ·exact L t f
     ·rw[qC.1 f];exact⟨B.1,B.2.1,B.2.2.1⟩
    ·rw[qT];exact S.ck [1,2,3,4]
   ·have I:jN m c=eH:=by unfold jN;rw[htr];exact g0 (by rw[e2];simp)
    rw[I,Option.toList_none,qN]at g;exact next i4 L (by rw[k,g]) (P.ck [1,2,3,4])
theorem HZ(a pw:fz)(d:bw)(s b:Sl)(x:cg)(m:aI)(h:f8)(g:cA h a 156 (ff pw d s b))(n:fF h s 1 aE d.l)(ok:eV d)(p:dY h x m)(k:db m):
  ac xR 130 #[xJ (dB a),fN x] h λv h'=>∃(r:Sl) (z:List bF),v=r/\Sp h h' [cK fg 8 bR r z (kS m d.l)]:=by
 refine(Rl a pw d s b x m h g n ok p k).mono ?_;rintro _ h' ⟨r,T,rfl,y,_,H⟩;refine⟨r,T.map qJ,i0,?_⟩;have o:=(H.freeze 0 i0 λ_=>rfl).ov;have i:aa _ _ _ (cK fg 8 bR r (T.map qJ) (kS m d.l)::_):=o.fI 0 i0 λq ⟨D,A,_,b,c,w,u⟩=>by
  rw[<-y];refine⟨Seq.mono u c,i9,λj B E e f=>?_⟩;rw[qR]at e f;cases g3:T[j]? with
  |none=>rw[g3]at e;cases e
  |some t=>
   rw[g3]at e f;simp at e f;subst e;subst f;exact fg.mono (w t (yi g3)) b
 exact i.ck [0]
end Go.Qw
namespace Go.Vc
open Go Wl
def bp(l:aF)(k:Nat):aF:=((qE k).map λi:Nat=>(i:Int)).filter λi=>decide (0<l.getD i.toNat 0)
def eE(l:aF):aF×Bool:=
 if l.all (eW · 0 512)then(bp l l.length,decide (ii l<=64)&&decide (0<ii (bp l l.length)))else([],eR)
theorem FQ(l:aF)(k:Nat)(a:k<ii l):bp l (k+1)=bp l k++if 0<l[k]then[(k:Int)]else[]:=by unfold bp;rw[zO,qT,zk];congr 1;simp only[List.map_cons,List.map_nil,zp,vl,ql,qe,qd a,xh];by_cases h:0<l[k]<;>simp[h]
theorem rm(l:aF)(k:Nat):ii (bp l k)<=k:=by unfold bp;exact zi (qP _ _) i9
end Go.Vc
namespace Go.Qw
open Go Go.Vc Go.Proofs Wl
section
theorem nR(s:Sl)(l:aF)(h:f8)(m:Rd h s 1 aC l)(D:ii l<=2^20):
  ac xR 39 #[s] h λv h'=>∃r:Sl,v=.tuple #[r,xL (eE l).2]/\Sp h h' [aq 3 r 1 aC (eE l).1]:=by
 refine KL s ?_;unfold CW;have n:=m.len;have q:Sp h h [aq 3 ⟨eH,0,0⟩ 1 aC (bp l 0)]:=(Sp.refl h).nil 3 1 aC;refine av (λt:Sl×Nat=>(t.1,(t.2:Int))) (λt h'=>t.2<=ii l/\(l.take t.2).all (eW · 0 512)=eL/\Sp h h' [aq 3 t.1 1 aC (bp l t.2)]) (λt=>ii l-t.2) (⟨eH,0,0⟩,0) i0 ⟨i9,i9,q⟩ ?_;rintro⟨o,i⟩ E ⟨F,b,d⟩;dsimp only at*;have f:∀(a:i<ii l),eW l[i] 0 512=eR->eE l=([],eR):=λa g=>by
  unfold eE;rw[g0];intro u;have:=qL.1 u _ (qg a);rw[g]at this;cases this
 refine aj (λe=>?_) (λe=>?_)
 ·have a:i<ii l:=i4
  have y:=rm l i;refine(Seq.up m d.ai).bB i i0 a l[i] i0 ?_;refine bg (aj (λj=>?_) λj=>aj (λe2=>?_) λe2=>?_)
  ·have g:=f a n0;rw[g];exact⟨⟨eH,0,0⟩,i0,(d.ck []).nil 3 1 aC⟩
  ·have g:=f a n0;rw[g];exact⟨⟨eH,0,0⟩,i0,(d.ck []).nil 3 1 aC⟩
  ·have c:(l.take (i+1)).all (eW · 0 512)=eL:=by rw[aK l i a,yU,b,zU,List.all_cons,List.all_nil,Bool.and_true];unfold eW;simp;omega
   refine aj (λp=>?_) (λp=>?_)
   ·refine d.push af 0 i0 lx i0 i5 (λ_=>rfl) ir (i:Int) i0 i5 i4 λA B w=>?_;refine⟨(A,i+1),jj,⟨i6,c,?_⟩,i6⟩;dsimp only;rw[FQ l i a,f9 i4];exact w
   ·refine⟨(o,i+1),jj,⟨i6,c,?_⟩,i6⟩;dsimp only;rw[FQ l i a,g0 i4,qN];exact d
 ·have k:i=ii l:=i4
  subst k;rw[q8]at b;have z:=(d.own 0 i0).len;have x:eE l=(bp l l.length,decide (ii l<=64)&&decide (0<ii (bp l l.length))):=by unfold eE;rw[f9 b]
  rw[x];refine aj (λj=>⟨o,?_,d⟩) (λj=>⟨o,?_,d⟩)
  ·dsimp only;rw[g9 (show l.length<=64 by omega),zU];congr 4;refine congrArg Value.bool ?_;rw[decide_eq_decide];omega
  ·dsimp only;rw[hU (show¬ii l<=64 by omega),Bool.false_and]
end
section
variable {B:aB} {h0 h:f8} {As:List HP} {a pw:fz} {offs:Int} {da:List aT} {w:Pow} {ds:aW}
theorem eF(x:cg)(m:aI)(c:dY h x m)(d:db m)(H:aa B h0 h (bj bu a pw (aX x) offs da w ds::As)):
  ac xR 25 #[xJ (dB a)] h λv h'=>∃r:Sl,v=r/\Sp h h' [aq 3 r 1 aC (aN ds m.drives)]:=by
 refine Ev (dB a) ?_;unfold te;obtain⟨ok,b⟩:=aa.cC H;have f:=d.dr;refine bv (λe=>j0) λ_=>⟨a,i0,x.2.2.2.2.2.2.1,b.cell i0,(MX _ m.drives c.drives i4 H).mono ?_⟩;rintro _ i ⟨r,rfl,g⟩;exact⟨r,i0,r,i0,g⟩
theorem Pb(x:cg)(m:aI)(j:dY h x m)(g:db m)(H:aa B h0 h (bj bu a pw (aX x) offs da w ds::As)):
  ac xR 16 #[xJ (dB a)] h λv h'=>∃y:cg,v=fN y/\Sp h h' [cx y m]:=by
 refine mU (dB a) ?_;unfold kG;obtain⟨ok,d⟩:=aa.cC H;refine(Sp.refl h).alloc af i0 λo k b=>?_;have c:=d.ai b.ai d.lt;refine bv (λe=>j0) λ_=>⟨a,i0,x,c.aS _ i0,(MW x m k (j.up b.ai) g).mono ?_⟩;rintro _ n ⟨y,rfl,i⟩;have l:=b.comp i;refine⟨y,i0,?_⟩;refine l.store af 0 i0 i0 0 (aX y) i0 i0 i0 j9 λh3 f=>?_;exact⟨y,(f.box 0 i0).aS _ i0,y,i0,f.ck [1]⟩
end
end Go.Qw
namespace Go.Vc
open Go Wl
def di(w:Pow)(offs:Int):Bool:=w.off||w.offs !=offs
end Go.Vc
namespace Go.Qw
open Go Go.Vc Go.Proofs Wl
section
variable {B:aB} {h0 h:f8} {As:List HP} {a pw:fz} {mc:be} {offs:Int} {da:List aT} {w:Pow} {ds:aW}
theorem aa.afX(H:aa B h0 h (bj bu a pw mc offs da w ds::As)):∃l,MT w l/\cA h pw 92 (powC w l):=by obtain⟨ok,d⟩:=Go.Vc.aa.oJ H;have b:=d.rest;obtain⟨l,e,c⟩:=aa.Dv b;exact⟨l,e,c.box 0 i0⟩
theorem si(H:aa B h0 h (bj bu a pw mc offs da w ds::As)):
  ac xR 57 #[xJ (dB a)] h λv h'=>v=xL (di w offs)/\h'=h:=by
 refine Ez (dB a) ?_;unfold tk;obtain⟨ok,c⟩:=aa.cC H;obtain⟨l,i,f⟩:=aa.afX H;have g:f7 h (a.add 8)=dB (xJ (dB pw)):=c.cell (TO ok.l8);have d:f7 h (a.add 9)=dB (xH xN offs):=c.cell (Yq ok.l8);refine bv (λ_=>?_) (λe=>j0);refine⟨a,i0,dB pw,g,(Jg l f).mono ?_⟩;rintro _ _ ⟨rfl,rfl⟩;refine⟨_,i0,trivial,bm (λe=>⟨trivial,?_⟩) λe=>?_⟩
 ·have b:w.off=eL:=ln
  exact⟨by unfold di;rw[b];rfl,i0⟩
 ·have b:w.off=eR:=ln
  refine⟨a,i0,dB pw,g,a,i0,offs,d,(Qc l f).mono ?_⟩;rintro _ _ ⟨rfl,rfl⟩;exact⟨_,i0,⟨d,trivial⟩,by unfold di;rw[b];rfl,i0⟩
theorem Rm(H:aa B h0 h (bj bu a pw mc offs da w ds::As)):
  ac xR 90 #[xJ (dB a)] h λv h'=>v=xJ (dB pw)/\h'=h:=by
 refine Da (dB a) ?_;unfold rJ;obtain⟨ok,b⟩:=aa.cC H;exact bv (λe=>j0) λ_=>⟨a,i0,dB pw,b.cell (TO ok.l8),i0,i0⟩
end
end Go.Qw
namespace Go.Vc
open Go Wl
section
variable {k:Kit} {B:aB} {h0 h:f8} {As:List HP} {a pw:fz} {mc:be} {offs:Int} {w:Pow}
theorem aa.ahD(H:aa B h0 h As):∀n,aa B h0 h (qh n emp++As)
 |0=>H
 |n+1=>(((aa.ahD H n).comp (.one (A:=emp) (aV.refl _ _) trivial)).bN:aa B h0 h (emp::(qh n emp++As)))
theorem aa.aaS(h8:ii mc=8)(H:aa B h0 h (aw a k.tS (cH mc pw offs (qh 64 eH))::de k.tP pw w::As)):aa B h0 h (bj k a pw mc offs (qh 64 eH) w (qh 64 eH)::As):=by
 have ok:fS mc (qh 64 eH) (qh 64 (eH:Option bw)):=⟨h8,i9,i9,λi=>by
  simp only[qe,wv];split<;>rfl⟩
 have e:fO k pw (qh 64 eH) (qh 64 (eH:Option bw))=qh 64 emp:=by simp[fO,ahB]
 refine aa.po ok ?_;rw[e];have f:=aa.ahD H 64;refine f.pick (λi=>if i=0 then 64 else if i=1 then 65 else if i<66 then i-2 else i) (λx y b=>by(try dsimp only at b);split at b<;>split at b<;>(try split at b)<;>(try split at b)<;>(try split at b)<;>(try split at b)<;>omega) λi A d=>?_;rcases i with _|_|i
 ·simpa using d
 ·simpa using d
 ·by_cases g:i<64
  ·have c:(qh 64 emp++As)[i]?=dB A:=d;rw[qm oj]at c
   try dsimp only
   rw[g0 i4,g0 i4,f9 i4,qm i7];simpa using c
  ·have c:(qh 64 emp++As)[i]?=dB A:=d;rw[qj i7]at c
   try dsimp only
   rw[g0 i4,g0 i4,g0 i4,qj i7];simp only[List.length_replicate]at c⊢;obtain⟨j,rfl⟩:∃j,i=j+64:=⟨i-64,i4⟩
   have e2:j+64+1+1-64=j+1+1:=i4
   rw[e2];simpa using c
end
end Go.Vc
namespace Go.Qw
open Go Go.Vc Go.Proofs Wl
section
theorem aaT(x:cg)(pw:fz)(offs:Int):aH xR (Instr.build 84 #[(0,fN x),(1,xJ (dB pw)),(2,xH xN offs)]) (xM (cH (aX x) pw offs (qh 64 eH)).toArray):=
 Gu af (i:=_) i0 i0 i0 (vs:=[(0,fN x),(1,xJ (dB pw)),(2,xH xN offs)]) (cells:=(cH (aX x) pw offs (qh 64 eH)).toArray) j1
end
end Go.Qw
namespace Go.Vc
open Go Wl
section
variable {k:Kit} {B:aB} {h0 h:f8} {As:List HP} {a pw b:fz} {mc:be} {offs:Int} {da:List aT} {w:Pow} {ds:aW} {d:bw} {n:Nat}
theorem Qi(h8:ii mc=8):(cH mc pw offs da).set (10+n) (xJ (dB b))=cH mc pw offs (da.set n (dB b)):=by unfold cH;rw[q7 _ _ i4,h8,show 10+n-8=n+1+1 by omega,zx,zx,List.map_set]
theorem aa.afY(ok:fS mc da ds)(F:n<64)(x:ds[n]?=dB eH)(H:aa B h0 h (aw a k.tS (cH mc pw offs (da.set n (dB b)))::de k.tP pw w::(fO k pw da ds++(ie k.tD (k.f pw) b d::As)))):aa B h0 h (bj k a pw mc offs (da.set n (dB b)) w (ds.set n (dB d))::As):=by
 have r:=ok.aaN F x;have s:=ok.la;have q:=ok.ls;have t:fS mc (da.set n (dB b)) (ds.set n (dB d)):=⟨ok.l8,by simp[s],by simp[q],λi=>by
  by_cases c:n=i
  ·subst c;rw[qe,qe,zm i4,zm i4];rfl
  ·have:=ok.same i;rw[qe,qe]at this⊢;rw[zG c,zG c];exact this⟩
 have o:=EN (k:=k) (pw:=pw) ok;have u:(fO k pw da ds)[n]?=dB emp:=by simp only[fO,wk,r,x];rfl
 have g:fO k pw (da.set n (dB b)) (ds.set n (dB d))=(fO k pw da ds).set n (ie k.tD (k.f pw) b d):=by
  apply zC;intro j;simp only[fO,qY,wk,vb];by_cases l:n=j
  ·subst l;rw[f9 i0,f9 i4,f9 i0,f9 i4,f9 i0,f9 i4];rfl
  ·simp[l]
 refine aa.po t ?_;rw[g];obtain⟨L,p⟩:∃L,L=fO k pw da ds:=⟨_,rfl⟩
 rw[<-p]at H u o⊢;have v:=H.cons (ii L+2) (A:=ie k.tD (k.f pw) b d) (by
  rw[qu,qu,qj (qn _),zc];rfl)
 have e:(aw a k.tS (cH mc pw offs (da.set n (dB b)))::de k.tP pw w::(L++(ie k.tD (k.f pw) b d::As))).set (ii L+2) emp=aw a k.tS (cH mc pw offs (da.set n (dB b)))::de k.tP pw w::(L++(emp::As)):=by rw[zx,zx,q7 _ _ (qn _),zc];rfl
 rw[e]at v;have I:=v.bs 3 [0,2,1];have m:L.set n emp=L:=by
  obtain⟨E,y⟩:=qo.1 u
  conv=>lhs;rw[<-y]
  exact List.set_getElem_self E
 have z:aa B h0 h (ie k.tD (k.f pw) b d::de k.tP pw w::aw a k.tS (cH mc pw offs (da.set n (dB b)))::(L.set n emp++(emp::As))):=by rw[m];exact I
 have D:=aa.OX n i4 z;have G:=aa.closeAll (aw a k.tS (cH mc pw offs (da.set n (dB b)))::de k.tP pw w::L.set n (ie k.tD (k.f pw) b d)) D;exact aa.uY (L:=aw a k.tS (cH mc pw offs (da.set n (dB b)))::de k.tP pw w::L.set n (ie k.tD (k.f pw) b d)) G.pC
end
open Go Wl Go.Qw
def cw(p:Pm)(extra:Int)(l:aF):aI:=⟨1,0,p,extra,bp l l.length,[]⟩
def gY(l:aF)(k:Nat):aW:=(qE 64).map λi:Nat=>if(i:Int)∈(bp l l.length).take k then dB (bw.new (l.getD i 0).toNat)else eH
def fP(p:Pm)(extra:Int)(w:Pow)(l:aF):Int×Pow×aW:=
 if(eE l).2&&(bI p&&eW extra 0 16)then
  if(bp l l.length).any λi=>decide (l.getD i.toNat 0<(ii (bo (cw p extra l)):Int))then(7,w,[])
  else layAll (bH (cw p extra l) (bp l l.length)) w (gY l (bp l l.length).length)
 else(1,w,[])
theorem TT(l:aF):gY l 0=qh 64 eH:=by
 unfold gY;rw[List.take_zero];apply zC;intro j;simp only[qR,wv,zu,List.not_mem_nil,if_false];by_cases h:j<64
 ·simp[h,zu]
 ·simp[h]
theorem VQ(l:aF)(k:Nat):ii (gY l k)=64:=by simp[gY]
theorem TU(l:aF)(k n:Nat)(d:k<ii (bp l l.length))(c:(bp l l.length)[k]=(n:Int))(b:n<64):(gY l k).set n (dB (bw.new (l.getD n 0).toNat))=gY l (k+1):=by
 apply zC;intro j;unfold gY;rw[aK _ _ d,c,qY,qy,zA];by_cases e:j<64
 ·simp only[qR,zu e,qQ,qz,qC];by_cases a:n=j
  ·subst a;rw[f9 i0,f9 b,f9 (Or.inr i0)]
  ·rw[g0 a];have:¬(j:Int)=(n:Int):=i4
   simp only[this,or_false]
 ·rw[g0 i4];rw[qZ i7,qZ i7]
theorem AI(l:aF)(k:Nat)(x:Int):x∈bp l k↔∃n:Nat,n<k/\x=(n:Int)/\0<l.getD n 0:=by
 unfold bp;rw[qI,qw];constructor
 ·rintro⟨⟨n,b,rfl⟩,a⟩;exact⟨n,qG.1 b,i0,j7⟩
 ·rintro⟨n,b,rfl,a⟩;exact⟨⟨n,qG.2 b,i0⟩,j7⟩
theorem VR(l:aF)(k i:Nat)(a:i<ii (bp l k)):∃n:Nat,n<k/\(bp l k)[i]=(n:Int)/\0<l.getD n 0:=(AI l k _).1 (qg a)
end Go.Vc
namespace Wl
open Go
def dG(p:Int×Int×Int):Nat:=(p.1*p.2.2).toNat
def uT(a:Nat)(b:bc)(i:Nat):bc:=(b.drop (i*a)).take a++(qh a 0).drop (b.drop (i*a)).length
theorem Ia(a:Nat)(b:bc)(i:Nat):ii (uT a b i)=a:=by unfold uT;simp;omega
def splitB(p:Int×Int×Int)(b:bc):cP:=(qE (countP p b.length).toNat).map (uT (dG p) b)
def Nc(p:Int×Int×Int)(o b:Int)(n:Nat):Bool:=fJ p (cF o b n) (fc p)
def rn(p:Int×Int×Int)(o b:Int):Option Nat:=(qE 16).find? (Nc p o b)
def cL(p:Int×Int×Int)(o:Int):Nat->Option (aF)
 |0=>dB []
 |n+1=>(cL p o n).bind λl=>(rn p o n).map λt=>l++[(t:Int)]
theorem jg{p:Int×Int×Int}{o:Int}:∀{n:Nat} {l:aF},cL p o n=dB l->ii l=n
 |0,l,h=>by cases h;rfl
 |n+1,l,h=>by
  unfold cL at h;cases h1:cL p o n with
  |none=>rw[h1]at h;cases h
  |some k=>
   rw[h1]at h;cases h2:rn p o n with
   |none=>rw[h2]at h;cases h
   |some t=>
    rw[h2]at h;have h:dB (k++[(t:Int)])=dB l:=h;injection h with h
    rw[<-h,qx,jg h1];rfl
theorem Ib{p:Int×Int×Int}{o b:Int}{t:Nat}(h:rn p o b=dB t):t<16/\Nc p o b t=eL/\∀k,k<t->Nc p o b k=eR:=by
 unfold rn at h;obtain⟨e,us,vs,c,h3⟩:=List.find?_eq_some_iff_append.1 h;have d:=congrArg vp c;have f:t=ii us:=by
  have:(qE 16)[ii us]?=dB t:=by rw[c,qj (qn _),zc];rfl
  rw[zu kt]at this;injection this with this;exact this.symm
 refine⟨kt,e,λk g=>?_⟩;have a:k∈us:=by
  have:(qE 16)[k]?=us[k]?:=by rw[c,qm i4]
  rw[zu kt]at this;exact yi this.symm
 simpa using h3 k a
theorem BR{p:Int×Int×Int}{o:Int}:∀{n:Nat} {l:aF},cL p o n=dB l->∀i (b:i<ii l),∃t:Nat,l[i]=(t:Int)/\rn p o i=dB t
 |0,l,h=>by cases h;intro i b;simp at b
 |n+1,l,h=>by
  unfold cL at h;cases h1:cL p o n with
  |none=>rw[h1]at h;cases h
  |some k=>
   rw[h1]at h;cases h2:rn p o n with
   |none=>rw[h2]at h;cases h
   |some t=>
    rw[h2]at h;have h:dB (k++[(t:Int)])=dB l:=h;injection h with h
    subst h;intro i b;have c:=jg h1;by_cases a:i<ii k
    ·rw[List.getElem_append_left a];exact BR h1 i a
    ·have:i=ii k:=by simp at b;omega
     subst this;refine⟨t,i9,?_⟩;rw[c];exact h2
end Wl
namespace Go.Qw
open Go Go.Vc Go.Proofs Wl
theorem Ic(p:Pm)(h:f8)(d:bI p=eL):ac xR 106 #[jU p] h λv h'=>v=xH xN (dG p)/\Sp h h' []:=by
 have c:=(ce p).1 d;refine De p ?_;unfold Ao;refine(Sp.refl h).boxed λe h3 a=>⟨p.1,(a.box 0 i0).cell0 i0,p.2.2,(a.box 0 i0).cell i0,?_,a.ck []⟩
 have f:p.1*p.2.2<=16*24:=yp i4 i4 i4 i4;have b:0<=p.1*p.2.2:=vW i4 i4;rw[ak _];unfold dG;congr 1;omega
theorem ly{p:Pm}(c:bI p=eL):1<=dG p/\dG p<=384/\(dG p:Int)=p.1*p.2.2:=by have a:=(ce p).1 c;have d:p.1*p.2.2<=16*24:=yp i4 i4 i4 i4;have b:0<p.1*p.2.2:=Int.mul_pos i4 i4;unfold dG;omega
theorem mg{p:Pm}(a:bI p=eL)(n:Nat):0<=countP p n/\countP p n<=n/\∀i:Nat,(i:Int)<countP p n->i*dG p<n:=by
 obtain⟨j,h,c⟩:=ly a;unfold countP;rw[a,zU];by_cases h0:0<(n:Int)
 ·rw[g9 h0,f9 i0,<-c];have f:((n:Int)-1)/(dG p:Int)<=n-1:=Int.ediv_le_self _ i4;have d:0<=((n:Int)-1)/(dG p:Int):=Int.ediv_nonneg i4 i4;refine⟨i4,i4,λi b=>?_⟩;have h3:(i:Int)<=((n:Int)-1)/(dG p:Int):=i4
  have e:=(Int.le_ediv_iff_mul_le i4).1 h3;have g:((i*dG p:Nat):Int)=(i:Int)*(dG p:Int):=wG i (dG p);omega
 ·rw[hU h0,g0 i5];exact⟨i4,i4,λi b=>i4⟩
theorem VS(p:Pm)(s:Sl)(b:bc)(h:f8)(f:bI p=eL)(q:Rd h s 1 aE b)(z:s.len<=s.cap)(Q:ii b<=2^30):ac xR 107 #[jU p,s] h λv h'=>∃r:Sl,v=r/\Sp h h' [dN r (splitB p b)]:=by
 refine Mt p s ?_;unfold Fy;have c:=q.len;obtain⟨P,Y,V⟩:=ly f;obtain⟨S,U,c3⟩:=mg f b.length;refine(Sp.refl h).boxed λj E l=>?_;refine⟨p,(l.box 0 i0).aS _ i0,?_⟩;refine(uS p s.len E).mono ?_;rintro _ u ⟨rfl,x⟩;have I:=l.up x.ai;refine⟨_,i0,?_⟩;obtain⟨n,F⟩:∃n:Nat,n=(countP p b.length).toNat:=⟨_,rfl⟩
 have d:(countP p (s.len:Nat))=(n:Int):=by rw[c];omega
 rw[d];have K:ii (splitB p b)=n:=by unfold splitB;rw[<-F];simp
 have a:Sp h u [dN ⟨eH,0,0⟩ ((splitB p b).take 0),aw j 24 [xH xN p.1,xH xN p.2.1,xH xN p.2.2]]:=I.xT 34 5 1 aE;refine av (λt:Sl×Nat=>(t.1,(t.2:Int))) (λt h'=>t.2<=n/\Sp h h' [dN t.1 ((splitB p b).take t.2),aw j 24 [xH xN p.1,xH xN p.2.1,xH xN p.2.2]]) (λt=>n-t.2) (⟨eH,0,0⟩,0) i0 ⟨i9,a⟩ ?_;rintro⟨o,i⟩ h3 ⟨X,a⟩;dsimp only at*;refine aj (λe=>?_) (λe=>?_)
 ·have G:i<n:=i4
  have w:=c3 i (by rw[<-c,d];omega);refine⟨p,(a.box 1 i0).aS _ i0,(Ic p h3 f).mono ?_⟩;rintro _ O ⟨rfl,D⟩;have B:=a.up D.ai;refine⟨_,i0,B.LF af aE gj i5 (0:UInt8) i0 i0 (dG p) (dG p) i0 i0 (qn _) i4 λv L R W g=>?_⟩;have g:=g.bN;refine⟨p,(g.box 2 i0).aS _ i0,(Ic p L f).mono ?_⟩;rintro _ T ⟨rfl,M⟩;have m:=g.up M.ai;refine⟨_,i0,?_⟩;have em:qc xN ((i:Int)*(dG p:Int))=((i*dG p:Nat):Int):=by rw[<-wG,ak _]
  dsimp only;rw[em,ql];refine⟨⟨i4,i4⟩,?_⟩;have J:=(Seq.up q m.ai).drop (i*dG p) z;refine m.LD af 0 i0 gj (λ_=>rfl) (v:=⟨_,s.len-i*dG p,s.cap-i*dG p⟩) J gH λ_ A k=>?_;have k:Sp h A [aq 5 v 1 aE (uT (dG p) b i),dN o ((splitB p b).take i),aw j 24 [xH xN p.1,xH xN p.2.1,xH xN p.2.2]]:=by simpa[uT]using k
  refine(k.bs 2 [1,0]).DW af fj i7 λN h8 H=>?_;refine⟨(N,i+1),jj,⟨i6,?_⟩,i6⟩;dsimp only;rw[aK _ _ (show i<ii (splitB p b) by omega)];have y:(splitB p b)[i]'(by omega)=uT (dG p) b i:=by simp[splitB]
  rw[y];exact H
 ·rw[qi i4]at a;exact⟨o,i0,a.ck [0]⟩
theorem ne(a b:UInt8):qc xO ((qD (qk xO) (a.toNat:Int)^^^qD (qk xO) (b.toNat:Int)).toNat:Nat)=((a^^^b).toNat:Int):=by
 have e:∀a:UInt8,qD (qk xO) (a.toNat:Int)=a.toBitVec:=λa=>by
  apply BitVec.eq_of_toNat_eq;have:=ya a;simp[qk]
 rw[e,e];have c:=(a.toBitVec^^^b.toBitVec).isLt;have:((a^^^b).toNat:Int)=((a.toBitVec^^^b.toBitVec).toNat:Int):=rfl;rw[this];show(((a.toBitVec^^^b.toBitVec).toNat:Nat):Int)%256=_;have:(a.toBitVec^^^b.toBitVec).toNat<256:=c;omega
def tri(a:UInt8):Nat->Int×Int×Int
 |0=>((a.toNat:Int),(3:Int),(0:Int))
 |1=>(((Gf.x2 a).toNat:Int),(1:Int),(a.toNat:Int))
 |_=>(((Gf.x2 (Gf.x2 a)).toNat:Int),(0:Int),((Gf.x3 a).toNat:Int))
theorem VT(a:UInt8)(h:f8):ac xR 205 #[xH xO a.toNat,xH xO 3] h λv h'=>v=xH xO (Gf.x3 a).toNat/\h'=h:=by
 have e:∀n:Nat,n<256->
   ((qc xO ((qD (qk xO) (n:Int)&&&(qD (qk xO) (128:Int))).toNat:Nat)) !=(0:Int))=eL->qc xO ((qD (qk xO) (qc xO ((n:Int)*2^min (1:Int).toNat (qk xO)))^^^(qD (qk xO) (27:Int))).toNat:Nat)=((Gf.x2 (yH n)).toNat:Int):=j4
 have c:∀n:Nat,n<256->
   ((qc xO ((qD (qk xO) (n:Int)&&&(qD (qk xO) (128:Int))).toNat:Nat)) !=(0:Int))=eR->qc xO ((n:Int)*2^min (1:Int).toNat (qk xO))=((Gf.x2 (yH n)).toNat:Int):=j4
 refine TE _ _ ?_;unfold MK;refine av (tri a) (λt h'=>h'=h/\t<=2) (λt=>2-t) 0 i0 ⟨i0,i4⟩ ?_;rintro t h' ⟨rfl,f⟩;rcases(show t=0∨t=1∨t=2 by omega)with rfl|rfl|rfl
 ·rw[show tri a 0=((a.toNat:Int),(3:Int),(0:Int))from rfl];dsimp only;refine wn i5 (bg (Gr i5 ?_));refine⟨i5,bg ?_⟩;refine bv (λd=>?_) (λd=>?_)
  ·rw[e _ (ya a) d,yY];refine⟨i5,1,?_,⟨i0,i5⟩,i5⟩;have:=ne 0 a;simp only[wF]at this;exact y5 i0 (y5 i0 this)
  ·rw[c _ (ya a) d,yY];refine⟨i5,1,?_,⟨i0,i5⟩,i5⟩;have:=ne 0 a;simp only[wF]at this;exact y5 i0 (y5 i0 this)
 ·rw[show tri a 1=(((Gf.x2 a).toNat:Int),(1:Int),(a.toNat:Int))from rfl];dsimp only;refine wn i5 (bg (Gr i5 ?_));refine⟨i5,bg ?_⟩;refine bv (λd=>?_) (λd=>?_)
  ·rw[e _ (ya (Gf.x2 a)) d,yY];refine⟨i5,2,?_,⟨i0,i5⟩,i5⟩;refine y5 i0 (y5 i0 ?_);have:=ne a (Gf.x2 a);rw[vt]at this;exact this
  ·rw[c _ (ya (Gf.x2 a)) d,yY];refine⟨i5,2,?_,⟨i0,i5⟩,i5⟩;refine y5 i0 (y5 i0 ?_);have:=ne a (Gf.x2 a);rw[vt]at this;exact this
 ·exact Gr (b:=(0:Int)==0) i5 ⟨i0,i0⟩
def jh:aF:=(qE 255).map λi=>((Gf.pw i).toNat:Int)
def sj:aF:=(qE 256).map λx=>if x=0 then 0 else((Gf.lg (yH x):Nat):Int)
theorem gW:ii jh=255:=by simp[jh]
theorem AJ:ii sj=256:=by simp[sj]
def cU:be:=jh.map (Sc.enc (.int .u8))++sj.map (Sc.enc (.int .i64))
abbrev fw(h:f8)(a:fz):Prop:=cA h a 197 cU
theorem Pc(k:IntKind)(l:aF):(l.map (Sc.enc (.int k))).all (·.oneCell')=eL:=by rw[List.all_map,qL];intro x _;rfl
theorem VU(h:f8):ac xR 132 #[] h λv h'=>v=xM (jh.map (Sc.enc (.int .u8))).toArray/\Sp h h' []:=by
 refine Rc ?_;unfold JS;refine(Sp.refl h).alloc af i0 λa s p=>?_;refine av (λi:Nat=>(((Gf.pw i).toNat:Int),(i:Int))) (λi h'=>i<=255/\Sp h h' [aw a 192 (((qE 255).map λj=>if j<i then((Gf.pw j).toNat:Int)else 0).map (Sc.enc (.int .u8)))]) (λi=>255-i) 0 i0 ⟨i4,?_⟩ ?_
 ·have e:((qE 255).map λj=>if j<0 then((Gf.pw j).toNat:Int)else 0).map (Sc.enc (.int .u8))=qh 255 (xH xO 0):=by simp;rfl
  rw[e];exact p
 ·rintro i q ⟨t,g⟩;refine aj (λn=>?_) (λk=>?_)
  ·dsimp only at n;refine⟨⟨i6,i6⟩,?_⟩;dsimp only;rw[show((i:Int).toNat*1)=i by omega];refine g.storeAt af 0 i0 i0 i0 i0 i0 i7 λh3 f=>?_;refine(VT (Gf.pw i) h3).mono ?_;rintro v r ⟨rfl,rfl⟩;refine⟨_,i0,i+1,?_,⟨i4,?_⟩,i4⟩
   ·rw[ak _];rfl
   ·have e:((((qE 255).map λj=>if j<i then((Gf.pw j).toNat:Int)else 0).map (Sc.enc (.int .u8))).set i (xH xO (Gf.pw i).toNat))=(((qE 255).map λj=>if j<i+1 then((Gf.pw j).toNat:Int)else 0).map (Sc.enc (.int .u8))):=by
     apply zC;intro j;simp only[qY,qR,qy,zA];by_cases b:i=j
     ·subst b;have:i<255:=i4
      simp[this]
     ·by_cases c:j<255
      ·simp only[b,if_false,zu c,qQ];by_cases d:j<i
       ·rw[f9 d,f9 i4]
       ·rw[g0 d,g0 i4]
      ·simp[b,c]
    rw[<-e];exact f
  ·have m:i=255:=by dsimp only at k;omega
   subst m;have e:((qE 255).map λj=>if j<255 then((Gf.pw j).toNat:Int)else 0)=jh:=by unfold jh;apply List.map_congr_left;intro j b;rw[f9 (qG.1 b)]
   rw[e]at g;have o:=g.box 0 i0;refine⟨jh,⟨gW,o.aS _ nn⟩,?_⟩;refine g.storeAll af 0 i0 i0 (jh.map (Sc.enc (.int .u8))) i0 (by rw[qy,gW]) (Pc _ _) i0 λh3 f=>?_;have l:=f.box 0 i0;exact⟨jh,⟨gW,l.aS _ nn⟩,i0,.zip f.ai⟩
theorem aaU(h:f8):ac xR 133 #[xM (jh.map (Sc.enc (.int .u8))).toArray] h λv h'=>v=xM (sj.map (Sc.enc (.int .i64))).toArray/\Sp h h' []:=by
 refine VC jh ?_;unfold PU;refine(Sp.refl h).boxed λa B u=>?_;refine u.alloc af i0 λz A r=>?_;have m:=r.box 0 i0;refine⟨jh,⟨gW,m.aS _ (by show List.take _ (jh.map _)=_;rw[qi (qn _)])⟩,?_⟩;let L:Nat->aF:=λi=>(qE 256).map λx=>if x≠0/\Gf.lg (yH x)<i then((Gf.lg (yH x):Nat):Int)else 0
 refine av (λi:Nat=>(i:Int)) (λi h'=>i<=255/\Sp h h' [emp,aw z 194 ((L i).map (Sc.enc (.int .i64)))]) (λi=>255-i) 0 i0 ⟨i4,?_⟩ ?_
 ·have e:(L 0).map (Sc.enc (.int .i64))=qh 256 (xH xN 0):=by simp[L];rfl
  rw[e];exact r.fI 0 i0 λ_ _=>trivial
 ·rintro i h3 ⟨E,g⟩;refine aj (λy=>?_) (λw=>?_)
  ·have c:i<255:=i4
   have q:=ya (Gf.pw i);refine⟨((Gf.pw i).toNat:Int),⟨i4,i4,by simp[jh,c]⟩,⟨i4,i4⟩,?_⟩;rw[show(((Gf.pw i).toNat:Int).toNat*1)=(Gf.pw i).toNat by omega];refine g.storeAt af 1 i0 i0 i0 i0 i0 (by simp[L];omega) λt k=>?_;refine⟨i+1,js,⟨i4,?_⟩,i4⟩;have e:((L i).map (Sc.enc (.int .i64))).set (Gf.pw i).toNat (xH xN i)=(L (i+1)).map (Sc.enc (.int .i64)):=by
    apply zC;intro j;simp only[qY,qR,qy,zA,L];by_cases f:(Gf.pw i).toNat=j
    ·subst f;simp only[if_true,zu q,qQ,q];have l:(Gf.pw i).toNat≠0:=λh0=>Gf.XK i c (wY.1 h0);rw[yY,Gf.XJ i c,f9 ⟨l,i4⟩]
    ·by_cases d:j<256
     ·simp only[f,if_false,zu d,qQ];by_cases b:j=0
      ·simp[b]
      ·have D:Gf.lg (yH j)≠i:=λh0=>by
        apply f;rw[<-h0,Gf.XI _ λs=>b (by have:=congrArg UInt8.toNat s;simpa[wo d]using this)];simp[wo d]
       by_cases n:Gf.lg (yH j)<i
       ·rw[f9 ⟨b,n⟩,f9 ⟨b,i4⟩]
       ·rw[g0 λp=>n p.2,g0 λp=>n i4]
     ·simp[f,d]
   rw[<-e];exact k
  ·have c:i=255:=i4
   subst c;have e:L 255=sj:=by
    unfold sj;apply List.map_congr_left;intro j f;by_cases b:j=0
    ·simp[b]
    ·rw[f9 ⟨b,Gf.LI _⟩,g0 b]
   rw[e]at g;have m:=g.box 1 i0;refine⟨sj,⟨AJ,m.aS _ nn⟩,?_⟩;refine g.storeAll af 1 i0 i0 (sj.map (Sc.enc (.int .i64))) i0 (by rw[qy,AJ]) (Pc _ _) i0 λt k=>?_;have o:=k.box 1 i0;exact⟨sj,⟨AJ,o.aS _ nn⟩,i0,.zip k.ai⟩
theorem ro(h:f8):ac xR 65 #[] h λv h'=>∃a:fz,v=xJ (dB a)/\Sp h h' [aw a 197 cU]:=by
 refine Ym ?_;unfold To;refine(VU h).mono ?_;rintro v t ⟨rfl,m⟩;refine⟨jh,i0,?_⟩;refine m.alloc af i0 λa r q=>?_;refine q.storeAll af 0 i0 i0 (jh.map (Sc.enc (.int .u8))) i0 (by rw[qy,gW]) (Pc _ _) (by rw[qy,gW];rfl) λh3 g=>?_;have f:=g.box 0 i0;have d:an h3 a 0 (jh.map (Sc.enc (.int .u8))):=f.aS _ nn;refine⟨jh,⟨gW,d⟩,jh,⟨gW,d⟩,?_⟩;refine(aaU h3).mono ?_;rintro v s ⟨rfl,j⟩;refine⟨sj,i0,nS.2 ⟨(j.ai).cells f.lt d,trivial⟩,_,Gu af (i:=_) i0 i0 i0 (cells:=cU.toArray) ?_,?_⟩
 ·have b:∀z:be,ii z=511->wL (λn=>[(0,255),(255,256)][n]?) z.toArray [(0,xM (jh.map (Sc.enc (.int .u8))).toArray),(1,xM (sj.map (Sc.enc (.int .i64))).toArray)]=dB cU.toArray:=by
   intro z b;have e:z=[]++z.take 255++z.drop 255:=i9
   conv=>lhs;rw[e]
   rw[Sn (vs:=jh.map (Sc.enc (.int .u8))) i0 (by simp[gW]) (by simp[gW,b])];have e2:[]++jh.map (Sc.enc (.int .u8))++z.drop 255=jh.map (Sc.enc (.int .u8))++z.drop 255++[]:=i9
   rw[e2,Sn (vs:=sj.map (Sc.enc (.int .i64))) i0 (by simp[gW,AJ]) (by simp[AJ,b])];simp[wL,cU]
  exact b _ i0
 ·have p:(Value.agg cU.toArray).cells.toList=cU:=rfl;refine(g.comp j).boxed λo u k=>?_;have c:=k.box 0 i0;exact⟨nS.2 ⟨c.aS _ nn,trivial⟩,o,i0,k.take 1 λi A l=>by cases i with|zero=>exact l|succ i=>simp at l⟩
theorem Ie{h:f8}{a:fz}(c:fw h a)(n:Nat)(b:n<255):f7 h (a.add n)=dB (xH xO (Gf.pw n).toNat):=
 c.cell (by rw[cU,qm (by simp[gW,b])];simp[jh,b])
theorem If{h:f8}{a:fz}(c:fw h a)(x:UInt8)(d:x≠0):f7 h ((a.add 255).add x.toNat)=dB (xH xN (Gf.lg x)):=by
 have f:=c.addr;have e:(a.add 255).add x.toNat=a.add (255+x.toNat):=by rw[f,add_eq,add_eq,add_eq];congr 1;omega
 rw[e];refine c.cell ?_;have b:=ya x;have h0:x.toNat≠0:=λh0=>d (wY.1 h0);rw[cU,qj (by simp[gW])];simp[gW,sj,b,h0]
theorem sk(a:fz)(h:f8):ac xR 206 #[xJ (dB a)] h λv h'=>v=xJ (dB a)/\h'=h:=by refine KU (dB a) ?_;unfold Dm;exact wn i0 ⟨i0,i0⟩
theorem uh(a:fz)(h:f8):ac xR 203 #[xJ (dB a)] h λv h'=>v=xJ (dB a)/\h'=h:=by refine TD (dB a) ?_;unfold MJ;exact wn i0 ⟨i0,i0⟩
theorem Rn(a:fz)(h:f8):ac xR 302 #[xJ (dB a)] h λv h'=>v=xJ (dB a)/\h'=h:=by refine TH (dB a) ?_;unfold MR;exact wn i0 ⟨i0,i0⟩
theorem CE{x:UInt8}:((x.toNat:Int)=0)↔x=0:=⟨λh=>wY.1 j5,λh=>by rw[h];rfl⟩
theorem Lg(a:fz)(x y:UInt8)(h:f8)(d:fw h a):ac xR 280 #[xJ (dB a),xH xO x.toNat,xH xO y.toNat] h λv h'=>v=xH xO (Gf.mul x y).toNat/\h'=h:=by
 refine KY (dB a) _ _ ?_;unfold Dt;refine bg ?_;refine cu (λh0=>⟨by rw[Gf.mul,f9 (.inl (CE.1 h0))];rfl,i0⟩) λg=>?_;refine cu (λh0=>⟨by rw[Gf.mul,f9 (.inr (CE.1 h0))];rfl,i0⟩) λi=>?_;have b:x≠0:=λh0=>g (CE.2 h0);have c:y≠0:=λh0=>i (CE.2 h0);refine(sk a h).mono ?_;rintro v j ⟨rfl,rfl⟩;have k:=ya x;have l:=ya y;have l1:=Gf.LI x;have l2:=Gf.LI y;refine⟨dB a,i0,a,i0,⟨i4,i4⟩,(Gf.lg x:Int),?_,a,i0,⟨i4,i4⟩,(Gf.lg y:Int),?_,i5,a,i0,?_⟩
 ·rw[show((x.toNat:Int).toNat*1)=x.toNat by omega];exact If d x b
 ·rw[show((y.toNat:Int).toNat*1)=y.toNat by omega];exact If d y c
 rw[ak _];have e:wB ((Gf.lg x:Int)+(Gf.lg y:Int)) 255=(((Gf.lg x+Gf.lg y)%255:Nat):Int):=by rw[yO i4];rfl
 rw[e];have f:=y7 (Gf.lg x+Gf.lg y) (show 255>0 by decide);refine⟨⟨i4,i4⟩,_,?_,by rw[Gf.mul,g0 (by simp[b,c])],i0⟩;rw[show((((Gf.lg x+Gf.lg y)%255:Nat):Int).toNat*1)=(Gf.lg x+Gf.lg y)%255 by omega];exact Ie d _ f
theorem adq(a:fz)(x:UInt8)(h:f8)(d:fw h a):ac xR 251 #[xJ (dB a),xH xO x.toNat] h λv h'=>v=xH xO (Gf.inv x).toNat/\h'=h:=by
 refine KX (dB a) _ ?_;unfold Dr;refine cu (λh0=>⟨by rw[Gf.inv,f9 (CE.1 h0)];rfl,i0⟩) λf=>?_;have b:x≠0:=λh0=>f (CE.2 h0);refine(sk a h).mono ?_;rintro v g ⟨rfl,rfl⟩;have i:=ya x;have l1:=Gf.LI x;refine⟨dB a,i0,a,i0,⟨i4,i4⟩,(Gf.lg x:Int),?_,i5,a,i0,?_⟩
 ·rw[show((x.toNat:Int).toNat*1)=x.toNat by omega];exact If d x b
 rw[ak _];have e:wB (255-(Gf.lg x:Int)) 255=(((255-Gf.lg x)%255:Nat):Int):=by rw[yO i4];omega
 rw[e];have c:=y7 (255-Gf.lg x) (show 255>0 by decide);refine⟨⟨i4,i4⟩,_,?_,by rw[Gf.inv,g0 b],i0⟩;rw[show((((255-Gf.lg x)%255:Nat):Int).toNat*1)=(255-Gf.lg x)%255 by omega];exact Ie d _ c
theorem ads(a:fz)(n:Int)(h:f8)(i:fw h a):ac xR 137 #[xJ (dB a),xH xN n] h λv h'=>v=xH xO (Gf.pw (n%255).toNat).toNat/\h'=h:=by
 refine KQ (dB a) n ?_;unfold Dh;have j:=vG n (show(0:Int)<255 by decide);have g:-255<n.tmod 255:=Int.lt_tmod_of_pos n i5;have b:=Sm n 255 i5;have c:=Int.emod_nonneg n (show(255:Int)≠0 by decide);have e:=Int.emod_lt_of_pos n (show(0:Int)<255 by decide);refine⟨i5,cE (λs h'=>s=n%255/\h'=h) ?_ ?_⟩
 ·refine aj (λd=>?_) (λf=>?_)
  ·rw[f9 d]at b;exact⟨by rw[ak _,b],i0⟩
  ·rw[g0 f]at b;exact⟨b.symm,i0⟩
 ·rintro s h' ⟨rfl,rfl⟩;refine(sk a h').mono ?_;rintro v g ⟨rfl,rfl⟩;refine⟨dB a,i0,a,i0,⟨c,e⟩,_,?_,i0,i0⟩;rw[z6];exact Ie i _ i4
theorem jZ(p:Pm)(h:f8):ac xR 21 #[jU p] h λv h'=>v=xH xN (bS p)/\Sp h h' []:=by refine Tl p ?_;unfold Ma;refine(Sp.refl h).boxed λa g d=>?_;refine⟨p,(d.box 0 i0).aS _ i0,?_⟩;refine(dM p g).mono ?_;rintro v i ⟨rfl,f⟩;have b:=d.comp f;have c:=b.box 0 i0;refine⟨_,i0,bm (λe=>⟨by simp[bS,e],.zip b.ai⟩) λe=>?_⟩;refine⟨_,c.cell0 i0,_,c.cell i0,?_,.zip b.ai⟩;have:=(ce p).1 e;rw[ak _,bS,f9 e]
theorem aaV(n i:Int)(h:f8):ac xR 136 #[xH xN n,xH xN i] h λv h'=>∃s:Sl,v=s/\
  Sp h h' [aq 5 s 1 aE (if 1<=n/\n<=64/\0<=i/\i<n then(qh n.toNat (0:UInt8)).set i.toNat 1 else[])]:=by
 refine Tz n i ?_;unfold Mx;have a:∀c:Prop,¬c->[Decidable c]->Sp h h [aq 5 ⟨eH,0,0⟩ 1 aE (if c then(qh n.toNat (0:UInt8)).set i.toNat 1 else[])]:=λc b _=>by
  rw[g0 b];exact(Sp.refl h).nil 5 1 aE
 refine bg ?_;refine aj (λe=>⟨⟨eH,0,0⟩,i0,a _ i4⟩) λl=>?_;refine aj (λe=>⟨⟨eH,0,0⟩,i0,a _ i4⟩) λe2=>?_;refine aj (λe=>⟨⟨eH,0,0⟩,i0,a _ i4⟩) λm=>?_;refine aj (λe=>⟨⟨eH,0,0⟩,i0,a _ i4⟩) λk=>?_;refine(Sp.refl h).make af aE ⟨_,_,i0,i0,i0,i0,i0,i0⟩ i5 0 i0 i0 n.toNat n.toNat i4 i4 (qn _) i4 λs o j b d=>?_;refine d.set af 0 i0 (λ_=>rfl) i0 i.toNat i4 i7 1 i0 i0 i0 λg f=>?_;refine⟨s,i0,?_⟩;rw[f9 i4];exact f
theorem Ro(s:Int)(h:f8):ac xR 223 #[xH xP s] h λv h'=>∃a:fz,v=xJ (dB a)/\Sp h h' [aw a 344 [xH xQ (qc xQ s)]]:=by refine TG s ?_;unfold MM;exact(Sp.refl h).boxed λa c b=>⟨a,i0,b⟩
theorem Dz(a:fz)(s:Int)(h:f8)(d:cA h a 344 [xH xQ s]):ac xR 224 #[xJ (dB a)] h λv h'=>v=xH xP (told s)/\cA h' a 344 [xH xQ (Fe s)]/\aV (·≠a.block) h h':=by refine HJ (dB a) ?_;unfold AA;refine wn i0 ⟨a,i0,s,d.cell0 i0,a,i0,?_⟩;refine DS af d i0 _ i0 i0 i0 (qn _) λe b c _=>?_;exact⟨a,i0,_,b.cell0 i0,i5,i0,b,c⟩
theorem Nd(a:fz)(s n:Int)(h:f8)(d:cA h a 344 [xH xQ s])(i:0<n:=by omega)(f:n<=2^62:=by omega):ac xR 282 #[xJ (dB a),xH xN n] h λv h'=>v=xH xN (mb s n)/\cA h' a 344 [xH xQ (Fe s)]/\aV (·≠a.block) h h':=by refine Ge (dB a) n ?_;unfold uB;refine bg (wn i0 (aj (λe=>i4) λ_=>?_));refine(Dz a s h d).mono ?_;rintro v g ⟨rfl,c,b⟩;exact⟨_,i0,o7,i0,c,b⟩
theorem Xh(a b:Nat)(d:a<=2^40)(c:b<=2^40):qc xN ((a:Int)+(b:Int))=((a+b:Nat):Int):=by rw[ak _];rfl
theorem aaW(l:Nat)(h:f8)(f:l<=20):ac xR 316 #[xH xN l] h λv h'=>v=xH xN (fq l)/\h'=h:=by
 have n:∀l:Nat,l<=20->∀r:Nat,r<=5->(∀j,j<r->j*j<l)->r*r<l->r<5:=i5
 have m:∀l:Nat,l<=20->∀r:Nat,r<=5->(∀j,j<r->j*j<l)->¬r*r<l->r=fq l:=i5
 refine KZ l ?_;unfold Du;refine av (λr:Nat=>(r:Int)) (λr h'=>h'=h/\r<=5/\∀j,j<r->j*j<l) (λr=>5-r) 0 i0 ⟨i0,i4,λj c=>i4⟩ ?_;rintro r h' ⟨rfl,d,c⟩;have i:r*r<=25:=Nat.mul_le_mul d d;have e:qc xN ((r:Int)*(r:Int))=((r*r:Nat):Int):=by rw[<-wG];exact uE _
 rw[e];refine aj (λk=>?_) (λg=>?_)
 ·have a:r*r<l:=i4
  have o:=n l f r d c a;refine⟨r+1,js,⟨i0,i4,λj b=>?_⟩,i4⟩;rcases Nat.lt_succ_iff_lt_or_eq.1 b with b|rfl
  ·exact c j b
  ·exact a
 ·exact⟨by rw[m l f r d c i4],i0⟩
theorem aaX(r:Nat)(h:f8)(b:r<=5):ac xR 187 #[xH xQ r] h λv h'=>v=xH xN (IS r)/\h'=h:=by
 intro w a;refine(Tryz.bits_Len (r:Int) w i4 i4).mono ?_;rintro e w' ⟨rfl,rfl⟩;have k:∀r:Nat,r<=5->Lib.bitLen r=IS r:=j4
 exact⟨_,i0,cY.refl _,by rw[ql,k r b],a⟩
theorem VV(l k:Nat)(h:f8)(b:l<=20)(a:1<=l)(g:k<=20)(f:1<=k):ac xR 283 #[xH xN l,xH xN k] h λv h'=>v=xH xN (rV l k)/\h'=h:=by
 have q:∀k:Nat,k<=20->1<k->qc xN ((k:Int)*qc xN ((k:Int)-1))=((k*(k-1):Nat):Int)/\k*(k-1)≠0:=i5
 have t:∀l:Nat,l<=20->1<=l->1<=fq l/\fq l<=5:=i5
 have c3:∀l:Nat,l<=20->1<=l->qc xN (wH (l:Int) (fq l))=((l/fq l:Nat):Int):=i5
 have y:∀l:Nat,l<=20->1<=l->∀k:Nat,k<=20->1<=k->qc xN ((l:Int)*k)≠0:=j4
 have w:∀k:Nat,k<=20->1<k->qc xN (wH (1048576:Int) (qc xN ((k:Int)*qc xN ((k:Int)-1))))=((1048576/(k*(k-1)):Nat):Int):=j4
 have m:∀l:Nat,l<=20->1<=l->qc xN (wH (1048576:Int) (l:Int))=((1048576/l:Nat):Int):=j4
 have p:∀l:Nat,l<=20->1<=l->∀k:Nat,k<=20->1<=k->qc xN (wH (qc xN ((1048576:Int)*fq l)) (qc xN ((l:Int)*k)))=((1048576*fq l/(l*k):Nat):Int):=j4
 have x:∀l:Nat,l<=20->1<=l->qc xN (wH (qc xN ((qc xN ((1048576:Int)*fq l))*IS (fq l))) (l:Int))=((1048576*fq l*IS (fq l)/l:Nat):Int):=j4
 have n:∀l:Nat,l<=20->∀k:Nat,k<=20->1048576*fq l/(l*k)<=2^30/\1048576*fq l*IS (fq l)/l<=2^30/\1048576/(k*(k-1))<=2^30/\1048576/l<=2^30:=j4
 refine HO l k ?_;unfold AC;have i:=n l b k g;refine(aaW l h b).mono ?_;rintro v u ⟨rfl,rfl⟩;have r:=t l b a;refine⟨_,i0,i4,cE (λs h'=>s=(((if k>1 then 1048576/(k*(k-1))else 1048576/l):Nat):Int)/\h'=u) ?_ ?_⟩
 ·refine aj (λe=>?_) (λe=>?_)
  ·have:=q k g i4;refine⟨by rw[this.1];omega,by rw[w k g i4,f9 i4],i0⟩
  ·refine⟨by rw[m l b a,g0 i4],i0⟩
 ·rintro s j ⟨rfl,rfl⟩;have z:(if k>1 then 1048576/(k*(k-1))else 1048576/l)<=2^30:=by split<;>first|exact i.2.2.1|exact i.2.2.2
  refine bg ?_;dsimp only;refine⟨show((fq l:Nat):Int)≠0 by omega,?_⟩;rw[c3 l b a];refine aj (λe=>⟨y l b a k g f,?_,i0⟩) (λe=>?_)
  ·rw[p l b a k g f,Xh _ _ i4 (zi i.1 i5),rV,f9 (c:=k<l/fq l) (Int.ofNat_lt.1 e)]
  ·refine cu (λe2=>?_) (λe2=>?_)
   ·have o:qc xQ (fq l:Int)=(fq l:Int):=o7
    rw[o];refine(aaX (fq l) j r.2).mono ?_;rintro v h3 ⟨rfl,rfl⟩;refine⟨_,i0,i4,?_,i0⟩;rw[x l b a,Xh _ _ i4 (zi i.2.1 i5),rV,g0 (c:=k<l/fq l) λd=>e (Int.ofNat_lt.2 d),f9 (c:=k=l/fq l) (xm.1 e2)]
   ·exact⟨by rw[rV,g0 (c:=k<l/fq l) λd=>e (Int.ofNat_lt.2 d),g0 (c:=k=l/fq l) λd=>e2 (xm.2 d),Nat.add_zero],i0⟩
theorem Yv(l:Nat)(h:f8)(a:l<=20)(b:1<=l):ac xR 226 #[xH xN l] h λv h'=>∃s:Sl,v=s/\Sp h h' [aq 3 s 1 aC (jC l)]:=by
 refine Jt l ?_;unfold BP;refine bg (aj (λe=>i4) λ_=>aj (λe=>i4) λ_=>?_);refine(Sp.refl h).make af aC lx i5 0 i0 i0 0 l i0 i0 i4 i4 λs r m p f=>?_;refine av (λt:Sl×Nat=>(t.1,((mL l t.2:Nat):Int),((t.2+1:Nat):Int))) (λt h'=>t.2<=l/\Sp h h' [aq 3 t.1 1 aC ((jC l).take t.2)]) (λt=>l-t.2) (s,0) i0 ⟨i9,n5⟩ ?_;rintro⟨s,k⟩ d ⟨u,c⟩;dsimp only at*;refine aj (λe=>?_) (λe=>?_)
 ·refine(VV l (k+1) d a b i4 i4).mono ?_;rintro v h3 ⟨rfl,rfl⟩;refine⟨_,i0,?_⟩;have o:=IT l a k i4;have q:=LJ l a (k+1) i4;have e2:qc xN ((mL l k:Int)+(rV l (k+1):Int))=((mL l (k+1):Nat):Int):=by rw[ak _,mL];rfl
  dsimp only;rw[e2];refine c.push af 0 i0 lx i0 i5 (λ_=>rfl) ir _ i0 i5 o9 λj n i=>?_;refine⟨(j,k+1),jj,⟨i6,?_⟩,i6⟩;have g:(jC l).take (k+1)=(jC l).take k++[((mL l (k+1):Nat):Int)]:=by rw[aK _ _ qb];simp[jC]
  dsimp only;rw[g];exact i
 ·refine⟨s,i0,?_⟩;rw[qi qb]at c;exact c
theorem VW{p:aB}(t:Sl)(lt:aF)(x b:Int)(h:f8)(g:Seq h p t 1 aC lt)(r:0<=x)(a:lt.getLast?=dB b)(j:x<b)(s:ii lt<=2^40):
  ac xR 281 #[t,xH xN x] h λv h'=>v=xH xN (XL lt x)/\h'=h:=by
 refine HN t x ?_;unfold AB;have q:=g.len;have c:lt≠[]:=λe=>by rw[e]at a;cases a
 have m:0<ii lt:=List.length_pos_iff.2 c;have l:lt[ii lt-1]=b:=by rw[List.getLast?_eq_getElem?,qd i4]at a;simpa using a
 refine bg (cu (λe=>i4) λ_=>aj (λe=>i4) λ_=>?_);rw[ak _];refine g.bB (ii lt-1) i4 i4 _ i0 ?_;rw[l];refine aj (λe=>i4) λ_=>?_;have f:(lt.findIdx λy=>decide (y>x))<ii lt:=List.findIdx_lt_length_of_exists ⟨b,List.mem_of_getLast? a,sb⟩;refine av (λk:Nat=>(k:Int)) (λk h'=>h'=h/\k<=(lt.findIdx λy=>decide (y>x))) (λk=>ii lt-k) 0 i0 ⟨i0,i4⟩ ?_;rintro k h' ⟨rfl,n⟩;refine aj (λe=>?_) (λe=>i4);have d:k<ii lt:=i4
 refine g.bB k i0 d _ i0 ?_;rw[ak _];refine aj (λe2=>?_) (λe2=>?_)
 ·have:(lt.findIdx λy=>decide (y>x))=k:=Nat.le_antisymm (Nat.le_of_not_lt λi=>by have:=List.not_of_lt_findIdx i;simp at this;omega) n;exact⟨by rw[XL,this];rfl,i0⟩
 ·refine⟨k+1,i0,⟨i0,?_⟩,i4⟩;refine Nat.lt_of_le_of_ne n λo=>?_;have:=List.findIdx_getElem (xs:=lt) (p:=λy=>decide (y>x)) (w:=f);simp only[<-o]at this;simp at this;omega
theorem Jv(t:Sl)(n:Nat)(a:fz)(s:Int)(h:f8)(f:Seq h (·≠a.block) t 1 aC (jC n))(j:cA h a 344 [xH xQ s])(b:1<=n)(g:n<=20):
  ac xR 225 #[t,xJ (dB a)] h λv h'=>v=xH xN (IU s n)/\cA h' a 344 [xH xQ (Fe s)]/\aV (·≠a.block) h h':=by
 refine KV t (dB a) ?_;unfold Do;have k:=f.len;rw[lN]at k;refine cu (λe=>i4) λ_=>?_;rw[ak _];refine f.bB (n-1) i4 qb _ i0 ?_;have m:(jC n)[n-1]'(by rw[lN];omega)=((mL n n:Nat):Int):=by simp only[jC,List.getElem_map,List.getElem_range];rw[show n-1+1=n by omega]
 rw[m];have q:=SB n g b;have l:=IT n g n g;refine(Nd a s _ h j).mono ?_;rintro v o ⟨rfl,i,d⟩;have c:=xX s (mL n n);refine⟨_,i0,(VW t (jC n) _ _ o (f.ai d) c.1 (LK n b) c.2 qb).mono ?_⟩;rintro v p ⟨rfl,rfl⟩;exact⟨_,i0,i0,i,d⟩
theorem aaY(a:fz)(s:Int)(n k:Nat)(h:f8)(E:cA h a 344 [xH xQ s])(T:n<=64)(V:k<=n):
  ac xR 227 #[xJ (dB a),xH xN n,xH xN k] h λv h'=>∃r:Sl,v=r/\aa (λb=>b<h.size/\¬b=a.block) h h' [aw a 344 [xH xQ (gq n s (upto n) k).1],aq 3 r 1 aC (IR s n k)]:=by
 refine MN (dB a) n k ?_;unfold FK;refine bg (aj (λe=>i4) λ_=>aj (λe=>i4) λ_=>aj (λe=>i4) λ_=>aj (λe=>i4) λ_=>?_);have K:aa (λb=>b<h.size/\¬b=a.block) h h [aw a 344 [xH xQ s]]:=.ZL (λb=>b=a.block) (λb o=>by rw[o];exact E.lt) ⟨E,i0⟩;refine K.make af aC lx i5 0 i0 i0 n n i0 i0 (qn _) i4 λv S P Q G=>?_;refine av (λi:Nat=>(i:Int)) (λi h'=>i<=n/\aa (λb=>b<h.size/\¬b=a.block) h h' [aw a 344 [xH xQ s],aq 3 v 1 aC ((upto n).take i++qh (n-i) 0)]) (λi=>n-i) 0 i0 ⟨i4,by simpa using G⟩ ?_;rintro i N ⟨U,y⟩;refine aj (λe=>?_) (λe=>?_)
 ·have m:i<n:=i4
  refine y.set af 1 i0 (λ_=>rfl) i0 i i0 (by simp[gJ];omega) (i:Int) i0 i0 i0 λh3 f=>?_;refine⟨i+1,js,⟨i4,?_⟩,i4⟩;have e2:((upto n).take i++qh (n-i) 0).set i (i:Int)=(upto n).take (i+1)++qh (n-(i+1)) 0:=by
   have D:ii ((upto n).take i)=i:=by rw[qU,gJ];omega
   rw[aK _ _ qs,q7 _ _ i4,D,zc,show n-i=n-(i+1)+1 by omega,yt,zq];simp[upto]
  rw[<-e2];exact f
 ·have m:i=n:=i4
  subst m;have e2:(upto i).take i++qh (i-i) 0=upto i:=by rw[qi qs];simp
  rw[e2]at y;refine av (λj:Nat=>(j:Int)) (λj h'=>j<=k/\aa (λb=>b<h.size/\¬b=a.block) h h' [aw a 344 [xH xQ (gq i s (upto i) j).1],aq 3 v 1 aC (gq i s (upto i) j).2]) (λj=>k-j) 0 i0 ⟨i4,y⟩ ?_;rintro j h3 ⟨O,f⟩;have p:=xY i s (upto i) j;rw[gJ]at p;refine aj (λJ=>?_) (λJ=>?_)
  ·rw[ak _];have c:((i:Int)-(j:Int))=((i-j:Nat):Int):=i4
   rw[c];refine(Nd a _ _ h3 (f.box 0 i0)).mono ?_;rintro w F ⟨rfl,t,A⟩;have g:=f.CO 0 i0 A t;have L:=xX (gq i s (upto i) j).1 ((i-j:Nat):Int);refine⟨_,i0,?_⟩;dsimp only;rw[ak _,ak _];have I:(j:Int)+mb (gq i s (upto i) j).1 ((i-j:Nat):Int)=((j+(mb (gq i s (upto i) j).1 ((i-j:Nat):Int)).toNat:Nat):Int):=i4
   have d:j+(mb (gq i s (upto i) j).1 ((i-j:Nat):Int)).toNat<(gq i s (upto i) j).2.length:=i4
   rw[I];have l:=g.seq 1 i0 λ_=>rfl;refine l.bB _ i0 d _ i0 ?_;refine l.bB j i0 i4 _ i0 ?_;refine g.set af 1 i0 (λ_=>rfl) i0 j i0 i4 _ i0 i0 i0 λM x=>⟨trivial,?_⟩
   refine x.set af 1 i0 (λ_=>rfl) i0 _ i0 n3 _ i0 i0 i0 λR H=>⟨trivial,?_⟩
   refine⟨j+1,i0,⟨i4,?_⟩,i4⟩;rw[gq,sI,kZ,kZ,Go.Vc.getD_lt d,Go.Vc.getD_lt (show j<(gq i s (upto i) j).2.length by omega)];exact H
  ·have q:j=k:=i4
   subst q;refine⟨⟨i4,i4⟩,?_⟩;have B:=f.seq 1 i0 λ_=>rfl;refine(jy ⟨v.ptr,j,v.cap⟩ ((gq i s (upto i) j).2.take j) h3 (B.take j i4) o9).mono ?_;rintro w F ⟨r,rfl,g⟩;refine⟨r,i0,?_⟩;refine(HT r _ F (g.own 0 i0) o9).mono ?_;rintro w M ⟨rfl,u,z⟩;have x:=(f.comp g).kX 2 i0 z u;exact⟨(),i0,r,i0,x.del 1⟩
theorem BS(p:Pm)(seed id:Int)(h:f8):ac xR 161 #[jU p,xH xP seed,xH xN id] h λv h'=>∃r:Sl,v=r/\Sp h h' [aq 3 r 1 aC (if bI p&&bV id then dj (bS p).toNat seed id else[])]:=by
 refine VD p seed id ?_;unfold PW;refine(Sp.refl h).boxed λa F B=>?_;refine bg ?_;refine⟨p,(B.box 0 i0).aS _ i0,(dM p F).mono ?_⟩;rintro v j ⟨rfl,J⟩;have u:=B.comp J;have k:(bI p&&bV id)=eR->Sp h j [aq 3 ⟨eH,0,0⟩ 1 aC (if bI p&&bV id then dj (bS p).toNat seed id else[])]:=λH=>by
  rw[H];exact(u.nil 3 1 aC).take 1 (λi A f=>by cases i with|zero=>exact f|succ i=>simp at f)
 refine⟨_,i0,bm (λe=>⟨⟨eH,0,0⟩,i0,k n8⟩) λs=>?_⟩;refine aj (λe=>⟨⟨eH,0,0⟩,i0,k l4⟩) λT=>?_;refine aj (λe=>⟨⟨eH,0,0⟩,i0,k l4⟩) λe2=>?_;have hid:bV id=eL:=l4
 rw[s,hid];refine⟨p,(u.box 0 i0).aS _ i0,(jZ p j).mono ?_⟩;rintro v h3 ⟨rfl,M⟩;have K:=u.comp M;have I:=(ce p).1 s;have U:bS p=p.1+p.2.1:=by rw[bS,f9 s]
 obtain⟨n,P⟩:∃n:Nat,bS p=n:=⟨(bS p).toNat,i4⟩
 refine⟨_,i0,?_⟩;dsimp only;rw[P,ql];refine(Ro _ h3).mono ?_;rintro v G ⟨d,rfl,D⟩;refine⟨dB d,i0,?_⟩;refine(Dz d _ G (D.box 0 i0)).mono ?_;rintro v S ⟨rfl,l,w⟩;have E:=D.CO 0 i0 w l;refine⟨_,i0,?_⟩;refine(Yv n S i4 i4).mono ?_;rintro v N ⟨t,rfl,x⟩;have c:=E.comp x;refine⟨t,i0,?_⟩;have o:∀b,t.on b->b≠d.block:=λb g V=>by
  have F:=(x.fresh 0 i0).2 b g;have j:=(E.box 0 i0).lt;omega
 refine(Jv t n d _ N ((x.own 0 i0).seq (λ_=>rfl) o) (c.box 0 i0) i4 i4).mono ?_;rintro v L ⟨rfl,m,y⟩;have z:=c.CO 0 i0 y m;refine⟨_,i0,?_⟩;refine(aaY d _ n _ L (z.box 0 i0) i4 (xZ _ n i4 i4)).mono ?_;rintro v h8 ⟨r,rfl,O⟩;have R:=z.call 0 i0 (λb=>b=d.block) (λq Q b g=>by rw[g];exact Q.2) O;exact⟨r,i0,r,i0,((K.comp R).take 3 λi A f=>by cases i with|zero=>exact f|succ i=>simp at f)⟩
end Go.Qw
