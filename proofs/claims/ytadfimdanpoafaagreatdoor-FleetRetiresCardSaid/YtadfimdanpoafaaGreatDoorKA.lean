/- Lemmas. -/
import Derived.Test.YtadfimdanpoafaaGreatDoorTabS
import Derived.Test.YtadfimdanpoafaaGreatDoorShelfA
import Derived.Test.YtadfimdanpoafaaGreatDoorPlF
import Derived.Test.YtadfimdanpoafaaGreatDoorPlG
import Derived.Test.YtadfimdanpoafaaGreatDoorPlH
set_option linter.unusedVariables false
set_option linter.unusedSimpArgs false
open Go.Proofs.Tryz renaming prog -> xx
open Go.Value renaming agg -> xr, bool -> xq, int -> xl, pointer -> xo, slice -> xn, string -> xp
open Go.IntKind renaming bits -> qk, i64 -> xt, signed -> yR, u32 -> xv, u64 -> xw, u8 -> xu, wrap -> qc
open Int renaming fdiv -> qU, mul_le_mul -> wF, mul_nonneg -> vg, mul_pos -> vY, natCast_mul -> wj, ofNat_inj -> xc, tdiv -> wI, tmod -> z7, tmod_eq_emod_of_nonneg -> yC, tmod_lt_of_pos -> vu, toNat_natCast -> qo
open UInt8 renaming ofNat -> yx, ofNat_toNat -> yJ, toNat_inj -> yq, toNat_lt -> wP, xor_comm -> vF, zero_xor -> wi
open List renaming all_append -> yH, all_eq_false -> yh, all_eq_true -> qN, any_append -> y6, any_eq_true -> wV, append_assoc -> qp, append_nil -> qS, cons_append -> zB, drop -> xj, drop_drop -> zH, drop_eq_getElem_cons -> qV, drop_of_length_le -> zb, eq_nil_of_length_eq_zero -> qZ, exists_cons_of_length_eq_add_one -> yk, ext_getElem? -> zD, filter_append -> zj, filter_cons -> zr, filter_eq_self -> z6, filter_nil -> yZ, find?_eq_some_iff_append -> wM, findIdx_lt_length -> wZ, flatMap_append -> zh, flatMap_cons -> zl, flatMap_nil -> z8, foldl_append -> wN, foldl_cons -> zE, foldl_nil -> wQ, getD_eq_getElem?_getD -> qe, getElem?_append_left -> qm, getElem?_append_right -> qj, getElem?_cons_succ -> qy, getElem?_drop -> wC, getElem?_eq_getElem -> qd, getElem?_eq_none -> zg, getElem?_eq_some_iff -> qn, getElem?_map -> qO, getElem?_range -> zw, getElem?_replicate -> zK, getElem?_set -> qX, getElem?_set_ne -> zN, getElem?_set_self -> zy, getElem?_zipWith -> wv, getElem_drop -> wb, getElem_mem -> qh, getElem_of_mem -> qH, getElem_set_self -> vI, getElem_take -> w4, getElem_zip -> yT, length -> yW, length_append -> qx, length_cons -> q9, length_drop -> za, length_filter_le -> qP, length_map -> qu, length_nil -> yt, length_range -> zx, length_set -> zA, length_take -> zd, length_zipWith -> vn, map_append -> qT, map_map -> wR, map_mergeSort -> vA, mem_append -> qA, mem_cons -> q8, mem_filter -> qB, mem_flatMap -> zm, mem_map -> qq, mem_mergeSort -> yB, mem_of_getElem? -> ye, mem_range -> qD, mem_singleton -> qG, nil_append -> zR, pairwise_cons -> zP, range -> qE, range_succ -> zI, replicate -> qg, replicate_succ -> yO, set_append_right -> zc, set_cons_succ -> zL, set_cons_zero -> zC, take_append_drop -> qI, take_append_of_le_length -> yd, take_length -> qQ, take_of_length_le -> qi, zipWith -> zo
open Nat renaming add_assoc -> w8, add_sub_cancel_left -> zq, add_zero -> yu, le_refl -> ql, le_trans -> q7, lt_of_lt_of_le -> qY, lt_succ_iff_lt_or_eq -> zk, mod_eq_of_lt -> vh, mod_lt -> yL, mul_le_mul -> wh, mul_le_mul_right -> zu, mul_one -> zT, sub_self -> zi, succ_mul -> zJ, zero_le -> wm
open Option renaming isSome_iff_exists -> vq, map_some -> qL, some -> zM
open BitVec renaming ofInt -> qC, ofInt_natCast -> wT, ofNat -> vT
open Bool renaming and_eq_true -> qz, false_eq_true -> zf, false_or -> vp, not_false -> yb, not_true -> wW, true_and -> zW
open Prod renaming ext -> yU, fst -> qJ, snd -> zt
open Go.Instr renaming fill -> wo, storeAt -> qf
set_option maxRecDepth 100000
namespace Go.Qw
open Go Go.Vc Go.Proofs Wl
abbrev Pm:=Int×Int×Int
abbrev kh(p:Pm):Value:=xr #[xl xt p.1,xl xt p.2.1,xl xt p.2.2]
theorem ey(p:Pm)(h:Heap):ac xx 47 #[kh p] h fun v h'=>v=xq (bL p)/\Sp h h' []:=by
 refine SM p ?_;unfold NR;refine(Sp.refl h).boxed fun a d g=>?_;have e:=g.box 0 rfl;have c:Sp h d []:=.zip g.ai;have i:cellOf d a=some (xl xt p.1):=e.cell0 rfl;have j:cellOf d (a.add 1)=some (xl xt p.2.1):=e.cell rfl;have f:cellOf d (a.add 2)=some (xl xt p.2.2):=e.cell rfl;unfold bL;refine⟨_,i,al (fun b=>?_) (fun b=>⟨by rw[decide_eq_false b];rfl,c⟩)⟩;rw[decide_eq_true b];refine⟨_,i,al (fun b=>?_) (fun b=>⟨by rw[decide_eq_false b];rfl,c⟩)⟩;rw[decide_eq_true b];refine⟨_,j,al (fun b=>?_) (fun b=>⟨by rw[decide_eq_false b];rfl,c⟩)⟩;rw[decide_eq_true b];refine⟨_,j,al (fun b=>?_) (fun b=>⟨by rw[decide_eq_false b];rfl,c⟩)⟩;rw[decide_eq_true b];refine⟨_,f,al (fun b=>?_) (fun b=>⟨by rw[decide_eq_false b];rfl,c⟩)⟩;rw[decide_eq_true b];exact⟨_,f,rfl,c⟩
abbrev lL:bW C.toBE 22 3 1 [xl xt 0] 8:=⟨_,_,rfl,rfl,rfl,rfl,rfl,rfl⟩
abbrev ga:bW C.toBE 35 5 1 [xl xu 0] 1:=⟨_,_,rfl,rfl,rfl,rfl,rfl,rfl⟩
abbrev fG:bW C.toBE 40 35 1 [xn none 0 0] 24:=⟨_,_,rfl,rfl,rfl,rfl,rfl,rfl⟩
theorem jg(s:Sl)(l:aC)(h:Heap)(b:Rd h s 1 aD l)(d:l.length<=2^30):ac xx 80 #[s] h fun v h'=>∃r:Sl,v=r/\Sp h h' [ar 3 r 1 aD l]:=by
 refine wf s ?_;unfold nv;refine bw (fun e=>?_) (fun e=>?_)
 ·have:=b.isNil e;subst this;exact⟨⟨none,0,0⟩,rfl,(Sp.refl h).nil 3 1 aD⟩
 ·refine(Sp.refl h).lit ae aD lL rfl [] rfl (by decide) rfl fun j i a=>?_;refine a.append ae 0 rfl lL ⟨_,_,rfl,rfl⟩ rfl (by decide) (fun _=>rfl) (b.up a.ai) jf (by simp;omega) fun f g c=>⟨f,rfl,c⟩
theorem fR(s:Sl)(l:aX)(h:Heap)(b:Rd h s 1 aE l)(d:l.length<=2^30:=by omega):ac xx 206 #[s] h fun v h'=>∃r:Sl,v=r/\Sp h h' [ar 5 r 1 aE l]:=by
 refine KR s ?_;unfold Eo;refine bw (fun e=>?_) (fun e=>?_)
 ·have:=b.isNil e;subst this;exact⟨⟨none,0,0⟩,rfl,(Sp.refl h).nil 5 1 aE⟩
 ·refine(Sp.refl h).lit ae aE ga rfl [] rfl (by decide) rfl fun j i a=>?_;refine a.append ae 0 rfl ga ⟨_,_,rfl,rfl⟩ rfl (by decide) (fun _=>rfl) (b.up a.ai) gw (by simp;omega) fun f g c=>⟨f,rfl,c⟩
theorem NZ{e:TypeId}(s:Sl)(l:aC)(h:Heap)(c:Own h e s 1 aD l)(a:l.length<2^40):ac xx 168 #[s] h fun v h'=>v=.tuple #[]/\Own h' e s 1 aD (jt l)/\aU (fun b=>¬s.on b) h h':=
 PX Tryz.slices_Sort_int Tryz.slices_Sort_int_none c a
theorem bQ(x n:Int)(h:Heap)(a:0<n)(e:n<=2^62):ac xx 13 #[xl xt x,xl xt n] h fun v h'=>v=xl xt (x%n)/\h'=h:=by
 refine ue x n ?_;unfold mW;have g:=vu x a;have f:-n<x.tmod n:=Int.lt_tmod_of_pos x a;have d:=PR x n a;refine⟨by omega,be ?_⟩;refine al (fun b=>?_) (fun c=>?_)
 ·rw[ak _];exact⟨by rw[d,if_pos b],rfl⟩
 ·exact⟨by rw[d,if_neg c],rfl⟩
theorem VO{p q:aB}(a b:Sl)(c i:Row)(h:Heap)(r:Seq h p a 1 aE c)(o:Seq h q b 1 aE i)(x:c.length<=2^40):
  ac xx 18 #[a,b] h fun v h'=>v=xq (decide (c=i))/\h'=h:=by
 refine rm a b ?_;unfold lq;have n:=r.len;have j:=o.len;refine ca (fun d=>⟨?_,rfl⟩) (fun l=>?_)
 ·rw[decide_eq_false (fun e=>d (by rw[n,j,e]))]
 ·refine aw (fun k:Nat=>(k:Int)) (fun k h'=>h'=h/\k<=c.length/\c.take k=i.take k) (fun k=>c.length-k) 0 rfl ⟨rfl,by omega,by simp⟩ ?_;rintro k h' ⟨rfl,w,m⟩;refine al (fun t=>?_) (fun s=>?_)
  ·have f:k<c.length:=by omega
   have g:k<i.length:=by omega
   refine r.bx k rfl f _ rfl ?_;refine o.bx k rfl g _ rfl ?_;refine ca (fun d=>⟨?_,rfl⟩) (fun l=>?_)
   ·rw[decide_eq_false];intro e;subst e;exact d rfl
   ·rw[ak _];have u:c[k]=i[k]:=yq.1 (by omega);exact⟨k+1,by simp,⟨rfl,by omega,by rw[aI _ _ f,aI _ _ g,m,u]⟩,by omega⟩
  ·have:k=c.length:=by omega
   subst this;rw[qi (by omega),qi (by omega)]at m;exact⟨by rw[decide_eq_true m],rfl⟩
section
variable {B:aB} {h0 h:Heap} {As:List HP}
theorem xE{α:Type}{g:α->Bool}{l:List α}{i:Nat}(h:i<l.length)(a:∀j (b:j<l.length),j<i->g l[j]=false)(c:g l[i]=true):l.findIdx g=i:=by
 rw[List.findIdx_eq h];exact⟨c,fun j b=>a j (by omega) b⟩
theorem SX(s:Sl)(l:aC)(b:FuncId)(a:Array Value)(g:Int->Bool)(Q:Heap->Prop)(w:C.fns[b]?=some true)(t:St B h0 As Q)(o:∀x h',Q h'->ac xx b ([Value.int .i64 x]++a.toList).toArray h' fun v q=>v=xq (g x)/\Sp h' q [])(H:aa B h0 h (ar 3 s 1 aD l::As))(D:l.length<=2^20):
  ac xx 150 #[s,.func (.func b) #[] a] h fun v h'=>v=xl xt (if l.findIdx g<l.length then(l.findIdx g:Int)else-1)/\aa B h0 h' (ar 3 s 1 aD l::As):=by
 refine ic s (b,#[],a) ?_;unfold fU;have y:=(H.own 0 rfl).len;refine aw (fun i:Nat=>(i:Int)) (fun i h'=>aa B h0 h' (ar 3 s 1 aD l::As)/\i<=l.length/\∀j (n:j<l.length),j<i->g l[j]=false) (fun i=>l.length-i) 0 rfl ⟨H,by omega,fun j _ n=>by omega⟩ ?_;rintro i z ⟨m,E,d⟩;refine al (fun e=>?_) (fun e=>?_)
 ·have c:i<l.length:=by omega
  refine(m.seq 0 rfl fun _=>rfl).bx i rfl c _ rfl ?_;refine ee w ?_;refine(o l[i] z (t.at [_] m)).mono ?_;rintro _ A ⟨rfl,r⟩;refine⟨_,rfl,bw (fun e2=>?_) (fun e2=>?_)⟩
  ·rw[xE c d e2,if_pos c];exact⟨rfl,m.up r.ai⟩
  ·refine⟨i+1,by rw[ak _];rfl,⟨m.up r.ai,by omega,fun j n p=>?_⟩,by omega⟩;rcases zk.1 p with h3|rfl
   ·exact d j n h3
   ·exact e2
 ·have k:¬l.findIdx g<l.length:=by
   rw[wZ];rintro⟨x,u,f⟩;obtain⟨j,n,rfl⟩:=qH u;rw[d j n (by omega)]at f;cases f
  rw[if_neg k];exact⟨rfl,m⟩
theorem VP{α:Type}{g:α->Bool}{l:List α}{j:Nat}(h:j<l.findIdx g)(a:j<l.length):g l[j]=false:=by
 simpa using List.not_of_lt_findIdx h
structure ko {α:Type} (g:α->Bool) (l l':List α) (i j:Nat):Prop where
 len:l'.length=l.length
 le:i<=j
 pre:l'.take i=(l.take j).filter fun x=>!g x
 post:l'.drop j=l.drop j
theorem ko.start{α:Type}{g:α->Bool}{l:List α}{i:Nat}(h:i<l.length)(b:l.findIdx g=i):ko g l l i (i+1):=by
 refine⟨rfl,by omega,?_,rfl⟩;have a:g l[i]=true:=by
  have:=List.findIdx_getElem (xs:=l) (p:=g) (w:=by rw[b];exact h);simpa[b]using this
 rw[aI _ _ h,zj,zr,a];have:(l.take i).filter (fun x=>!g x)=l.take i:=z6.2 fun x d=>by
  obtain⟨j,c,rfl⟩:=qH d;simp only[zd]at c;rw[w4,VP (g:=g) (l:=l) (j:=j) (by omega) (by omega)];rfl
 rw[this];simp
theorem ko.at_{α:Type}{g:α->Bool}{l b:List α}{i j:Nat}(x:ko g l b i j)(a:j<l.length):b[j]'(by rw[x.len];exact a)=l[j]:=by
 have h:=congrArg (fun m=>m[0]?) x.post;simp only[wC,yu]at h;rw[qd a,qd (by rw[x.len];exact a)]at h;exact zM.inj h
theorem ko.keep{α:Type}{g:α->Bool}{l a:List α}{i j:Nat}(x:ko g l a i j)(e:j<l.length)(b:g l[j]=false):ko g l (a.set i l[j]) (i+1) (j+1):=by
 have c:=x.len;have d:=x.le;refine⟨by simp[c],by omega,?_,?_⟩
 ·rw[aI _ _ (by simp;omega),vI,List.take_set_of_le (ql _),x.pre,aI _ _ e,zj,zr,b];rfl
 ·rw[List.drop_set_of_lt (by omega)];have f:=congrArg (xj 1) x.post;simpa[zH]using f
theorem ko.skip{α:Type}{g:α->Bool}{l a:List α}{i j:Nat}(x:ko g l a i j)(e:j<l.length)(b:g l[j]=true):ko g l a i (j+1):=by
 have c:=x.len;have d:=x.le;refine⟨c,by omega,?_,?_⟩
 ·rw[x.pre,aI _ _ e,zj,zr,b];simp
 ·have f:=congrArg (xj 1) x.post;simpa[zH]using f
theorem filter_all{α:Type}{g:α->Bool}{l:List α}(h:¬l.findIdx g<l.length):l.filter (fun x=>!g x)=l:=z6.2 fun x a=>by
 have:g x=false:=by
  cases hh:g x with
  |false=>rfl
  |true=>exact absurd (wZ.2 ⟨x,a,hh⟩) h
 rw[this];rfl
theorem xF(s:Sl)(l:aC)(b:FuncId)(a:Array Value)(g:Int->Bool)(Q:Heap->Prop)(y:C.fns[b]?=some true)(w:St B h0 As Q)(f:∀x h',Q h'->ac xx b ([Value.int .i64 x]++a.toList).toArray h' fun v u=>v=xq (g x)/\Sp h' u [])(H:aa B h0 h (ar 3 s 1 aD l::As))(G:l.length<=2^20):
  ac xx 74 #[s,.func (.func b) #[] a] h fun v h'=>∃r:Sl,v=r/\aa B h0 h' (ar 3 r 1 aD (l.filter fun x=>!g x)::As):=by
 refine pJ s (b,#[],a) ?_;unfold kN;refine(SX s l b a g Q y w f H G).mono ?_;rintro _ O ⟨rfl,z⟩;have J:=(H.own 0 rfl).len;have L:=(H.own 0 rfl).cap;refine⟨_,rfl,cI (fun e=>?_) (fun e=>?_)⟩
 ·have p:¬l.findIdx g<l.length:=fun m=>by rw[if_pos m]at e;omega
  exact⟨s,rfl,by rw[filter_all p];exact z⟩
 ·have c:l.findIdx g<l.length:=by
   by_cases m:l.findIdx g<l.length
   ·exact m
   ·rw[if_neg m]at e;exact absurd rfl e
  rw[if_pos c];refine aw (fun t:Nat×Nat×aC=>((t.1:Int),(t.2.1:Int))) (fun t h'=>ko g l t.2.2 t.1 t.2.1/\t.2.1<=l.length/\aa B h0 h' (ar 3 s 1 aD t.2.2::As)) (fun t=>l.length-t.2.1) (l.findIdx g,l.findIdx g+1,l) (by rw[ak _];rfl) ⟨ko.start c rfl,by dsimp only;omega,z⟩ ?_;rintro⟨i,j,A⟩ E ⟨M2,N,n⟩;dsimp only at*;have K:=M2.len;have I:=M2.le;refine al (fun e2=>?_) (fun e2=>?_)
  ·have d:j<l.length:=by omega
   refine(n.seq 0 rfl fun _=>rfl).bx j rfl (by omega) _ rfl ?_;rw[M2.at_ d];refine ee y ?_;refine(f l[j] E (w.at [_] n)).mono ?_;rintro _ h3 ⟨rfl,F⟩;have k:=n.up F.ai;refine⟨_,rfl,bh (fun q=>?_) (fun q=>?_)⟩
   ·refine k.set ae 0 rfl (fun _=>rfl) rfl i rfl (by omega) l[j] rfl rfl rfl fun M D=>?_;exact⟨(i+1,j+1,A.set i l[j]),by dsimp only;rw[ak _,ak _];rfl,⟨M2.keep d (by simpa using q),by dsimp only;omega,D⟩,by dsimp only;omega⟩
   ·exact⟨(i,j+1,A),by dsimp only;rw[ak _];rfl,⟨M2.skip d (by simpa using q),by dsimp only;omega,k⟩,by dsimp only;omega⟩
  ·have o:j=l.length:=by omega
   subst o;refine⟨⟨by omega,by omega⟩,?_⟩;rw[qo];refine n.nW ae 0 rfl lL (fun _=>rfl) rfl (by decide) i (by omega) fun h3 k=>⟨⟨by omega,by omega⟩,⟨s.ptr,i,s.cap⟩,rfl,?_⟩
   have:=M2.pre;rw[qQ]at this;rw[<-this];exact k
end
end Go.Qw
namespace Go.Vc
open Go Wl
abbrev Cells:=cD
abbrev powC(w:Pow)(l:Int):aW:=[xq w.off,xq w.fuse.isSome,xl xt l,xl xt w.offs]
def Lk(w:Pow)(l:Int):Prop:=∀k,w.fuse=some k->l=k/\k<2^62
def dN(t:Nat)(a:Addr)(w:Pow):HP:=HP.ex fun l:Int=>(aq a t (powC w l)).and (Lk w l)
section
variable {B:aB} {h0 h h':Heap} {As:List HP} {t:Nat} {a:Addr} {w:Pow}
theorem aa.Cp(H:aa B h0 h (dN t a w::As)):∃l,Lk w l/\aa B h0 h (aq a t (powC w l)::As):=by
 obtain⟨l,H⟩:=H.Ht;obtain⟨H,b⟩:=H.IV;exact⟨l,b,H⟩
theorem aa.Ju{l:Int}(b:Lk w l)(H:aa B h0 h (aq a t (powC w l)::As)):aa B h0 h (dN t a w::As):=
 (H.toIV b).Kg (F:=fun l:Int=>(aq a t (powC w l)).and (Lk w l)) l
end
end Go.Vc
namespace Go.Qw
open Go Go.Vc Go.Proofs Wl
section
variable {B:aB} {h0 h h':Heap} {As:List HP} {t:Nat} {a:Addr} {w:Pow}
theorem HI(l:Int)(b:bX h a 101 (powC w l)):ac xx 99 #[xo (some a)] h fun v h'=>v=xq (!w.off)/\h'=h:=by
 refine FR (some a) ?_;unfold ws;exact bw (fun _=>⟨a,rfl,w.off,b.cell0 rfl,rfl,rfl⟩) fun e=>by cases e
theorem Oa(l:Int)(b:bX h a 101 (powC w l)):ac xx 48 #[xo (some a)] h fun v h'=>v=xl xt w.offs/\h'=h:=by
 refine Do (some a) ?_;unfold so;exact bw (fun e=>by cases e) fun _=>⟨a,rfl,w.offs,b.cell rfl,rfl,rfl⟩
theorem Gr(h:Heap):ac xx 8 #[] h fun v h'=>∃a,v=xo (some a)/\Sp h h' [dN 101 a Pow.new]:=by
 refine OJ ?_;unfold Ih;refine(Sp.refl h).boxed fun a c b=>⟨a,rfl,aa.Ju (l:=0) (w:=Pow.new) (fun k e=>by cases e) b⟩
theorem Gs(H:aa B h0 h (dN 101 a w::As)):ac xx 35 #[xo (some a)] h fun v h'=>v=xq w.step.1/\aa B h0 h' (dN 101 a w.step.2::As):=by
 obtain⟨l,p,c⟩:=H.Cp;refine Dm (some a) ?_;unfold sj;refine(HI l (c.box 0 rfl)).mono ?_;rintro _ x ⟨rfl,rfl⟩;refine⟨_,rfl,bh (fun e=>?_) (fun e=>?_)⟩
 ·have:w.step=(false,w):=by unfold Pow.step;rw[if_pos (by simpa using e)]
  rw[this];exact⟨rfl,H⟩
 have g:w.off=false:=by simpa using e
 refine⟨a,rfl,_,(c.box 0 rfl).cell rfl,bh (fun e2=>?_) (fun e2=>?_)⟩
 ·have:w.step=(true,w):=by
   unfold Pow.step;rw[if_neg (by simp[g])];cases d:w.fuse with
   |none=>rfl
   |some k=>rw[d]at e2;cases e2
  rw[this];exact⟨rfl,H⟩
 obtain⟨k,d⟩:∃k,w.fuse=some k:=vq.1 e2;obtain⟨rfl,u⟩:=p k d;have r:powC w (k:Int)=[xq false,xq true,xl xt k,xl xt w.offs]:=by simp[powC,g,d]
 rw[r]at c;refine⟨a,rfl,_,(c.box 0 rfl).cell rfl,cI (fun q=>?_) (fun q=>?_)⟩
 ·have i:k=0:=by omega
  subst i;have m:w.step=(false,⟨true,some 0,qc xt (w.offs+1)⟩):=by unfold Pow.step;rw[if_neg (by simp[g]),d]
  rw[m];refine⟨a,rfl,c.kv ae 0 rfl rfl [xq true] rfl rfl rfl (by simp) fun t n=>?_⟩;refine⟨a,rfl,w.offs,(n.box 0 rfl).cell rfl,a,rfl,n.store ae 0 rfl rfl 3 [xl xt (qc xt (w.offs+1))] rfl rfl rfl (by simp[powC]) fun h3 f=>⟨rfl,?_⟩⟩;refine aa.Ju (l:=((0:Nat):Int)) (fun o b=>by cases b;exact⟨rfl,by decide⟩) ?_;exact f
 ·obtain⟨j,rfl⟩:∃j,k=j+1:=⟨k-1,by omega⟩
  have m:w.step=(true,⟨false,some j,w.offs⟩):=by unfold Pow.step;rw[if_neg (by simp[g]),d]
  rw[m];refine⟨a,rfl,_,(c.box 0 rfl).cell rfl,a,rfl,c.store ae 0 rfl rfl 2 [xl xt (qc xt (((j+1:Nat):Int)-1))] rfl rfl rfl (by simp[powC]) fun h3 f=>⟨rfl,?_⟩⟩;refine aa.Ju (l:=(j:Int)) (fun o b=>by cases b;exact⟨rfl,by omega⟩) ?_;rw[ak _]at f;have s:((j+1:Nat):Int)-1=(j:Int):=by omega
  rw[s]at f;exact f
end
end Go.Qw
namespace Wl
structure fV (d:bB):Prop where
 wait:d.wait<=d.l.length
 len:d.l.length<=d.room
 room:d.room<=512
 cell:∀c∈d.l,c.length=64
 laid:d.laid.length<=d.room
 cellL:∀c∈d.laid,c.length=64
section
variable {d:bB} {w:Pow} {b:aX}
theorem fV.new{n:Nat}(h:n<=512):fV (bB.new n):=⟨ql _,wm _,h,by simp[bB.new],wm _,by simp[bB.new]⟩
theorem fV.rewrite{l:cD}(h:fV d):fV (d.rewrite w l).2.2:=by
 obtain⟨e,b,h3,a,g,i⟩:=h;unfold bB.rewrite;split
 ·exact⟨e,b,h3,a,g,i⟩
 ·rename_i f;have f:∀c∈l,c.length=64:=by simpa using f
  split
  ·exact⟨e,b,h3,a,g,i⟩
  ·split
   ·exact⟨e,b,h3,a,g,i⟩
   ·split
    ·exact⟨e,b,h3,a,g,i⟩
    ·split
     ·exact⟨wm _,by dsimp only;omega,h3,f,wm _,by simp⟩
     ·exact⟨e,b,h3,a,by dsimp only;omega,f⟩
end
end Wl
namespace Go.Vc
open Go Wl Go.Qw
abbrev eE(s:Sl)(l:Cells):HP:=lN 35 s 5 1 aE l
def kX(t:Nat)(f:bB->Sl->Sl->aW)(a:Addr)(d:bB):HP:=
 (HP.ex fun b:Sl×Sl=>(aq a t (f d b.1 b.2)).sep ((eE b.1 d.l).sep (eE b.2 d.laid))).and (fV d)
section
variable {B:aB} {h0 h h':Heap} {As:List HP} {t:Nat} {f:bB->Sl->Sl->aW} {a:Addr} {d:bB}
theorem aa.ui(H:aa B h0 h (kX t f a d::As)):fV d/\∃s b:Sl,aa B h0 h (aq a t (f d s b)::eE s d.l::eE b d.laid::As):=by
 obtain⟨H,ok⟩:=H.IV;obtain⟨c,H⟩:=H.Ht;exact⟨ok,c.1,c.2,H.Kh.Kh.bi 3 [2,1,0]⟩
theorem aa.Gt{s b:Sl}(ok:fV d)(H:aa B h0 h (aq a t (f d s b)::eE s d.l::eE b d.laid::As)):aa B h0 h (kX t f a d::As):=
 ((((H.bi 3 [2,1,0]).oL).oL).Kg (F:=fun c:Sl×Sl=>(aq a t (f d c.1 c.2)).sep ((eE c.1 d.l).sep (eE c.2 d.laid))) (s,b)).toIV ok
end
end Go.Vc
namespace Go.Qw
open Go Go.Vc Go.Proofs Wl
abbrev gW(pw:Addr)(d:bB)(s b:Sl):aW:=[xo (some pw),xl xt d.room,s,xl xt d.wait,b,xq d.has,xq d.lost]
abbrev mw(pw a:Addr)(d:bB):HP:=kX 161 (gW pw) a d
section
variable {B:aB} {h0 h h':Heap} {As:List HP} {a pw:Addr} {d:bB} {w:Pow}
theorem VQ(n:Int)(pw:Addr)(h:Heap):ac xx 49 #[xl xt n,xo (some pw)] h fun v h'=>
  (1<=n/\n<=512->∃a,v=xo (some a)/\Sp h h' [mw pw a (bB.new n.toNat)])/\(¬(1<=n/\n<=512)->v=xo none/\Sp h h' []):=by
 refine OK n (some pw) ?_;unfold Ii;refine be (al (fun e=>⟨fun c=>absurd c (by omega),fun _=>⟨rfl,Sp.refl h⟩⟩) fun g=>al (fun e=>⟨fun c=>absurd c (by omega),fun _=>⟨rfl,Sp.refl h⟩⟩) fun e2=>bw (fun e=>by cases e) fun _=>?_);refine(Sp.refl h).boxed fun a i d=>⟨fun _=>⟨a,rfl,?_⟩,fun c=>absurd (by omega) c⟩
 refine aa.Gt (s:=⟨none,0,0⟩) (b:=⟨none,0,0⟩) (fV.new (by omega)) ?_;have e:((n.toNat:Nat):Int)=n:=by omega
 have f:=((d.Fk 35 5 1 aE).Fk 35 5 1 aE).bi 3 [2,1,0];have e2:gW pw (bB.new n.toNat) ⟨none,0,0⟩ ⟨none,0,0⟩=[xo (some pw),xl xt n,xn none 0 0,xl xt 0,xn none 0 0,xq false,xq false]:=by
  simp only[gW,bB.new,e];rfl
 rw[e2];exact f
theorem Gu(s b:Sl)(c:bB)(H:aa B h0 h (aq a 161 (gW pw d s b)::eE s d.l::eE b d.laid::dN 101 pw w::As))(ok:fV d)(f:c={d with laid:=[],has:=false}):
  ac xx 207 #[xo (some a)] h fun v h'=>v=xl xt 0/\aa B h0 h' (mw pw a c::dN 101 pw w::As):=by
 refine Dw (some a) ?_;unfold sC;refine⟨a,rfl,H.store ae 0 rfl rfl 4 [xn none 0 0] rfl rfl rfl (by simp[gW]) fun i g=>?_⟩;refine⟨a,rfl,g.store ae 0 rfl rfl 5 [xq false] rfl rfl rfl (by simp[gW]) fun h3 e=>⟨rfl,?_⟩⟩;subst f;refine aa.Gt (s:=s) (b:=⟨none,0,0⟩) ⟨ok.wait,ok.len,ok.room,ok.cell,wm _,by simp⟩ ?_;exact((e.Fk 35 5 1 aE).bi 5 [1,2,0,4])
theorem SY(x:Sl)(row:aX)(H:aa B h0 h (mw pw a d::dN 101 pw w::As))(N:Rd h x 1 aE row)(hr:row.length<=2^20):
  ac xx 118 #[xo (some a),x] h fun v h'=>v=xl xt (d.append w row).1/\aa B h0 h' (mw pw a (d.append w row).2.2::dN 101 pw (d.append w row).2.1::As):=by
 refine ny (some a) x ?_;unfold kW;have S:=N.len;obtain⟨ok,s,b,A⟩:=H.ui;have t:=A.box 0 rfl;obtain⟨X,_⟩:=aa.AZ (A.bi 4 [1]);have M:=ok.room;have P:=ok.len;have L:=ok.wait;have g:∀(e:Int),d.append w row=(e,w,d)->(Value.int .i64 e=xl xt (d.append w row).1/\aa B h0 h (mw pw a (d.append w row).2.2::dN 101 pw (d.append w row).2.1::As)):=fun e Y=>by
  rw[Y];exact⟨rfl,H⟩
 refine be (ca (fun e=>g 1 (by unfold bB.append;rw[if_pos (by omega)])) fun T=>?_);have y:row.length=64:=by omega
 refine be (bw (fun e=>by cases e) fun _=>⟨a,rfl,d.lost,t.cell rfl,bw (fun e=>g 5 ?_) fun f=>?_⟩)
 ·unfold bB.append;rw[if_neg (by omega),if_pos e]
 refine⟨a,rfl,s,t.cell rfl,a,rfl,(d.room:Int),t.cell rfl,al (fun e=>g 7 ?_) fun J=>?_⟩
 ·unfold bB.append;rw[if_neg (by omega),if_neg (by simp[f]),if_pos (by omega)]
 obtain⟨l,hl,F⟩:=(A.bi 4 [3,0,1,2]).Cp;refine⟨a,rfl,some pw,t.cell0 rfl,(HI l (F.box 0 rfl)).mono ?_⟩;rintro _ R ⟨rfl,rfl⟩;refine⟨_,rfl,bh (fun e=>g 14 ?_) fun u=>?_⟩
 ·unfold bB.append;rw[if_neg (by omega),if_neg (by simp[f]),if_neg (by omega),if_pos (by simpa using e)]
 have k:w.off=false:=by simpa using u
 refine be ⟨a,rfl,s,t.cell rfl,(fR x row R N).mono ?_⟩;rintro _ Z ⟨r,rfl,Q⟩;have z:=(A.cS Q).bi 5 [2,0,1,3,4];have o:=z.box 2 rfl;refine⟨r,rfl,⟨o.cell rfl,trivial⟩,?_⟩;have V:=z;refine z.nV ae bJ fG rfl [r] rfl (show 1*1<=2^20 by decide) rfl ⟨o.cell rfl,trivial⟩ ?_;refine z.Hu ae fG (by omega) fun D h6 G=>⟨trivial,?_⟩
 have G:=G.bi 4 [1,0,2,3];refine⟨a,rfl,G.store ae 0 rfl rfl 2 [D] rfl rfl rfl (by simp[gW]) fun h7 O=>⟨trivial,?_⟩⟩;have K:=O.box 0 rfl;refine⟨a,rfl,(d.wait:Int),K.cell rfl,a,rfl,?_⟩;rw[ak ((d.wait:Int)+1)];refine O.store ae 0 rfl rfl 3 [xl xt ((d.wait:Int)+1)] rfl rfl rfl (by simp[gW]) fun h8 U=>?_;obtain⟨i,j⟩:∃i:bB,i={d with l:=d.l++[row],wait:=d.wait+1}:=⟨_,rfl⟩
 have p:fV i:=by
  subst j;refine⟨by simp;omega,by simp;omega,ok.room,fun c m=>?_,ok.laid,ok.cellL⟩;rcases qA.1 m with m|m
  ·exact ok.cell c m
  ·rw[qG.1 m];exact y
 have n:aa B h0 h8 (aq a 161 (gW pw i D b)::eE D i.l::eE b i.laid::dN 101 pw w::As):=by rw[j];exact U
 refine⟨a,rfl,some pw,(n.box 0 rfl).cell0 rfl,(Gs (n.bi 4 [3,0,1,2])).mono ?_⟩;rintro _ h9 ⟨rfl,E⟩;have E:=E.bi 4 [1,2,3,0];have q:d.append w row=if w.step.1 then(0,w.step.2,{i with laid:=[],has:=false})else(14,w.step.2,i):=by
  rw[j];unfold bB.append;rw[if_neg (by omega),if_neg (by simp[f]),if_neg (by omega),if_neg (by simp[k])]
 rw[q];refine⟨_,rfl,bh (fun e=>?_) (fun e=>?_)⟩
 ·rw[e];exact⟨rfl,E.Gt p⟩
 ·rw[e];refine(Gu D b _ E p rfl).mono ?_;rintro _ W ⟨rfl,I⟩;exact⟨0,rfl,rfl,I⟩
theorem Nf(x:Sl)(row:aX)(h:Heap)(a:Rd h x 1 aE row):ac xx 118 #[xo none,x] h fun v h'=>v=xl xt (if row.length≠64 then 1 else 5)/\h'=h:=by
 refine ny none x ?_;unfold kW;have b:=a.len;refine be (ca (fun e=>⟨by rw[if_pos (by omega)],rfl⟩) fun e=>?_);exact be (bw (fun _=>⟨by rw[if_neg (by omega)],rfl⟩) fun e=>by cases e)
theorem Yd(H:aa B h0 h (mw pw a d::dN 101 pw w::As)):
  ac xx 209 #[xo (some a)] h fun v h'=>v=xl xt (d.sync w).1/\aa B h0 h' (mw pw a (d.sync w).2.2::dN 101 pw (d.sync w).2.1::As):=by
 refine pk (some a) ?_;unfold mq;obtain⟨ok,s,b,j⟩:=H.ui;have i:=j.box 0 rfl;refine be (bw (fun e=>by cases e) fun _=>⟨a,rfl,d.lost,i.cell rfl,bw (fun e=>?_) fun c=>?_⟩)
 ·have:d.sync w=(5,w,d):=by unfold bB.sync;rw[if_pos e]
  rw[this];exact⟨rfl,H⟩
 refine⟨a,rfl,some pw,i.cell0 rfl,(Gs (j.bi 4 [3,0,1,2])).mono ?_⟩;rintro _ n ⟨rfl,g⟩;have g:=g.bi 4 [1,2,3,0];have f:d.sync w=if w.step.1 then(0,w.step.2,{{d with wait:=0}with laid:=[],has:=false})else(14,w.step.2,d):=by
  unfold bB.sync;rw[if_neg (by simp[c])]
 rw[f];refine⟨_,rfl,bh (fun e=>?_) (fun e=>?_)⟩
 ·rw[e];exact⟨rfl,g.Gt ok⟩
 ·rw[e];refine⟨a,rfl,g.store ae 0 rfl rfl 3 [xl xt 0] rfl rfl rfl (by simp[gW]) fun h3 k=>?_⟩;refine(Gu (d:={d with wait:=0}) s b _ k ⟨wm _,ok.len,ok.room,ok.cell,ok.laid,ok.cellL⟩ rfl).mono ?_;rintro _ m ⟨rfl,l⟩;exact⟨0,rfl,rfl,l⟩
theorem Re(h:Heap):ac xx 209 #[xo none] h fun v h'=>v=xl xt 5/\h'=h:=by
 refine pk none ?_;unfold mq;exact be (bw (fun _=>⟨rfl,rfl⟩) fun e=>by cases e)
theorem mw.box(H:aa B h0 h (mw pw a d::As)):∃s b:Sl,bX h a 161 (gW pw d s b)/\gx h s 1 aE d.l/\s.len=d.l.length:=by
 obtain⟨ok,s,b,c⟩:=H.ui;exact⟨s,b,c.box 0 rfl,(c.bi 3 [1]).NB fun _=>rfl,(aa.AZ (c.bi 3 [1])).1⟩
theorem Ye(s b:Sl)(c:bX h a 161 (gW pw d s b)):ac xx 201 #[xo (some a)] h fun v h'=>v=xl xt d.room/\h'=h:=by
 refine Dv (some a) ?_;unfold sB;exact bw (fun e=>by cases e) fun _=>⟨a,rfl,_,c.cell rfl,rfl,rfl⟩
theorem Ob(s b:Sl)(c:bX h a 161 (gW pw d s b))(f:s.len=d.l.length):ac xx 157 #[xo (some a)] h fun v h'=>v=xl xt (d.l.length:Int)/\h'=h:=by
 refine EM (some a) ?_;unfold tE;exact bw (fun e=>by cases e) fun _=>⟨a,rfl,_,c.cell rfl,by rw[f],rfl⟩
theorem AK(s b:Sl)(c:bX h a 161 (gW pw d s b)):ac xx 153 #[xo (some a)] h fun v h'=>v=xq d.lost/\h'=h:=by
 refine pj (some a) ?_;unfold mi;exact bw (fun _=>⟨a,rfl,_,c.cell rfl,rfl,rfl⟩) fun e=>by cases e
theorem Jv(l:Sl)(a:Cells)(h:Heap)(f:gx h l 1 aE a)(u:a.length<=2^20)(k:∀c∈a,c.length<=2^20):ac xx 248 #[l] h fun v h'=>∃r:Sl,v=r/\Sp h h' [eE r a]:=by
 refine OW l ?_;unfold Iv;have n:=f.len;refine aw (fun t:Sl×Nat=>(t.1,(t.2:Int))) (fun t h'=>t.2<=a.length/\Sp h h' [eE t.1 (a.take t.2)]) (fun t=>a.length-t.2) (⟨none,0,0⟩,0) rfl ⟨by simp,by simpa using(Sp.refl h).Fk 35 5 1 aE⟩ ?_;rintro⟨s,i⟩ q ⟨x,d⟩;dsimp only at*;refine al (fun e=>?_) (fun e=>?_)
 ·have b:i<a.length:=by omega
  refine(f.up d.ai).get i rfl b fun r j=>?_;have:=k _ (qh b);refine(fR r _ q j).mono ?_;rintro _ w ⟨m,rfl,p⟩;refine⟨m,rfl,?_⟩;refine aa.Hu ae (d.comp p) fG (by simp;omega) fun o h3 g=>?_;refine⟨(o,i+1),by dsimp only;rw[ak _];rfl,⟨by dsimp only;omega,?_⟩,by dsimp only;omega⟩;dsimp only;rw[aI _ _ b];exact g
 ·rw[qi (by omega)]at d;exact⟨s,rfl,d⟩
theorem Rf(s b:Sl)(g:bX h a 161 (gW pw d s b))(f:gx h s 1 aE d.l)(ok:fV d):ac xx 160 #[xo (some a)] h fun v h'=>∃r:Sl,v=r/\Sp h h' [eE r d.l]:=by
 refine pS (some a) ?_;unfold na;have:=ok.len;have:=ok.room;refine bw (fun e=>by cases e) fun _=>⟨a,rfl,s,g.cell rfl,(Jv s d.l h f (by omega) fun c j=>by rw[ok.cell c j];decide).mono ?_⟩
 rintro _ k ⟨r,rfl,i⟩;exact⟨r,rfl,r,rfl,i⟩
end
theorem aaG(b:Sl)(l:aX)(h:Heap)(q:Rd h b 1 aE l)(E:l.length<=2^40):ac xx 276 #[b] h fun v h'=>v=xl xv (BL l).toNat/\h'=h:=by
 refine SP b ?_;unfold NU;have A:=q.len;refine aw (fun t:Nat=>(((tU (l.take t)).toNat:Int),(t:Int))) (fun t h'=>t<=l.length/\h'=h) (fun t=>l.length-t) 0 rfl ⟨by omega,rfl⟩ ?_;rintro i z ⟨D,rfl⟩;refine al (fun e=>?_) (fun e=>?_)
 ·have d:i<l.length:=by
   have s:(i:Int)<(b.len:Int):=e;omega
  refine q.bx i rfl d (l[i].toNat:Int) rfl ?_;have w:qc xv (l[i].toNat:Int)=((vT 32 l[i].toNat).toNat:Int):=by rw[NC,wT]
  rw[w,Vn];refine aw (fun k:Nat=>(((BJ k (tU (l.take i)^^^vT 32 l[i].toNat)).toNat:Int),(k:Int))) (fun k h'=>k<=8/\h'=z) (fun k=>8-k) 0 rfl ⟨by omega,rfl⟩ ?_;rintro k p ⟨B,rfl⟩;obtain⟨c,g⟩:∃c,c=BJ k (tU (l.take i)^^^vT 32 l[i].toNat):=⟨_,rfl⟩
  dsimp only;rw[<-g];refine al (fun e2=>⟨by decide,?_⟩) (fun e2=>?_)
  ·have a:∀n:rX,n=Kk c->∃f:Nat,(((n.toNat:Nat):Int),qc xt ((k:Int)+1))=(((BJ f (tU (l.take i)^^^vT 32 l[i].toNat)).toNat:Int),(f:Int))/\(f<=8/\p=p)/\8-f<8-k:=fun n r=>
    ⟨k+1,by rw[ak _,r,g];rfl,⟨by omega,rfl⟩,by omega⟩
   have u:qc xv ((qC (qk xv) (c.toNat:Int)&&&qC (qk xv) (1:Int)).toNat:Nat)=((c&&&1#32).toNat:Int):=aft c 1#32;have y:qc xv ((qC (qk xv) ((c>>>1).toNat:Int)^^^qC (qk xv) (3988292384:Int)).toNat:Nat)=(((c>>>1)^^^3988292384#32).toNat:Int):=Vn (c>>>1) 3988292384#32;rw[u,acU,y];refine cI (fun j=>a _ ?_) (fun j=>a _ ?_)
   ·unfold Kk;rw[if_pos ((Uk c).1 j)]
   ·unfold Kk;rw[if_neg (fun x=>j ((Uk c).2 x))]
  ·have o:k=8:=by omega
   subst o;refine⟨i+1,?_,⟨by omega,rfl⟩,by omega⟩;rw[ak _,aI _ _ d,Vm,g];rfl
 ·have m:i=l.length:=by
   have s:¬(i:Int)<(b.len:Int):=e;omega
  subst m;refine⟨?_,rfl⟩;rw[qQ];exact congrArg (Value.int .u32) (Vn 4294967295#32 (tU l))
theorem Gv(a:Int)(b:Sl)(l:aX)(h:Heap)(A:Rd h b 1 aE l)(R:l.length<=2^40:=by omega):ac xx 205 #[xl xt a,b] h fun v h'=>∃r:Sl,v=r/\Sp h h' [ar 5 r 1 aE (eM a l)]:=by
 refine QO a b ?_;unfold KQ;have M:=A.len;have g:¬(1<=a/\a<=255/\l.length<=55)->∃r:Sl,Value.slice none 0 0=xn r.ptr r.len r.cap/\Sp h h [ar 5 r 1 aE (eM a l)]:=fun e=>by
  unfold eM;rw[if_neg e];exact⟨⟨none,0,0⟩,rfl,(Sp.refl h).nil 5 1 aE⟩
 refine be (al (fun e=>g (by omega)) fun P=>al (fun e=>g (by omega)) fun e2=>al (fun e=>g (by omega)) fun O=>?_);refine(Sp.refl h).make ae aE ga (by decide) 0 rfl rfl 64 64 rfl rfl (ql _) (by decide) fun o x n q J=>?_;rw[eu];refine J.lit ae aE ga rfl [87,115,1,b8 a] rfl (show 4*1<=2^20 by decide) rfl fun v3 h3 w=>?_;refine w.Kc ae 0 rfl ga (fun _=>rfl) (w.seq 1 rfl fun _=>rfl) gw fun _ m k=>⟨⟨by decide,by rw[n];decide⟩,?_⟩
 have k:Sp h m [ar 5 o 1 aE ([87,115,1,b8 a]++qg 60 0)]:=by
  have:=k.bK [0];simpa using this
 refine k.Qe ae 0 rfl ga (fun _=>rfl) (Seq.up A k.ai) gw 4 (by simp) rfl rfl fun _ B s=>⟨⟨by decide,by rw[q];decide⟩,?_⟩
 have K:([87,115,1,b8 a]++qg 60 0).take 4++(l.take (([87,115,1,b8 a]++qg 60 (0:UInt8)).length-4)++([87,115,1,b8 a]++qg 60 0).drop (4+l.length))=dT a l++qg 5 0:=by
  have L:([87,115,1,b8 a]++qg 60 (0:UInt8)).length=64:=by simp
  rw[L,qi (l:=l) (by omega),<-zH];have x:([87,115,1,b8 a]++qg 60 (0:UInt8)).drop 4=qg 60 0:=rfl;have h3:([87,115,1,b8 a]++qg 60 (0:UInt8)).take 4=[87,115,1,b8 a]:=rfl;rw[x,h3,List.drop_replicate];unfold dT;have m:qg (60-l.length) (0:UInt8)=qg (55-l.length) 0++qg 5 0:=by rw[List.replicate_append_replicate];congr 1;omega
  rw[m];simp[qp]
 rw[K]at s;have d:(dT a l).length=59:=Fl (by omega);have F:Rd B ⟨o.ptr,59,o.cap⟩ 1 aE (dT a l):=by
  have:=(s.seq 0 rfl fun _=>rfl).take 59 (by simp[d]);rw[yd (by omega),qi (by omega)]at this;exact this
 refine(aaG ⟨o.ptr,59,o.cap⟩ (dT a l) B F (by omega)).mono ?_;rintro _ S ⟨rfl,rfl⟩;obtain⟨c,y⟩:∃c,c=BL (dT a l):=⟨_,rfl⟩
 rw[<-y];refine⟨_,rfl,?_⟩;refine aw (fun i:Nat=>(i:Int)) (fun i h'=>i<=4/\Sp h h' [ar 5 o 1 aE (dT a l++((nM c).take i++qg (5-i) 0))]) (fun i=>4-i) 0 rfl ⟨by omega,by simpa using s⟩ ?_;rintro i N ⟨Q,z⟩;have f:=Qg c;refine al (fun e=>?_) (fun e=>?_)
 ·have G:i<4:=by
   have I:(i:Int)<4:=e;omega
  rw[ak ((8:Int)*i),ak ((59:Int)+i)];refine⟨by omega,?_⟩;have E:((8:Int)*(i:Int)).toNat=8*i:=by omega
  have D:min (8*i) (qk xv)=8*i:=by
   have:qk xv=32:=rfl;omega
  rw[E,D,eu];have H:b8 (qU (c.toNat:Int) (2^(8*i)))=(nM c)[i]'(by omega):=by simp[nM]
  rw[H];refine z.set ae 0 rfl (fun _=>rfl) rfl (59+i) (by omega) (by simp[d];omega) ((nM c)[i]'(by omega)) rfl rfl rfl fun h8 j=>?_;refine⟨i+1,by rw[ak _];rfl,⟨by omega,?_⟩,by omega⟩;have p:(dT a l++((nM c).take i++qg (5-i) 0)).set (59+i) ((nM c)[i]'(by omega))=dT a l++((nM c).take (i+1)++qg (5-(i+1)) 0):=by
   rw[zc _ _ (by omega),d,zq,zc _ _ (by simp;omega),aI _ _];have:5-i=(5-(i+1))+1:=by omega
   rw[this,yO];simp[f,Nat.min_eq_left (show i<=4 by omega)];rw[aI _ _ (show i<(nM c).length by omega),qp];rfl
  rw[p]at j;exact j
 ·have t:i=4:=by
   have I:¬(i:Int)<4:=e;omega
  subst t;refine z.set ae 0 rfl (fun _=>rfl) rfl 63 rfl (by simp[d,f]) 165 rfl rfl rfl fun h8 j=>⟨o,rfl,?_⟩
  have u:(dT a l++((nM c).take 4++qg (5-4) 0)).set 63 165=eM a l:=by
   unfold eM;rw[if_pos ⟨by omega,by omega,by omega⟩,<-y,qi (by omega),zc _ _ (by omega),d,zc _ _ (by simp[f])];simp[f]
  rw[u]at j;exact j
end Go.Qw
namespace Go.Vc
open Go Wl
abbrev eK:=ByteArray×Int×Int×Sl
abbrev bD:=Int×Int×Int×Int×Int×Int×Sl×Sl
abbrev bI(x:eK):aW:=[xp x.1,xl xt x.2.1,xl xt x.2.2.1,x.2.2.2]
abbrev aP(x:bD):aW:=[xl xt x.1,xl xt x.2.1,xl xt x.2.2.1,xl xt x.2.2.2.1,xl xt x.2.2.2.2.1,xl xt x.2.2.2.2.2.1,x.2.2.2.2.2.2.1,x.2.2.2.2.2.2.2]
abbrev eT(x:bD):Value:=xr #[xl xt x.1,xl xt x.2.1,xl xt x.2.2.1,xl xt x.2.2.2.1,xl xt x.2.2.2.2.1,xl xt x.2.2.2.2.2.1,x.2.2.2.2.2.2.1,x.2.2.2.2.2.2.2]
def nC:iJ eK Wl.bV:=⟨fun h q a b=>(a.1=b.name/\a.2.1=b.object/\a.2.2.1=b.length)/\Seq h q a.2.2.2 1 aD b.tries,fun a c=>⟨a.1,a.2.ai c⟩,fun a d=>⟨a.1,a.2.mono d⟩⟩
abbrev uE:iJ Sl (List Wl.bV):=cF nC 4 bI
structure uj (h:Heap) (q:aB) (x:bD) (m:aG):Prop where
 seq:x.1=m.seq
 next:x.2.1=m.next
 p:(x.2.2.1,x.2.2.2.1,x.2.2.2.2.1)=m.p
 extra:x.2.2.2.2.2.1=m.extra
 drives:Seq h q x.2.2.2.2.2.2.1 1 aD m.drives
 objs:uE.p h q x.2.2.2.2.2.2.2 m.objs
 dcap:x.2.2.2.2.2.2.1.len<=x.2.2.2.2.2.2.1.cap
 ocap:x.2.2.2.2.2.2.2.len<=x.2.2.2.2.2.2.2.cap
abbrev dK(h:Heap)(x:bD)(m:aG):Prop:=uj h (fun b=>b<h.size) x m
theorem uj.ai{h h':Heap}{q:aB}{x:bD}{m:aG}(a:uj h q x m)(b:aU q h h'):uj h' q x m:=⟨a.seq,a.next,a.p,a.extra,a.drives.ai b,uE.loc a.objs b,a.dcap,a.ocap⟩
theorem uj.mono{h:Heap}{q q':aB}{x:bD}{m:aG}(a:uj h q x m)(c:∀b,q b->q' b):uj h q' x m:=⟨a.seq,a.next,a.p,a.extra,a.drives.mono c,uE.mono a.objs c,a.dcap,a.ocap⟩
theorem dK.up{h h':Heap}{x:bD}{m:aG}(a:dK h x m)(c:aU (fun b=>b<h.size) h h'):dK h' x m:=(uj.ai a c).mono fun _ d=>qY d c.1
def bU(x:bD)(m:aG):HP:=⟨fun h q=>uj h q x m,fun a b=>a.ai b,fun a c=>a.mono c⟩
theorem Uw:∀x,∀c∈bI x,c.oneCell'=true:=by intro x c a;simp[bI]at a;rcases a with rfl|rfl|rfl|rfl<;>rfl
end Go.Vc
namespace Go.Qw
open Go Go.Vc Go.Proofs Wl
theorem ro(n a b:Int)(h:Heap):ac xx 189 #[xl xt n,xl xt a,xl xt b] h fun v h'=>v=xq (fd n a b)/\h'=h:=by
 refine KO n a b ?_;unfold Em fd;refine al (fun e=>⟨?_,rfl⟩) (fun e=>⟨?_,rfl⟩)
 ·rw[decide_eq_true (show a<=n from e)];rfl
 ·rw[decide_eq_false (show¬a<=n from e)];rfl
theorem Oc(s:ByteArray)(h:Heap)(G:s.size<=2^40):ac xx 122 #[xp s] h fun v h'=>v=xq (jv s)/\Sp h h' []:=by
 refine OQ s ?_;unfold Ip;refine acV ae ⟨_,rfl,rfl⟩ ⟨_,rfl,rfl⟩ ⟨_,rfl,rfl⟩ s fun r E o=>?_;have w:=o.rd 0 rfl;have z:=w.len;have D:=CT s;refine aw (fun i:Nat=>(i:Int)) (fun i h'=>i<=s.size/\h'=E/\∀c∈(iG s).take i,mb c=true) (fun i=>s.size-i) 0 rfl ⟨by omega,rfl,by simp⟩ ?_;rintro i p ⟨F,rfl,d⟩;refine al (fun e=>?_) (fun e=>?_)
 ·have j:i<(iG s).length:=by
   have A:(i:Int)<(r.len:Int):=e;omega
  refine w.bx i rfl j ((iG s)[i].toNat:Int) rfl ?_;obtain⟨c,q⟩:∃c,c=(iG s)[i]:=⟨_,rfl⟩
  rw[<-q];have a:mb c=true->∃n:Nat,qc xt ((i:Int)+1)=(n:Int)/\(n<=s.size/\p=p/\∀c∈(iG s).take n,mb c=true)/\s.size-n<s.size-i:=fun t=>
   ⟨i+1,by rw[ak _];rfl,⟨by omega,rfl,fun x k=>by
    rw[aI _ _ j]at k;rcases qA.1 k with k|k
    ·exact d x k
    ·rw[qG.1 k,<-q];exact t⟩,by omega⟩
  have g:mb c=false->Value.bool false=xq (jv s)/\Sp h p []:=fun t=>by
   refine⟨?_,o.bK []⟩;unfold jv;have:s.data.toList.all mb=false:=yh.2 ⟨c,by rw[q];exact qh j,by rw[t];simp⟩;rw[this];rfl
  have b:mb c=true↔((97<=(c.toNat:Int)/\(c.toNat:Int)<=122)∨(48<=(c.toNat:Int)/\(c.toNat:Int)<=57)∨(c.toNat:Int)=45):=by
   unfold mb;simp[or_assoc];omega
  have f:mb c=false↔¬((97<=(c.toNat:Int)/\(c.toNat:Int)<=122)∨(48<=(c.toNat:Int)/\(c.toNat:Int)<=57)∨(c.toNat:Int)=45):=by
   rw[<-b];cases mb c<;>simp
  refine al (fun u=>al (fun e2=>ca (fun l=>g (f.2 (by omega))) fun l=>a (b.2 (by omega))) fun e2=>al (fun l=>ca (fun m=>g (f.2 (by omega))) fun m=>a (b.2 (by omega))) fun l=>a (b.2 (by omega))) fun u=>al (fun e2=>al (fun l=>ca (fun m=>g (f.2 (by omega))) fun m=>a (b.2 (by omega))) fun l=>al (fun m=>ca (fun B=>g (f.2 (by omega))) fun B=>a (b.2 (by omega))) fun m=>a (b.2 (by omega))) fun e2=>a (b.2 (by omega))
 ·have A:¬(i:Int)<(r.len:Int):=e;rw[qi (by omega)]at d;have y:s.data.toList.all mb=true:=qN.2 d;refine al (fun u=>⟨?_,o.bK []⟩) (fun u=>⟨?_,o.bK []⟩)
  ·unfold jv;rw[y,decide_eq_true (show 1<=s.size by omega)];congr 1;simp;omega
  ·unfold jv;rw[y,decide_eq_false (show¬1<=s.size by omega)];rfl
theorem Yf(s:Sl)(l:aC)(a:Int)(h:Heap)(r:Rd h s 1 aD l)(y:l.length<=2^40):ac xx 190 #[s,xl xt a] h fun v h'=>v=xq (oN l a)/\h'=h:=by
 refine OT s a ?_;unfold Is;have w:=r.len;refine aw (fun i:Nat=>(i:Int)) (fun i h'=>i<=l.length/\h'=h/\∀j,j<i->jl l a j=true) (fun i=>l.length-i) 0 rfl ⟨by omega,rfl,by omega⟩ ?_;rintro i m ⟨z,rfl,b⟩;refine al (fun e=>?_) (fun e=>?_)
 ·have d:i<l.length:=by
   have t:(i:Int)<(s.len:Int):=e;omega
  refine r.bx i rfl d l[i] rfl ?_;have n:l.getD i 0=l[i]:=getD_lt d;have k:jl l a i=false->Value.bool false=xq (oN l a)/\m=m:=fun p=>⟨by unfold oN;rw[Fm d p],rfl⟩
  have c:jl l a i=true->∃o:Nat,qc xt ((i:Int)+1)=(o:Int)/\(o<=l.length/\m=m/\∀j,j<o->jl l a j=true)/\l.length-o<l.length-i:=fun p=>
   ⟨i+1,by rw[ak _];rfl,⟨by omega,rfl,fun j x=>by
    by_cases q:j=i
    ·rw[q];exact p
    ·exact b j (by omega)⟩,by omega⟩
  refine(ro l[i] 0 a m).mono ?_;rintro _ _ ⟨rfl,rfl⟩;refine⟨_,rfl,bh (fun g=>k (by unfold jl;rw[n,g];rfl)) fun g=>al (fun e2=>?_) fun e2=>c (by unfold jl;rw[n,g,decide_eq_true (show i=0 by omega)];rfl)⟩;rw[ak ((i:Int)-1)];refine r.bx (i-1) (by omega) (by omega) (l[i-1]'(by omega)) rfl ?_;have f:l.getD (i-1) 0=l[i-1]'(by omega):=getD_lt;refine al (fun u=>k ?_) (fun u=>c ?_)
  ·unfold jl;rw[n,f,g,decide_eq_false (show¬i=0 by omega),decide_eq_false (by omega)];rfl
  ·unfold jl;rw[n,f,g,decide_eq_true (show l[i-1]'(by omega)<l[i]by omega)];simp
 ·have t:¬(i:Int)<(s.len:Int):=e;exact⟨by unfold oN;rw[sX fun j x=>b j (by omega)],rfl⟩
theorem uk(p:Pm)(n:Int)(h:Heap)(m:n<=2^40:=by omega):ac xx 56 #[kh p,xl xt n] h fun v h'=>v=xl xt (countP p n)/\Sp h h' []:=by
 refine Kz p n ?_;unfold Eb;refine(Sp.refl h).boxed fun r g d=>?_;refine be ⟨p,(d.box 0 rfl).aL _ rfl,(ey p g).mono ?_⟩;rintro _ j ⟨rfl,l⟩;have b:=d.up l.ai;refine⟨_,rfl,bh (fun e=>⟨?_,b.bK []⟩) fun f=>al (fun e=>⟨?_,b.bK []⟩) fun e=>?_⟩
 ·unfold countP;rw[e];rfl
 ·unfold countP;rw[decide_eq_false (show¬0<n by omega),Bool.and_false];rfl
 ·have i:=(bM p).1 f;refine⟨p,(b.box 0 rfl).aL _ rfl,?_⟩;refine(BX p (R:=fun v h'=>v=xl xt (p.1*p.2.2)/\Sp h h' []) ?_).mono ?_
  ·unfold ww;refine b.boxed fun o h3 c=>⟨p.1,(c.box 1 rfl).cell0 rfl,p.2.2,(c.box 1 rfl).cell rfl,?_,c.bK []⟩
   have q:p.1*p.2.2<=16*24:=wF (by omega) (by omega) (by omega) (by omega);have a:0<=p.1*p.2.2:=vg (by omega) (by omega);rw[ak _]
  ·rintro _ h3 ⟨rfl,k⟩;have a:0<p.1*p.2.2:=vY (by omega) (by omega);refine⟨_,rfl,Int.ne_of_gt a,?_,k⟩;have g:(n-1)/(p.1*p.2.2)<=n-1:=Int.ediv_le_self _ (by omega);have j:0<=(n-1)/(p.1*p.2.2):=Int.ediv_nonneg (by omega) (by omega);rw[ak (n-1),Int.tdiv_eq_ediv_of_nonneg (by omega),ak ((n-1)/(p.1*p.2.2)),ak _];unfold countP;rw[f,decide_eq_true (show 0<n by omega)];rfl
theorem SZ(s:Sl)(l:aC)(h:Heap)(f:Rd h s 1 aD l)(k:l.length<=2^40):ac xx 134 #[s,.func (.func 271) #[] #[]] h fun v h'=>v=xq (!l.all (fd · 0 15))/\h'=h:=by
 refine jC s (271,#[],#[]) ?_;unfold gV;have j:=f.len;refine(ic s (271,#[],#[]) (R:=fun v h'=>(∃i:Int,v=xl xt i/\(decide (i>=0)=!l.all (fd · 0 15)))/\h'=h) ?_).mono ?_
 ·unfold fU;refine aw (fun i:Nat=>(i:Int)) (fun i h'=>i<=l.length/\(l.take i).all (fd · 0 15)=true/\h'=h) (fun i=>l.length-i) 0 rfl ⟨by omega,by simp,rfl⟩ ?_;rintro i c ⟨d,a,rfl⟩;refine al (fun e=>?_) (fun e=>?_)
  ·have b:i<l.length:=by
    have g:(i:Int)<(s.len:Int):=e;omega
   refine f.bx i rfl b l[i] rfl (ee (by rfl) ?_);refine(Jo l[i] (R:=fun v h'=>v=xq (!fd l[i] 0 15)/\h'=c) ?_).mono ?_
   ·unfold Ch;refine(ro l[i] 0 15 c).mono ?_;rintro _ _ ⟨rfl,rfl⟩;exact⟨_,rfl,rfl,rfl⟩
   ·rintro _ _ ⟨rfl,rfl⟩;refine⟨_,rfl,bh (fun e2=>?_) (fun e2=>?_)⟩
    ·refine⟨⟨i,rfl,?_⟩,rfl⟩;rw[decide_eq_true (show(i:Int)>=0 by omega)];have:l.all (fd · 0 15)=false:=yh.2 ⟨_,qh b,by rw[e2];simp⟩;rw[this];rfl
    ·refine⟨i+1,by rw[ak _];rfl,⟨by omega,?_,rfl⟩,by omega⟩;rw[aI _ _ b,yH,a];simp[e2]
  ·have g:¬(i:Int)<(s.len:Int):=e;refine⟨⟨-1,rfl,?_⟩,rfl⟩;rw[qi (by omega)]at a;rw[a];rfl
 ·rintro _ c ⟨⟨i,rfl,d⟩,rfl⟩;exact⟨i,rfl,by rw[d],rfl⟩
end Go.Qw
namespace Wl
structure cO (m:aG):Prop where
 dr:m.drives.length<=2^30
 ob:m.objs.length<=2^30
 nm:∀e∈m.objs,e.name.size<=2^30/\e.tries.length<=2^30
end Wl
namespace Go.Vc
open Go
theorem addr_add(a:Addr)(i j:Nat):(a.add i).add j=a.add (i+j):=by
 unfold Addr.add;by_cases b:i=0<;>by_cases c:j=0<;>simp[b,c,w8]
theorem bX.tK{h:Heap}{a:Addr}{e:TypeId}{b:aW}{v:Value}(c:bX h a e b)(i j:Nat)(d:b[i+j]?=some v):cellOf h ((a.add i).add j)=some v:=by
 rw[addr_add];exact c.cell d
theorem bX.HJ{h:Heap}{a:Addr}{e:TypeId}{b:aW}{u v w:Value}(c:bX h a e b)(i:Nat)(h0:b[i]?=some u)(f:b[i+1]?=some v)(d:b[i+2]?=some w):aj h (a.add i) 0 [u,v,w]:=
 ⟨c.tK i 0 h0,c.tK i 1 f,c.tK i 2 d,trivial⟩
end Go.Vc
namespace Go.Qw
open Go Go.Vc Go.Proofs Wl
abbrev aaH:bW C.toBE 57 105 4 [xp ⟨#[]⟩,xl xt 0,xl xt 0,xn none 0 0] 56:=⟨_,_,rfl,rfl,rfl,rfl,rfl,rfl⟩
theorem VR(x:bD)(m:aG)(e:eK)(E:Wl.bV)(h:Heap)(i:dK h x m)(K:fx nC h e E)(H:kl m=true)(L:E.name.size<=2^30)(O:E.tries.length<=2^30):
  ac xx 191 #[eT x,xr #[xp e.1,xl xt e.2.1,xl xt e.2.2.1,e.2.2.2]] h fun v h'=>v=xq (gz m E)/\Sp h h' []:=by
 refine MS x e ?_;unfold Ga;obtain⟨_,B,d,_⟩:=Qh H;have z:=(bM m.p).1 d;obtain⟨⟨G,e2,s⟩,w⟩:=K;have g:x.2.2.1=m.p.1:=congrArg (·.1) i.p;have n:x.2.2.2.1=m.p.2.1:=congrArg (·.2.1) i.p;have c:x.2.2.2.2.1=m.p.2.2:=congrArg (·.2.2) i.p;have P:m.p.1*m.p.2.2<=16*24:=wF (by omega) (by omega) (by omega) (by omega);have D:0<=m.p.1*m.p.2.2:=vg (by omega) (by omega);refine(Sp.refl h).boxed fun Q R J=>?_;refine J.boxed fun N A t=>?_;have k:∀{h':Heap} {As:List HP},Sp h h' As->gz m E=false->Value.bool false=xq (gz m E)/\Sp h h' []:=fun{h' As} H' f=>⟨by rw[f],.zip H'.ai⟩
 refine be ⟨E.name,by rw[<-G];exact(t.box 1 rfl).cell0 rfl,(Oc E.name A (by omega)).mono ?_⟩;rintro _ h3 ⟨rfl,F⟩;have a:=t.up F.ai;refine⟨_,rfl,bh (fun b=>k a (by unfold gz;rw[b];rfl)) fun l=>?_⟩;refine⟨E.object,by rw[<-e2];exact(a.box 1 rfl).cell rfl,m.next,by rw[<-i.next];exact(a.box 0 rfl).cell rfl,?_⟩;rw[ak (m.next-1)];refine(ro E.object 0 (m.next-1) h3).mono ?_;rintro _ _ ⟨rfl,rfl⟩;refine⟨_,rfl,bh (fun b=>k a (by unfold gz;rw[l,b];rfl)) fun o=>?_⟩;have f:=a.box 0 rfl;refine⟨E.length,by rw[<-s];exact(a.box 1 rfl).cell rfl,m.p.1,by rw[<-g];exact f.cell rfl,m.p.2.2,by rw[<-c];exact f.tK 2 2 rfl,?_⟩;rw[ak (m.p.1*m.p.2.2),ak (m.p.1*m.p.2.2*8)];refine(ro E.length 0 (m.p.1*m.p.2.2*8) _).mono ?_;rintro _ _ ⟨rfl,rfl⟩;refine⟨_,rfl,bh (fun b=>k a (by unfold gz;rw[l,o,b];rfl)) fun j=>?_⟩;have u:0<=E.length/\E.length<=m.p.1*m.p.2.2*8:=by unfold fd at j;simpa using j
 refine⟨e.2.2.2,(a.box 1 rfl).cell rfl,?_⟩;refine(SZ e.2.2.2 E.tries _ (Seq.up w a.ai) (by omega)).mono ?_;rintro _ _ ⟨rfl,rfl⟩;refine⟨_,rfl,bh (fun b=>?_) (fun b=>⟨trivial,k a ?_⟩)⟩
 ·have q:E.tries.all (fd · 0 15)=true:=by simpa using b
  refine⟨e.2.2.2,(a.box 1 rfl).cell rfl,m.p,?_,E.length,by rw[<-s];exact(a.box 1 rfl).cell rfl,?_⟩
  ·rw[<-g,<-n,<-c];exact f.HJ 2 rfl rfl rfl
  ·refine(uk m.p E.length _).mono ?_;rintro _ M ⟨rfl,y⟩;have r:=a.up y.ai;refine⟨_,rfl,⟨(r.box 1 rfl).cell rfl,trivial⟩,?_,.zip r.ai⟩;unfold gz;have I:=w.len;rw[l,o,j,q,I];simp;rfl
 ·have q:E.tries.all (fd · 0 15)=false:=by simpa using b
  unfold gz;rw[l,o,j,q];rfl
theorem Ta(a:Addr)(e:eK)(l:Sl)(b:List Wl.bV)(h:Heap)(p:bX h a 105 (bI e))(o:fx uE h l b)(F:b.length<=2^30):
  ac xx 192 #[l,.func (.func 193) #[] #[xo (some a)]] h fun v h'=>v=xq (b.any fun y=>decide (y.object=e.2.1))/\Sp h h' []:=by
 refine fZ l (193,#[],#[xo (some a)]) ?_;unfold eJ;refine(gG l (193,#[],#[xo (some a)]) (R:=fun v h'=>(∃i:Int,v=xl xt i/\(decide (i>=0)=b.any fun y=>decide (y.object=e.2.1)))/\Sp h h' []) ?_).mono ?_
 ·unfold ff;obtain⟨q,A,D,B⟩:=cF.oK o;have w:=cF.len o;refine aw (fun i:Nat=>(i:Int)) (fun i h'=>i<=b.length/\(b.take i).any (fun y=>decide (y.object=e.2.1))=false/\Sp h h' []) (fun i=>b.length-i) 0 rfl ⟨by omega,by simp,Sp.refl h⟩ ?_;rintro i n ⟨r,c,j⟩;refine al (fun k=>?_) (fun k=>?_)
  ·have d:i<b.length:=by
    have t:(i:Int)<(l.len:Int):=k;omega
   obtain⟨⟨_,x,_⟩,_⟩:=B i (by omega) d;refine(Seq.up A j.ai).dt (g:=bI) i rfl (by omega) (q[i]'(by omega)) rfl (ee (by rfl) ?_);refine(MT (q[i]'(by omega)) a (R:=fun v h'=>v=xq (b[i].object==e.2.1)/\Sp n h' []) ?_).mono ?_
   ·unfold Gb;refine(Sp.refl n).boxed fun E s f=>?_;have m:=p.ai (up j.ai f.ai) p.lt;exact⟨b[i].object,by rw[<-x];exact(f.box 0 rfl).cell rfl,e.2.1,m.cell rfl,rfl,.zip f.ai⟩
   ·rintro _ s ⟨rfl,z⟩;have f:=j.up z.ai;refine⟨_,rfl,cI (fun e2=>?_) (fun e2=>?_)⟩
    ·refine⟨⟨i,rfl,?_⟩,f⟩;rw[decide_eq_true (show(i:Int)>=0 by omega)];exact(wV.2 ⟨_,qh d,by simpa using e2⟩).symm
    ·refine⟨i+1,by rw[ak _];rfl,⟨by omega,?_,f⟩,by omega⟩;rw[aI _ _ d,y6,c];simpa using e2
  ·have t:¬(i:Int)<(l.len:Int):=k;refine⟨⟨-1,rfl,?_⟩,j⟩;rw[qi (by omega)]at c;rw[c];rfl
 ·rintro _ n ⟨⟨i,rfl,r⟩,u⟩;exact⟨i,rfl,by rw[r],u⟩
theorem Jw(x:bD)(m:aG)(h:Heap)(c:dK h x m)(J:cO m):ac xx 100 #[eT x] h fun v h'=>v=xq (bO m)/\Sp h h' []:=by
 refine QJ x ?_;unfold KC;refine(Sp.refl h).boxed fun R h1 G=>?_;have r:=G.box 0 rfl;have L:x.2.2.1=m.p.1:=congrArg (·.1) c.p;have P:x.2.2.2.1=m.p.2.1:=congrArg (·.2.1) c.p;have M:x.2.2.2.2.1=m.p.2.2:=congrArg (·.2.2) c.p;have A:∀{h':Heap} {As:List HP},Sp h h' As->bO m=false->Value.bool false=xq (bO m)/\Sp h h' []:=fun{h' As} H' r=>⟨by rw[r],.zip H'.ai⟩
 refine be ⟨m.seq,by rw[<-c.seq];exact r.cell0 rfl,(ro m.seq 1 2147483647 h1).mono ?_⟩;rintro _ _ ⟨rfl,rfl⟩;refine⟨_,rfl,bh (fun b=>A G (by unfold bO kl;rw[b];rfl)) fun H=>?_⟩;refine⟨m.next,by rw[<-c.next];exact r.cell rfl,(ro m.next 0 16777216 _).mono ?_⟩;rintro _ _ ⟨rfl,rfl⟩;refine⟨_,rfl,bh (fun b=>A G (by unfold bO kl;rw[H,b];rfl)) fun T=>?_⟩;refine⟨m.p,by rw[<-L,<-P,<-M];exact r.HJ 2 rfl rfl rfl,(ey m.p _).mono ?_⟩;rintro _ h2 ⟨rfl,R2⟩;have n:=G.up R2.ai;refine⟨_,rfl,bh (fun b=>A n (by unfold bO kl;rw[H,T,b];rfl)) fun X=>?_⟩;refine⟨m.extra,by rw[<-c.extra];exact(n.box 0 rfl).cell rfl,(ro m.extra 0 16 _).mono ?_⟩;rintro _ _ ⟨rfl,rfl⟩;refine⟨_,rfl,bh (fun b=>A n (by unfold bO kl;rw[H,T,X,b];rfl)) fun b4=>?_⟩;have F:kl m=true:=by unfold kl;rw[H,T,X,b4];rfl
 have I:=c.up n.ai;have u:=n.box 0 rfl;have am:=J.dr;have ad:=J.ob;refine be ⟨_,u.cell rfl,(Yf _ m.drives 63 _ I.drives (by omega)).mono ?_⟩;rintro _ _ ⟨rfl,rfl⟩;refine⟨_,rfl,bh (fun b=>A n (by unfold bO;rw[F,b];rfl)) fun V=>?_⟩;have W:=cF.len c.objs;refine⟨x.2.2.2.2.2.2.2,u.cell rfl,al (fun e=>A n ?_) fun ah=>?_⟩
 ·unfold bO;rw[F,V,decide_eq_false (by omega)];rfl
 have S:m.objs.length<=12:=by omega
 refine⟨x.2.2.2.2.2.2.2,u.cell rfl,?_⟩;obtain⟨l,B⟩:=cF.fix c.objs;have ab:=B.2.1;refine aw (fun i:Nat=>(i:Int)) (fun i h'=>i<=m.objs.length/\(∀j,j<i->oO m j=true)/\Sp h h' [aq R 59 (aP x)]) (fun i=>m.objs.length-i) 0 rfl ⟨by omega,by omega,n⟩ ?_;rintro i h3 ⟨hi,q,N⟩;refine al (fun e=>?_) (fun e=>?_)
 ·have k:i<m.objs.length:=by
   have e':(i:Int)<(x.2.2.2.2.2.2.2.len:Int):=e;omega
  have D:=J.nm _ (qh k);have f:oM m.objs i=m.objs[i]:=nN k;have z:∀{h':Heap} {As:List HP},Sp h h' As->oO m i=false->Value.bool false=xq (bO m)/\Sp h h' []:=fun{h' As} H' r=>A H' (by unfold bO;rw[Fm k r];simp);have F3:=nk.up B N.ai;refine F3.1.dt (g:=bI) i rfl (by omega) (l[i]'(by omega)) rfl ?_;refine N.alloc ae rfl fun s h4 H4=>?_;refine H4.storeAll ae 1 rfl rfl (bI (l[i]'(by omega))) rfl rfl rfl rfl fun Z w=>?_;have w:Sp h Z [aq R 59 (aP x),aq s 105 (bI (l[i]'(by omega)))]:=w;have Y:=nk.up B w.ai;obtain⟨⟨y1,y2,y3⟩,y4⟩:=Fix.row Y k;obtain⟨b6,d⟩:∃b,b=(decide (i=0)||eU (oM m.objs (i-1)).name (oM m.objs i).name):=⟨_,rfl⟩
  refine cl (fun _ h'=>gz m m.objs[i]=true/\b6=true/\Sp h h' [aq R 59 (aP x),aq s 105 (bI (l[i]'(by omega)))]) ?_ ?_
  ·refine⟨x,(w.box 0 rfl).aL _ rfl,l[i]'(by omega),(w.box 1 rfl).aL _ rfl,?_⟩;refine(VR x m (l[i]'(by omega)) m.objs[i] Z (c.up w.ai) (Fix.row Y k) F D.1 D.2).mono ?_;rintro _ h6 ⟨rfl,R6⟩;have a:=w.up R6.ai;have E:=nk.up B a.ai;refine⟨_,rfl,trivial,bh (fun b=>z a (by unfold oO;rw[f,b];rfl)) fun b=>al (fun e2=>?_) fun e2=>⟨b,by rw[d,decide_eq_true (show i=0 by omega)];rfl,a⟩⟩;rw[ak ((i:Int)-1)];obtain⟨U,ha,zz,hc,rfl⟩:=E.1.dt (g:=bI) (i:=(i:Int)-1) (i-1) (by omega) (by omega) (l[i-1]'(by omega)) rfl (K:=fun t=>t=l[i-1]'(by omega)) rfl;refine⟨x.2.2.2.2.2.2.2,(a.box 0 rfl).cell rfl,U,ha,m.objs[i-1].name,?_,m.objs[i].name,?_,?_⟩
   ·rw[<-(Fix.row E (show i-1<m.objs.length by omega)).1.1];exact hc.1
   ·rw[<-y1];exact(a.box 1 rfl).cell0 rfl
   ·have o:oM m.objs (i-1)=m.objs[i-1]:=nN;rw[f,o]at d;refine bh (fun y=>z a ?_) (fun y=>⟨b,?_,a⟩)
    ·unfold oO;rw[f,o,b,decide_eq_false (show¬i=0 by omega)];unfold eU;rw[y];rfl
    ·rw[d];unfold eU;rw[y];simp
  ·rintro _ h6 ⟨b,Q,a⟩;have E:=nk.up B a.ai;refine⟨x.2.2.2.2.2.2.2,(a.box 0 rfl).cell rfl,⟨by omega,by have:=c.ocap;omega⟩,?_⟩;rw[qo];refine(Ta s (l[i]'(by omega)) ⟨x.2.2.2.2.2.2.2.ptr,i,x.2.2.2.2.2.2.2.cap⟩ (m.objs.take i) h6 (a.box 1 rfl) (cF.take E.elt i (by omega)) (by simp;omega)).mono ?_;rintro _ h7 ⟨rfl,R7⟩;have H7:=a.up R7.ai;rw[y2];refine⟨_,rfl,bw (fun y=>z H7 ?_) fun y=>?_⟩
   ·unfold oO;rw[f,y];simp
   ·refine⟨i+1,by rw[ak _];rfl,⟨by omega,fun j hj=>?_,H7.bK [0]⟩,by omega⟩;by_cases O:j=i
    ·subst O;rw[Q]at d;unfold oO;rw[<-d,f,b,y];rfl
    ·exact q j (by omega)
 ·have e':¬(i:Int)<(x.2.2.2.2.2.2.2.len:Int):=e;refine⟨?_,.zip N.ai⟩;unfold bO;rw[F,V,decide_eq_true S,sX fun j hj=>q j (by omega)];rfl
section
variable {B:aB} {h0 h:Heap} {As:List HP}
theorem rO(s:Sl)(l:aX)(n:Int)(k:Nat)(u:k<=4)(r:l.length<=2^20)(H:aa B h0 h (ar 5 s 1 aE l::As)):
  ac xx 204 #[s,xl xt n,xl xt k] h fun v h'=>∃b:Sl,v=b/\aa B h0 h' (ar 5 b 1 aE (l++bN n k)::As):=by
 refine KP s n k ?_;unfold En;have f:=co n k;refine aw (fun t:Sl×Nat=>(t.1,(k:Int)-1-t.2)) (fun t h'=>t.2<=k/\aa B h0 h' (ar 5 t.1 1 aE (l++(bN n k).take t.2)::As)) (fun t=>k-t.2) (s,0) (by rw[ak _];simp) ⟨by simp,by simpa using H⟩ ?_;rintro⟨o,j⟩ x ⟨w,a⟩;dsimp only at*;refine al (fun e=>?_) (fun e=>?_)
 ·have g:j<k:=by omega
  rw[ak ((8:Int)*((k:Int)-1-j))];refine⟨by omega,?_⟩;have d:((8:Int)*((k:Int)-1-j)).toNat=8*(k-1-j):=by omega
  have c:min (8*(k-1-j)) (qk xt)=8*(k-1-j):=by
   have:qk xt=64:=rfl;omega
  rw[d,c,eu];have m:b8 (qU n (2^(8*(k-1-j))))=(bN n k)[j]'(by omega):=by simp[bN]
  rw[m];refine a.push ae 0 rfl ga rfl (by decide) (fun _=>rfl) gw ((bN n k)[j]'(by omega)) rfl (by decide) (by simp;omega) fun i q p=>?_;refine⟨(i,j+1),by dsimp only;rw[ak _];congr 1;omega,⟨by dsimp only;omega,?_⟩,by dsimp only;omega⟩;dsimp only;rw[aI _ _ (show j<(bN n k).length by omega),<-qp];exact p
 ·rw[qi (by omega)]at a;exact⟨o,rfl,a⟩
theorem Ll(b:Sl)(l:aC)(o:Sl)(c:aX)(H:aa B h0 h (ar 5 o 1 aE c::As))(r:St B h0 As fun h=>Rd h b 1 aD l)(F:c.length<=2^30)(E:l.length<=2^30){K:Sl×Int->Heap->Prop}
  (w:∀q h',aa B h0 h' (ar 5 q 1 aE (c++l.map b8)::As)->K (q,(l.length:Int)) h'):
  aJ (σ:=Sl×Int) (fun a v h8=>
 Br (decide (a.2<((b.len:Nat):Int)))
 (∃j:Addr,(b.ptr=some j/\0<=a.2/\a.2<((b.len:Nat):Int))/\
 ∃k:Int,cellOf h8 (j.add (a.2.toNat*1))=some (xl xt k)/\
 az xx (Instr.buildSlice 35 1 #[(0,(xl xu (qc xu k)))]) (.one (.sc .slc)) h8 fun f s=>
 az xx (Builtin.append_ #[35,35] 35 #[(xn a.1.ptr a.1.len a.1.cap),(xn f.ptr f.len f.cap)]) (.one (.sc .slc)) s fun d n=>
 v ((⟨d.ptr,d.len,d.cap⟩:Sl),qc xt (a.2+(1:Int))) n)
 (K a h8)) (o,(0:Int)) h:=by
 have y:b.len=l.length:=(r.at [_] H).len;refine aw (fun t:Sl×Nat=>(t.1,(t.2:Int))) (fun t h'=>t.2<=l.length/\aa B h0 h' (ar 5 t.1 1 aE (c++(l.take t.2).map b8)::As)) (fun t=>l.length-t.2) (o,0) rfl ⟨by simp,by simpa using H⟩ ?_;rintro⟨u,i⟩ A ⟨G,m⟩;dsimp only at*;refine al (fun e=>?_) (fun e=>?_)
 ·have g:i<l.length:=by omega
  refine(r.at [_] m).bx i rfl g l[i] rfl ?_;rw[eu];refine m.push ae 0 rfl ga rfl (by decide) (fun _=>rfl) gw (b8 l[i]) rfl (by decide) (by simp;omega) fun z D x=>?_;refine⟨(z,i+1),by dsimp only;rw[ak _];rfl,⟨by dsimp only;omega,?_⟩,by dsimp only;omega⟩;dsimp only;rw[aI _ _ g,qT,<-qp];exact x
 ·have p:i=l.length:=by omega
  subst p;rw[qQ]at m;exact w u A m
end
theorem adq{m:aG}(a:bO m=true){i:Nat}(b:i<m.objs.length):gz m m.objs[i]=true:=by
 unfold bO at a;simp only[qz]at a;have:=qN.1 a.2.2.2 i (qD.2 b);unfold oO at this;simp only[qz]at this;have c:=this.1
 rwa [nN b]at c
theorem Yg{m:aG}(c:bO m=true){i:Nat}(h:i<m.objs.length):m.objs[i].name.size<=12/\m.objs[i].tries.length<=3073:=by
 have b:=adq c h;unfold gz jv at b;simp only[qz,decide_eq_true_eq]at b;obtain⟨⟨_,_,f⟩,_,h3,_,d⟩:=b;refine⟨f,?_⟩;obtain⟨_,_,a,_⟩:=Qh (Xx c);have e:=(bM m.p).1 a;unfold fd at h3;simp only[qz,decide_eq_true_eq]at h3;have j:m.p.1*m.p.2.2<=16*24:=wF (by omega) (by omega) (by omega) (by omega);unfold countP at d;split at d
 ·have:(m.objs[i].length-1)/(m.p.1*m.p.2.2)<=m.objs[i].length-1:=Int.ediv_le_self _ (by rename_i g;simp at g;omega);omega
 ·omega
theorem Yh{m:aG}(a:bO m=true){i:Nat}(b:i<m.objs.length):(iP m.objs[i]).length<=4000:=by
 have:=Yg a b;unfold iP;simp[co];have:m.objs[i].name.data.size=m.objs[i].name.size:=rfl;omega
theorem Gw{m:aG}(a:bO m=true):∀n,n<=m.objs.length->((m.objs.take n).flatMap iP).length<=n*4000
 |0,_=>by simp
 |n+1,hn=>by
  rw[aI _ _ (show n<m.objs.length by omega),zh,qx];have c:=Gw a n (by omega);have b:=Yh a (show n<m.objs.length by omega);have h3:([m.objs[n]].flatMap iP).length=(iP m.objs[n]).length:=by rw[zl,z8,qS]
  omega
theorem Jx{m:aG}(a:bO m=true):m.objs.length<=12:=by
 unfold bO at a;simp only[qz,decide_eq_true_eq]at a;exact a.2.2.1
theorem Jy(m:aG)(j:cO m):(gp m).length<=100000:=by
 unfold gp;split
 ·rename_i b;have f:=b;unfold bO at f;simp only[qz,decide_eq_true_eq]at f;have k:m.drives.length<=64:=by
   have a:=f.2.1;unfold oN at a;rw[qN]at a;by_cases g:m.drives.length<=64
   ·exact g
   ·exfalso;have c:∀i,i<m.drives.length->(i:Int)<=m.drives.getD i 0:=fun i=>by
     induction i with
     |zero=>
      intro e;have:=a 0 (qD.2 e);unfold jl fd at this;simp at this;simpa using this.1
     |succ i ih=>
      intro e;have:=a (i+1) (qD.2 e);have h3:=ih (by omega);unfold jl fd at this;simp at this;have d:=this.2;simp only[qe]at h3⊢;omega
    have h3:=c 64 (by omega);have d:=a 64 (qD.2 (by omega));unfold jl fd at d;simp at d;simp only[qe]at h3;omega
  have h:(m.objs.flatMap iP).length<=12*4000:=by
   have a:=Gw b m.objs.length (ql _);rw[qQ]at a;have:=zu 4000 (Jx b);omega
  simp only[qx,q9,yt,qu,co];omega
 ·simp
theorem Yi(x:bD)(m:aG)(h:Heap)(d:dK h x m)(T:cO m):ac xx 116 #[eT x] h fun v h'=>∃r:Sl,v=r/\Sp h h' [ar 5 r 1 aE (gp m)]:=by
 refine OP x ?_;unfold Io;refine(Sp.refl h).boxed fun a1 h1 H1=>?_;refine⟨x,(H1.box 0 rfl).aL _ rfl,(Jw x m h1 (d.up H1.ai) T).mono ?_⟩;rintro _ h2 ⟨rfl,R2⟩;have V:=H1.up R2.ai;refine⟨_,rfl,bh (fun e=>?_) fun z=>?_⟩
 ·unfold gp;rw[e];exact⟨⟨none,0,0⟩,rfl,((V.nil 5 1 aE).bK [1])⟩
 have W:x.2.2.1=m.p.1:=congrArg (·.1) d.p;have ax:x.2.2.2.1=m.p.2.1:=congrArg (·.2.1) d.p;have Y:x.2.2.2.2.1=m.p.2.2:=congrArg (·.2.2) d.p;have H:=V.box 0 rfl;have c:=Jy m T;unfold gp at c;rw[z,if_pos rfl]at c;have hM:∀{h':Heap} {As:List HP},Sp h h' As->dK h' x m:=fun{h' As} B=>d.up B.ai;refine be ⟨m.seq,by rw[<-d.seq];exact H.cell0 rfl,m.next,by rw[<-d.next];exact H.cell rfl,?_⟩;have H3:=(V.nil 5 1 aE).bC;refine(rO ⟨none,0,0⟩ [] m.seq 4 (by decide) (by simp) H3).mono ?_;rintro _ h4 ⟨s4,rfl,H4⟩;refine⟨s4,rfl,⟨by rw[<-d.next];exact(H4.box 1 rfl).cell rfl,trivial⟩,?_⟩;refine(rO s4 _ m.next 4 (by decide) (by simp[co]) H4).mono ?_;rintro _ h5 ⟨s5,rfl,H5⟩;refine⟨s5,rfl,trivial,?_⟩;have j:=H5.box 1 rfl;refine⟨m.p.1,by rw[<-W];exact j.cell rfl,m.p.2.1,by rw[<-ax];exact j.tK 2 1 rfl,m.p.2.2,by rw[<-Y];exact j.tK 2 2 rfl,m.extra,by rw[<-d.extra];exact j.cell rfl,x.2.2.2.2.2.2.1,j.cell rfl,?_⟩;have a2:=d.drives.len;have ap:=cF.len d.objs;rw[eu,eu,eu,eu,eu,a2];refine H5.lit ae aE ga rfl [b8 m.p.1,b8 m.p.2.1,b8 m.p.2.2,b8 m.extra,b8 (m.drives.length:Nat)] rfl (show 5*1<=2^20 by decide) rfl fun a6 h6 H6=>?_;refine H6.append ae 0 rfl ga ⟨_,_,rfl,rfl⟩ rfl (by decide) (fun _=>rfl) (H6.seq 2 rfl fun _=>rfl) gw (by simp[co]) fun s7 h7 R=>?_;have R:=R.bK [0,1];refine⟨x.2.2.2.2.2.2.1,(R.box 1 rfl).cell rfl,?_⟩;have a5:(([]++bN m.seq 4)++bN m.next 4++[b8 m.p.1,b8 m.p.2.1,b8 m.p.2.2,b8 m.extra,b8 (m.drives.length:Nat)]).length=13:=by simp[co]
 have bb:=T.dr;refine Ll x.2.2.2.2.2.2.1 m.drives s7 _ R (St.mk' fun h' B=>(hM B).drives) (by omega) (by omega) fun s8 h8 U=>?_;dsimp only;refine⟨x.2.2.2.2.2.2.2,(U.box 1 rfl).cell rfl,?_⟩;rw[eu,ap];obtain⟨a,b⟩:∃a,a=([]++bN m.seq 4)++bN m.next 4++[b8 m.p.1,b8 m.p.2.1,b8 m.p.2.2,b8 m.extra,b8 (m.drives.length:Nat)]++m.drives.map b8:=⟨_,rfl⟩
 rw[<-b]at U;have a4:a.length=13+m.drives.length:=by rw[b];simp[co];omega
 simp only[qx,q9,yt,qu,co]at c;refine U.push ae 0 rfl ga rfl (by decide) (fun _=>rfl) gw (b8 (m.objs.length:Nat)) rfl (by decide) (by omega) fun s9 h9 P=>?_;have P:Sp h h9 [ar 5 s9 1 aE (a++[b8 (m.objs.length:Nat)]),aq a1 59 (aP x)]:=P;refine⟨x.2.2.2.2.2.2.2,(P.box 1 rfl).cell rfl,?_⟩;obtain⟨A,Q⟩:=cF.fix d.objs;have bk:=Q.2.1;refine aw (fun t:Sl×Nat=>(t.1,(t.2:Int))) (fun t h'=>t.2<=m.objs.length/\Sp h h' [ar 5 t.1 1 aE (a++[b8 (m.objs.length:Nat)]++(m.objs.take t.2).flatMap iP),aq a1 59 (aP x)]) (fun t=>m.objs.length-t.2) (s9,0) rfl ⟨by simp,by simpa using P⟩ ?_;rintro⟨o,i⟩ bq ⟨hi,l⟩;dsimp only at*;refine al (fun e=>?_) (fun e=>?_)
 ·have q:i<m.objs.length:=by omega
  have am:=nk.up Q l.ai;have ab:=Yg z q;have s:((m.objs.take i).flatMap iP).length<=50000:=by
   have h1:=Gw z i hi;have:=Jx z;have:i*4000<=12*4000:=zu _ (by omega);omega
  refine am.1.dt (g:=bI) i rfl (by omega) (A[i]'(by omega)) rfl ?_;refine l.alloc ae rfl fun ad bl ah=>?_;refine ah.storeAll ae 2 rfl rfl (bI (A[i]'(by omega))) rfl rfl rfl rfl fun a0 f=>?_;have ao:=nk.up Q f.ai;obtain⟨⟨w,y2,S⟩,y4⟩:=Fix.row ao q;obtain⟨E,hE⟩:∃E,E=m.objs[i]:=⟨_,rfl⟩
  rw[<-hE]at w y2 S y4 ab;have n:=f.box 2 rfl;refine be ⟨E.name,by rw[<-w];exact n.cell0 rfl,E.name,by rw[<-w];exact n.cell0 rfl,?_⟩;rw[eu];refine f.nV ae aE ga rfl [b8 (E.name.size:Nat)] rfl (show 1*1<=2^20 by decide) rfl ⟨by rw[<-w];exact n.cell0 rfl,by rw[<-w];exact n.cell0 rfl,trivial⟩ ?_;have J:(a++[b8 (m.objs.length:Nat)]++(m.objs.take i).flatMap iP).length<=160000:=by rw[qx,qx,a4];simp;simp at s;omega
  obtain⟨k,I⟩:∃k,k=a++[b8 (m.objs.length:Nat)]++(m.objs.take i).flatMap iP:=⟨_,rfl⟩
  rw[<-I]at f J;refine f.push ae 0 rfl ga rfl (by decide) (fun _=>rfl) gw (b8 (E.name.size:Nat)) rfl (by decide) (by omega) fun br a7 G=>?_;have D:=G.box 2 rfl;refine⟨⟨by rw[<-w];exact D.cell0 rfl,by rw[<-w];exact D.cell0 rfl,trivial⟩,?_⟩;refine G.Xw ae 0 rfl ga ⟨_,rfl,rfl⟩ rfl (by decide) E.name (by simp;omega) fun N Z u=>?_;have y:=u.box 2 rfl;refine⟨⟨by rw[<-w];exact y.cell0 rfl,trivial⟩,?_⟩;have u:Sp h Z [ar 5 N 1 aE (k++[b8 (E.name.size:Nat)]++iG E.name),aq a1 59 (aP x),aq ad 105 (bI (A[i]'(by omega)))]:=u;refine be ⟨E.object,by rw[<-y2];exact y.cell rfl,E.length,by rw[<-S];exact y.cell rfl,?_⟩;have b0:=CT E.name;refine(rO N _ E.object 3 (by decide) (by simp;omega) u).mono ?_;rintro _ a8 ⟨L,rfl,K⟩;have ay:=K.box 2 rfl;refine⟨L,rfl,⟨by rw[<-S];exact ay.cell rfl,trivial⟩,?_⟩;refine(rO L _ E.length 2 (by decide) (by simp[co];omega) K).mono ?_;rintro _ a9 ⟨F,rfl,M⟩;have X:=M.box 2 rfl;refine⟨F,rfl,trivial,(A[i]'(by omega)).2.2.2,X.cell rfl,?_⟩;refine Ll (A[i]'(by omega)).2.2.2 E.tries F _ M (St.mk' fun h' B=>by rw[hE];exact(Fix.row (nk.up Q B.ai) q).2) (by simp[co];omega) (by omega) fun a3 bd O=>?_;dsimp only;have a0:=Jx z;refine⟨(a3,i+1),by dsimp only;rw[ak _];rfl,⟨by dsimp only;omega,?_⟩,by dsimp only;omega⟩;dsimp only;rw[aI _ _ q,zh,<-qp,<-I,zl,z8,qS,<-hE];have e3:k++[b8 (E.name.size:Nat)]++iG E.name++bN E.object 3++bN E.length 2++E.tries.map b8=k++iP E:=by
   unfold iP iG;simp[qp]
  rw[e3]at O;exact O.bK [0,1]
 ·rw[qi (by omega)]at l;refine⟨o,rfl,?_⟩;have e2:a++[b8 (m.objs.length:Nat)]++m.objs.flatMap iP=gp m:=by
   rw[b];unfold gp;rw[z,if_pos rfl];simp[qp]
  rw[e2]at l;exact l.bK [0]
end Go.Qw
namespace Go.Vc
open Go Wl
def eF{α:Type}(k:Nat)(f:α->aW)(L:List (Sl×List α)):HP:=⟨fun h q=>∀y∈L,Seq h q y.1 k f y.2,fun a c y b=>(a y b).ai c,fun a d y b=>(a y b).mono d⟩
section
variable {α:Type} {B:aB} {h0 h:Heap} {As:List HP} {k:Nat} {f:α->aW} {L:List (Sl×List α)} {s:Sl} {l:List α}
theorem aa.Ux(H:aa B h0 h As)(k:Nat)(f:α->aW):aa B h0 h (eF k f []::As):=
 (H.comp (.one (A:=eF k f []) (aU.refl _ _) (fun y a=>by cases a))).bC
theorem aa.Uy(H:aa B h0 h (eF k f L::sV s k f l::As)):aa B h0 h (eF k f ((s,l)::L)::As):=by
 have g:aa B h0 h ((sV s k f l).sep (eF k f L)::As):=H.oL;refine g.fO 0 rfl fun q ⟨j,i,_,b,c,d,e⟩ y a=>?_;rcases q8.1 a with rfl|a
 ·exact d.mono b
 ·exact(e y a).mono c
end
end Go.Vc
namespace Go.Qw
open Go Go.Vc Go.Proofs Wl
theorem aeH(n:Int):bN n 4=[b8 (qU n (2^24)),b8 (qU n (2^16)),b8 (qU n (2^8)),b8 n]:=by
 have e:qU n (2^0)=n:=by simp
 show[b8 (qU n (2^24)),b8 (qU n (2^16)),b8 (qU n (2^8)),b8 (qU n (2^0))]=_;rw[e]
theorem Yj(seq a c:Int)(b:Sl)(l:aX)(h:Heap)(m:Rd h b 1 aE l)(u:l.length<=2^20):ac xx 117 #[xl xt seq,xl xt a,xl xt c,b] h fun v h'=>∃r:Sl,v=r/\Sp h h' [ar 5 r 1 aE (jH seq a c l)]:=by
 refine QL seq a c b ?_;unfold KE;refine⟨by decide,by decide,by decide,?_⟩;have g:min (24:Int).toNat (qk xt)=24:=rfl;have j:min (16:Int).toNat (qk xt)=16:=rfl;have s:min (8:Int).toNat (qk xt)=8:=rfl;rw[g,j,s,eu,eu,eu,eu,eu,eu,eu];have d:=aeH seq;generalize b8 (qU seq (2^24))=c1 at d⊢;generalize b8 (qU seq (2^16))=c2 at d⊢;generalize b8 (qU seq (2^8))=c3 at d⊢;generalize b8 seq=c4 at d⊢;have e:jH seq a c l=eM 2 ([c1,c2,c3,c4]++([b8 a,b8 c,b8 (b.len:Nat)]++l)):=by unfold jH;rw[d,m.len]
 generalize b8 a=c5 at e⊢;generalize b8 c=c6 at e⊢;generalize b8 (b.len:Nat)=c7 at e⊢;refine(Sp.refl h).lit ae aE ga rfl [c1,c2,c3,c4,c5,c6,c7] rfl (show 7*1<=2^20 by decide) (by kernel_rfl) fun w x o=>?_;refine o.append ae 0 rfl ga ⟨_,_,rfl,rfl⟩ rfl (by decide) (fun _=>rfl) (Seq.up m o.ai) gw (by simp;omega) fun p k n=>?_;have q:Rd k p 1 aE ([c1,c2,c3,c4,c5,c6,c7]++l):=n.seq 0 rfl fun _=>rfl;have f:([c1,c2,c3,c4,c5,c6,c7]++l).length<=2^40:=by simp;omega
 rw[e];have i:[c1,c2,c3,c4,c5,c6,c7]++l=[c1,c2,c3,c4]++([c5,c6,c7]++l):=rfl;rw[<-i];generalize [c1,c2,c3,c4,c5,c6,c7]++l=ll at q f⊢;refine(Gv 2 p ll k q f).mono ?_;rintro _ h3 ⟨r,rfl,t⟩;exact⟨r,rfl,r,rfl,(aa.comp (Sp.zip n.ai) t)⟩
theorem kY(x:bD)(m:aG)(h:Heap)(z:dK h x m)(y:cO m):ac xx 43 #[eT x] h fun v h'=>∃r:Sl,v=r/\Sp h h' [eE r (aY m)]:=by
 refine MI x ?_;unfold FK;refine(Sp.refl h).boxed fun E P q=>?_;refine⟨x,(q.box 0 rfl).aL _ rfl,(Yi x m P (z.up q.ai) y).mono ?_⟩;rintro _ I ⟨b,rfl,O⟩;have j:=q.comp O;have p:=Jy m y;obtain⟨l,n⟩:∃l,l=gp m:=⟨_,rfl⟩
 rw[<-n]at j p;have H:=(j.own 1 rfl).len;have s:=(j.own 1 rfl).cap;refine⟨b,rfl,by decide,?_⟩;have f:qc xt (wI (qc xt ((qc xt (((b.len:Nat):Int)+(48:Int)))-(1:Int))) (48:Int))=(gX l:Int):=by
  rw[ak ((b.len:Int)+48),ak ((b.len:Int)+48-1),Int.tdiv_eq_ediv_of_nonneg (by omega)];unfold gX;rw[ak (((b.len:Int)+48-1)/48)];omega
 have N:gX l<=3000:=by unfold gX;omega
 rw[f];obtain⟨c,g⟩:∃c:cD,c=aY m:=⟨_,rfl⟩
 have B:c.length=gX l:=by rw[g,n];simp[aY]
 have a:Sp h I [eE ⟨none,0,0⟩ (c.take 0),aq E 59 (aP x),ar 5 b 1 aE l]:=j.Fk 35 5 1 aE;refine aw (fun t:Sl×Nat=>(t.1,(t.2:Int))) (fun t h'=>t.2<=gX l/\Sp h h' [eE t.1 (c.take t.2),aq E 59 (aP x),ar 5 b 1 aE l]) (fun t=>gX l-t.2) (⟨none,0,0⟩,0) rfl ⟨by simp,a⟩ ?_;rintro⟨o,i⟩ h3 ⟨T,a⟩;dsimp only at*;refine al (fun e=>?_) (fun e=>?_)
 ·have k:i<gX l:=by omega
  have D:48*i<l.length:=by unfold gX at k;omega
  rw[ak ((i:Int)*48),ak ((i:Int)+1),ak (((i:Int)+1)*48)];obtain⟨d,G⟩:∃d:Nat,d=min (48*i+48) l.length:=⟨_,rfl⟩
  have u:(if((i:Int)+1)*48<((b.len:Nat):Int)then((i:Int)+1)*48 else((b.len:Nat):Int))=(d:Int):=by
   split<;>omega
  rw[u];refine⟨m.seq,by rw[<-z.seq];exact(a.box 1 rfl).cell0 rfl,⟨by omega,by omega,by omega⟩,?_⟩;have L:((i:Int)*48).toNat=48*i:=by omega
  rw[L,qo];have A:=((a.seq 2 rfl fun _=>rfl).drop (48*i) s).take (d-48*i) (by rw[za];omega);have e2:(l.drop (48*i)).take (d-48*i)=(l.drop (48*i)).take 48:=by
   by_cases R:48*i+48<=l.length
   ·rw[show d-48*i=48 by omega]
   ·rw[qi (by rw[za];omega),qi (by rw[za];omega)]
  rw[e2,zT]at A;refine(Yj m.seq i (gX l) ⟨_,d-48*i,b.cap-48*i⟩ _ h3 (by rw[zT];exact A) (by simp;omega)).mono ?_;rintro _ Q ⟨r,rfl,F⟩;have w:=(a.cS F).bi 4 [1,0,2,3];refine⟨r,rfl,trivial,?_⟩;refine w.nV ae bJ fG rfl [r] rfl (show 1*1<=2^20 by decide) rfl trivial ?_;refine w.Hu ae fG (by simp;omega) fun J S M=>⟨trivial,?_⟩
  refine⟨(J,i+1),rfl,⟨by dsimp only;omega,?_⟩,by dsimp only;omega⟩;dsimp only;rw[aI _ _ (show i<c.length by omega)];have K:c[i]'(by omega)=jH m.seq i (gX l) ((l.drop (48*i)).take 48):=by
   subst g;subst n;simp[aY]
  rw[K];exact M
 ·rw[qi (by omega),g]at a;exact⟨o,rfl,a.bK [0]⟩
theorem Tb(s:Sl)(a:List eK)(h:Heap)(c:Rd h s 4 bI a)(f:a.length<=2^30):ac xx 203 #[s] h fun v h'=>∃r:Sl,v=r/\Sp h h' [ar 105 r 4 bI a]:=by
 refine mj s ?_;unfold iK;refine bw (fun e=>?_) (fun e=>?_)
 ·have:=c.isNil e;subst this;exact⟨⟨none,0,0⟩,rfl,(Sp.refl h).nil 105 4 bI⟩
 ·refine(Sp.refl h).lit ae bI aaH rfl ([]:List eK) rfl (by decide) rfl fun j k b=>?_;refine b.append ae 0 rfl aaH ⟨_,_,rfl,rfl⟩ rfl (by decide) (fun _=>rfl) (Seq.up c b.ai) Uw (by simp;omega) fun d i g=>?_;exact⟨d,rfl,g⟩
def DA(pool:List (Sl×aC))(p:eK×Wl.bV):Prop:=(p.1.1=p.2.name/\p.1.2.1=p.2.object/\p.1.2.2.1=p.2.length)/\(p.1.2.2.2,p.2.tries)∈pool
theorem aa.Jz{B:aB}{h0 h:Heap}{As:List HP}{y:bD}{m:aG}{L:List (eK×Wl.bV)}{pool:List (Sl×aC)}(f:y.1=m.seq/\y.2.1=m.next/\(y.2.2.1,y.2.2.2.1,y.2.2.2.2.1)=m.p/\y.2.2.2.2.2.1=m.extra)(l:L.map zt=m.objs)(v:∀p∈L,DA pool p)
  (H:aa B h0 h (eF 1 aD pool::ar 3 y.2.2.2.2.2.2.1 1 aD m.drives::ar 105 y.2.2.2.2.2.2.2 4 bI (L.map qJ)::As)):aa B h0 h (bU y m::As):=by
 have i:=(H.own 2 rfl)
 have k:=(H.own 1 rfl)
 have z:=((H.freeze 1 rfl fun _=>rfl).freeze 2 rfl fun _=>rfl).oL.oL;refine z.fO 0 rfl fun q ⟨F,E,_,b,c,w,n⟩=>?_;obtain⟨G,D,_,u,s,z3,z4⟩:=n;refine⟨f.1,f.2.1,f.2.2.1,f.2.2.2,z3.mono fun x g=>c x (u x g),⟨L.map qJ,w.mono b,by rw[<-l];simp,fun j r e a d=>?_⟩,k.cap,i.cap⟩;rw[<-l]at d;rw[qO]at a d;cases hj:L[j]? with
 |none=>rw[hj]at a;cases a
 |some p=>
  rw[hj]at a d;have t:=zM.inj (show some p.1=some r from a);have e2:=zM.inj (show some p.2=some e from d);subst t;subst e2;obtain⟨A,o⟩:=v p (ye hj);exact⟨A,(z4 _ o).mono fun x g=>c x (s x g)⟩
theorem rp(x:bD)(m:aG)(h:Heap)(z:dK h x m)(F:cO m):ac xx 114 #[eT x] h fun v h'=>∃(y:bD) (L:List (eK×Wl.bV)) (pool:List (Sl×aC)),v=eT y/\(y.1=m.seq/\y.2.1=m.next/\(y.2.2.1,y.2.2.2.1,y.2.2.2.2.1)=m.p/\y.2.2.2.2.2.1=m.extra)/\L.map zt=m.objs/\(∀p∈L,DA pool p)/\
  Sp h h' [eF 1 aD pool,ar 3 y.2.2.2.2.2.2.1 1 aD m.drives,ar 105 y.2.2.2.2.2.2.2 4 bI (L.map qJ)]:=by
 refine QK x ?_;unfold KD;refine(Sp.refl h).boxed fun R k H1=>?_;refine H1.alloc ae rfl fun S n H=>?_;have E:=H.box 0 rfl;have hM:∀{h':Heap} {As:List HP},Sp h h' As->dK h' x m:=fun{h' As} H'=>z.up H'.ai;obtain⟨b,I⟩:=cF.fix z.objs;have ad:=I.2.1;have Z:=F.dr;have am:=F.ob;refine be ⟨x.2.2.2.2.2.2.1,E.cell rfl,x.2.2.2.2.2.2.2,E.cell rfl,?_⟩;refine(jg _ m.drives n (hM H).drives (by omega)).mono ?_;rintro _ h3 ⟨d,rfl,R3⟩;have M:=H.comp R3;refine⟨d,rfl,⟨(M.box 0 rfl).cell rfl,trivial⟩,?_⟩;refine(Tb _ b h3 (nk.up I M.ai).1 (by omega)).mono ?_;rintro _ h4 ⟨o,rfl,R4⟩;have H4:=M.comp R4;refine⟨o,rfl,trivial,?_⟩;refine H4.store ae 0 rfl rfl 6 [d] rfl rfl rfl (by simp[Value.cells]) fun h5 H5=>⟨trivial,?_⟩
 refine H5.store ae 0 rfl rfl 7 [o] rfl rfl rfl (by simp[Value.cells]) fun h6 q=>⟨trivial,?_⟩
 obtain⟨y,s⟩:∃y:bD,y=(x.1,x.2.1,x.2.2.1,x.2.2.2.1,x.2.2.2.2.1,x.2.2.2.2.2.1,d,o):=⟨_,rfl⟩
 have q:Sp h h6 [aq R 59 (aP y),aq S 59 [xl xt 0,xl xt 0,xl xt 0,xl xt 0,xl xt 0,xl xt 0,xn none 0 0,xn none 0 0],ar 3 d 1 aD m.drives,ar 105 o 4 bI b]:=by rw[s];exact q
 have c:y.2.2.2.2.2.2.2=o:=by rw[s]
 have G:y.2.2.2.2.2.2.1=d:=by rw[s]
 refine⟨o,by rw[<-c];exact(q.box 0 rfl).cell rfl,?_⟩;have ah:=(q.own 3 rfl).len;have q:=q.Ux 1 aD;refine aw (fun t:List eK×List (Sl×aC)=>(t.1.length:Int)) (fun t h'=>t.1.length<=m.objs.length/\(∀(j:Nat) r e,t.1[j]?=some r->m.objs[j]?=some e->(r.1=e.name/\r.2.1=e.object/\r.2.2.1=e.length)/\(r.2.2.2,e.tries)∈t.2)/\Sp h h' [eF 1 aD t.2,aq R 59 (aP y),aq S 59 [xl xt 0,xl xt 0,xl xt 0,xl xt 0,xl xt 0,xl xt 0,xn none 0 0,xn none 0 0],ar 3 d 1 aD m.drives,ar 105 o 4 bI (t.1++b.drop t.1.length)]) (fun t=>m.objs.length-t.1.length) ([],[]) rfl ⟨by simp,fun j r e k=>by simp at k,q⟩ ?_;rintro⟨a,pool⟩ h7 ⟨hi,A,l⟩;dsimp only at*;refine al (fun e=>?_) (fun e=>?_)
 ·have u:a.length<m.objs.length:=by omega
  have F7:=nk.up I l.ai;obtain⟨⟨V,y2,T⟩,y4⟩:=Fix.row F7 u;have f:(a++b.drop a.length)[a.length]'(by simp;omega)=b[a.length]'(by omega):=by simp
  obtain⟨N,ha,zz,U,rfl⟩:=(l.seq 4 rfl fun _=>rfl).dt (g:=bI) (i:=(a.length:Int)) a.length rfl (by simp;omega) (b[a.length]'(by omega)) (by rw[f]) (K:=fun t=>t=b[a.length]'(by omega)) rfl;refine⟨o,by rw[<-c];exact(l.box 1 rfl).cell rfl,o,by rw[<-c];exact(l.box 1 rfl).cell rfl,N,ha,_,U.2.2.2.1,?_⟩;have ab:=(F.nm _ (qh u)).2;refine(jg _ m.objs[a.length].tries h7 y4 (by omega)).mono ?_;rintro _ h8 ⟨t,rfl,R8⟩;have w:=l.cS R8;refine⟨t,rfl,⟨by rw[<-c];exact(w.box 2 rfl).cell rfl,by rw[<-c];exact(w.box 2 rfl).cell rfl,trivial⟩,?_⟩;refine w.aag ae 5 rfl (fun _=>rfl) rfl a.length rfl (by simp;omega) 3 [t] (by simp) ((b[a.length]'(by omega)).1,(b[a.length]'(by omega)).2.1,(b[a.length]'(by omega)).2.2.1,t) rfl rfl rfl (by rw[f];simp[bI]) fun h9 B=>⟨trivial,?_⟩
  have B:=(B.freeze 0 rfl fun _=>rfl).bi 6 [1,0,2,3,4,5];have B:=B.Uy;refine⟨(a++[((b[a.length]'(by omega)).1,(b[a.length]'(by omega)).2.1,(b[a.length]'(by omega)).2.2.1,t)],(t,m.objs[a.length].tries)::pool),by simp only[qx,List.length_singleton];rw[ak _];rfl,⟨by simp;omega,fun j r e k n=>?_,?_⟩,by simp;omega⟩
  ·dsimp only at k⊢;by_cases Q:j<a.length
   ·rw[qm Q]at k;obtain⟨W,g2⟩:=A j r e k n;exact⟨W,List.mem_cons_of_mem _ g2⟩
   ·have P:j=a.length:=by
     have:=(qn.1 k).1;simp at this;omega
    subst P;rw[qj (ql _),zi]at k;simp at k;rw[qd u]at n;injection n with n
    subst k;subst n;exact⟨⟨V,y2,T⟩,List.mem_cons_self⟩
  ·dsimp only;have X:(a++b.drop a.length).set a.length ((b[a.length]'(by omega)).1,(b[a.length]'(by omega)).2.1,(b[a.length]'(by omega)).2.2.1,t)=a++[((b[a.length]'(by omega)).1,(b[a.length]'(by omega)).2.1,(b[a.length]'(by omega)).2.2.1,t)]++b.drop (a++[((b[a.length]'(by omega)).1,(b[a.length]'(by omega)).2.1,(b[a.length]'(by omega)).2.2.1,t)]).length:=by
    rw[zc _ _ (ql _),zi,qV (show a.length<b.length by omega),zC];simp
   rw[<-X];exact B
 ·have Y:a.length=m.objs.length:=by omega
  rw[zb (by omega),qS]at l;refine⟨y,(l.box 1 rfl).aL _ rfl,?_⟩;refine l.storeAll ae 2 rfl rfl (aP y) rfl rfl rfl rfl fun h8 w=>?_;have O:(a.zip m.objs).map qJ=a:=List.map_fst_zip (by omega);have J:(a.zip m.objs).map zt=m.objs:=List.map_snd_zip (by omega);refine⟨y,(w.box 2 rfl).aL _ rfl,y,a.zip m.objs,pool,rfl,⟨by rw[s];exact z.seq,by rw[s];exact z.next,by rw[s];exact z.p,by rw[s];exact z.extra⟩,J,fun p hp=>?_,?_⟩
  ·obtain⟨j,Q,rfl⟩:=qH hp;have D:j<a.length/\j<m.objs.length:=by simp at Q;omega
   have:=A j _ _ (qd D.1) (qd D.2);rw[yT];exact this
  ·rw[O,G,c];exact w.bK [0,3,4]
theorem Lm(x:bD)(m:aG)(h:Heap)(e:dK h x m)(d:cO m):ac xx 114 #[eT x] h fun v h'=>∃y:bD,v=eT y/\Sp h h' [bU y m]:=by
 refine(rp x m h e d).mono ?_;rintro _ h' ⟨y,L,pool,rfl,c,a,b,H⟩;exact⟨y,rfl,aa.Jz c a b H⟩
end Go.Qw
namespace Go.Vc
open Go Wl
abbrev bu:=Int×Int×Int×Int×Int×Int×Int×Sl
abbrev bn(x:bu):aW:=[xl xt x.1,xl xt x.2.1,xl xt x.2.2.1,xl xt x.2.2.2.1,xl xt x.2.2.2.2.1,xl xt x.2.2.2.2.2.1,xl xv x.2.2.2.2.2.2.1,x.2.2.2.2.2.2.2]
abbrev recv(x:bu):Value:=xr #[xl xt x.1,xl xt x.2.1,xl xt x.2.2.1,xl xt x.2.2.2.1,xl xt x.2.2.2.2.1,xl xt x.2.2.2.2.2.1,xl xv x.2.2.2.2.2.2.1,x.2.2.2.2.2.2.2]
theorem ads:∀x,∀c∈bn x,c.oneCell'=true:=by intro x c a;simp[bn]at a;rcases a with rfl|rfl|rfl|rfl|rfl|rfl|rfl|rfl<;>rfl
def ie(x y:Int):Int:=if x<y then-1 else if x>y then 1 else 0
def kZ(a b:bu):Int:=if ie a.1 b.1≠0 then ie a.1 b.1 else if ie a.2.1 b.2.1≠0 then ie a.2.1 b.2.1 else ie a.2.2.1 b.2.2.1
def cb(a b:bu):Bool:=decide (kZ a b<=0)
theorem iQ(x y:Int):(x<y/\ie x y=-1)∨(x>y/\ie x y=1)∨(x=y/\ie x y=0):=by
 unfold ie;by_cases a:x<y
 ·exact .inl ⟨a,if_pos a⟩
 ·by_cases b:x>y
  ·exact .inr (.inl ⟨b,by rw[if_neg a,if_pos b]⟩)
  ·exact .inr (.inr ⟨by omega,by rw[if_neg a,if_neg b]⟩)
theorem Cq(a b:bu):kZ a b<=0↔a.1<b.1∨(a.1=b.1/\(a.2.1<b.2.1∨(a.2.1=b.2.1/\a.2.2.1<=b.2.2.1))):=by
 unfold kZ;rcases iQ a.1 b.1 with⟨h1,e1⟩|⟨h1,e1⟩|⟨h1,e1⟩
 ·rw[e1,if_pos (by decide)];omega
 ·rw[e1,if_pos (by decide)];omega
 ·rw[e1,if_neg (by decide)];rcases iQ a.2.1 b.2.1 with⟨h2,e2⟩|⟨h2,e2⟩|⟨h2,e2⟩
  ·rw[e2,if_pos (by decide)];omega
  ·rw[e2,if_pos (by decide)];omega
  ·rw[e2,if_neg (by decide)];rcases iQ a.2.2.1 b.2.2.1 with⟨h3,e3⟩|⟨h3,e3⟩|⟨h3,e3⟩<;>rw[e3]<;>omega
theorem rq(a b:bu):kZ a b<0↔¬cb b a=true:=by
 unfold cb;rw[decide_eq_true_eq,Cq];unfold kZ;rcases iQ a.1 b.1 with⟨h1,e1⟩|⟨h1,e1⟩|⟨h1,e1⟩
 ·rw[e1,if_pos (by decide)];omega
 ·rw[e1,if_pos (by decide)];omega
 ·rw[e1,if_neg (by decide)];rcases iQ a.2.1 b.2.1 with⟨h2,e2⟩|⟨h2,e2⟩|⟨h2,e2⟩
  ·rw[e2,if_pos (by decide)];omega
  ·rw[e2,if_pos (by decide)];omega
  ·rw[e2,if_neg (by decide)];rcases iQ a.2.2.1 b.2.2.1 with⟨h3,e3⟩|⟨h3,e3⟩|⟨h3,e3⟩<;>rw[e3]<;>omega
theorem Yk(a b:bu):kZ a b=0↔(a.1=b.1/\a.2.1=b.2.1/\a.2.2.1=b.2.2.1):=by
 unfold kZ;rcases iQ a.1 b.1 with⟨h1,e1⟩|⟨h1,e1⟩|⟨h1,e1⟩
 ·rw[e1,if_pos (by decide)];omega
 ·rw[e1,if_pos (by decide)];omega
 ·rw[e1,if_neg (by decide)];rcases iQ a.2.1 b.2.1 with⟨h2,e2⟩|⟨h2,e2⟩|⟨h2,e2⟩
  ·rw[e2,if_pos (by decide)];omega
  ·rw[e2,if_pos (by decide)];omega
  ·rw[e2,if_neg (by decide)];rcases iQ a.2.2.1 b.2.2.1 with⟨h3,e3⟩|⟨h3,e3⟩|⟨h3,e3⟩<;>rw[e3]<;>omega
theorem dO:Ord cb:=⟨fun a b c e d=>by
 unfold cb at*;rw[decide_eq_true_eq,Cq]at*;omega,fun a b=>by
 unfold cb;rw[Bool.or_eq_true,decide_eq_true_eq,decide_eq_true_eq,Cq,Cq];omega⟩
theorem Rg{α:Type}(A B C:List α)(x y:α){i j:Nat}(b:i=A.length)(c:j=A.length+1+B.length):
  (A++x::(B++y::C))[i]?=some x/\(A++x::(B++y::C))[j]?=some y/\((A++x::(B++y::C)).set i y).set j x=A++y::(B++x::C)/\((A++x::(B++y::C)).set j x).set i y=A++y::(B++x::C):=by
 subst b;subst c;have a:A.length+1+B.length-A.length=B.length+1:=by omega
 refine⟨by rw[qj (ql _),zi];rfl,?_,?_,?_⟩
 ·rw[qj (by omega),a,qy,qj (ql _),zi];rfl
 ·rw[zc _ _ (ql _),zi,zC,zc _ _ (by omega),a,zL,zc _ _ (ql _),zi,zC]
 ·rw[zc _ _ (show A.length<=A.length+1+B.length by omega),a,zL,zc _ _ (ql _),zi,zC,zc _ _ (ql _),zi,zC]
end Go.Vc
namespace Go.Qw
open Go Go.Vc Go.Proofs Wl
abbrev aaI:bW C.toBE 136 139 8 [xl xt 0,xl xt 0,xl xt 0,xl xt 0,xl xt 0,xl xt 0,xl xv 0,xn none 0 0] 80:=⟨_,_,rfl,rfl,rfl,rfl,rfl,rfl⟩
theorem tf(x y:Int)(h:Heap):ac xx 221 #[xl xt x,xl xt y] h fun v h'=>v=xl xt (ie x y)/\h'=h:=by
 refine pT x y ?_;unfold nc;have a:∀z:Int,ac xx 291 #[xl xt z] h fun v h'=>v=xq false/\h'=h:=fun z=>by
  refine tH z ?_;unfold pq;exact⟨by simp,rfl⟩
 refine(a x).mono ?_;rintro _ _ ⟨rfl,rfl⟩;refine⟨_,rfl,(a y).mono ?_⟩;rintro _ _ ⟨rfl,rfl⟩;refine⟨_,rfl,bw (fun e=>by cases e) fun _=>bw (fun e=>by cases e) fun _=>?_⟩;refine al (fun e=>⟨by rw[ie,if_pos e],rfl⟩) fun e=>al (fun e2=>⟨by rw[ie,if_neg e,if_pos e2],rfl⟩) fun e2=>⟨by rw[ie,if_neg e,if_neg e2],rfl⟩
theorem py(a b:bu)(h:Heap):ac xx 164 #[recv a,recv b] h fun v h'=>v=xl xt (kZ a b)/\Sp h h' []:=by
 refine MR a b ?_;unfold FY;refine(Sp.refl h).boxed fun w M G=>G.boxed fun p f g=>?_;have g:Sp h f [aq w 139 (bn a),aq p 139 (bn b)]:=g;have x:=g.box 0 rfl;have q:=g.box 1 rfl;have z:cellOf f (w.add 1)=some (xl xt a.2.1):=x.cell rfl;have y:cellOf f (p.add 1)=some (xl xt b.2.1):=q.cell rfl;have c3:cellOf f (w.add 2)=some (xl xt a.2.2.1):=x.cell rfl;have t:cellOf f (p.add 2)=some (xl xt b.2.2.1):=q.cell rfl;refine⟨a.1,x.cell0 rfl,b.1,q.cell0 rfl,a.2.1,z,b.2.1,y,a.2.2.1,c3,b.2.2.1,t,(tf _ _ f).mono ?_⟩;rintro _ _ ⟨rfl,rfl⟩;refine⟨_,rfl,⟨t,c3,y,z,trivial⟩,(tf _ _ _).mono ?_⟩;rintro _ _ ⟨rfl,rfl⟩;refine⟨_,rfl,⟨t,c3,trivial⟩,(tf _ _ _).mono ?_⟩;rintro _ I ⟨rfl,rfl⟩;refine⟨_,rfl,trivial,?_⟩;refine g.nV ae aD ⟨_,_,rfl,rfl,rfl,rfl,rfl,rfl⟩ rfl [ie a.1 b.1,ie a.2.1 b.2.1,ie a.2.2.1 b.2.2.1] rfl (show 3*1<=2^20 by decide) rfl trivial ?_;refine g.lit ae aD ⟨_,_,rfl,rfl,rfl,rfl,rfl,rfl⟩ rfl [ie a.1 b.1,ie a.2.1 b.2.1,ie a.2.2.1 b.2.2.1] rfl (show 3*1<=2^20 by decide) rfl fun d B r=>?_;refine(Cd d (R:=fun v h'=>v=xl xt (kZ a b)/\h'=B) ?_).mono ?_
 ·unfold xz;have A:=r.seq 2 rfl fun _=>rfl;have D:=(r.own 2 rfl).len;obtain⟨L,k⟩:∃L,L=[ie a.1 b.1,ie a.2.1 b.2.1,ie a.2.2.1 b.2.2.1]:=⟨_,rfl⟩
  rw[<-k]at A D;have H:L.length=3:=by rw[k];rfl
  refine aw (fun i:Nat=>(i:Int)) (fun i h'=>i<=3/\(∀j,j<i->L[j]?=some 0)/\h'=B) (fun i=>3-i) 0 rfl ⟨by omega,by omega,rfl⟩ ?_;rintro i F ⟨J,n,rfl⟩;have c:0<i->ie a.1 b.1=0:=fun h0=>by have:=n 0 h0;rw[k]at this;simpa using this
  have l:1<i->ie a.2.1 b.2.1=0:=fun h0=>by have:=n 1 h0;rw[k]at this;simpa using this
  have s:2<i->ie a.2.2.1 b.2.2.1=0:=fun h0=>by have:=n 2 h0;rw[k]at this;simpa using this
  refine al (fun e=>?_) (fun e=>?_)
  ·have m:i<L.length:=by
    have E:(i:Int)<(d.len:Int):=e;omega
   refine A.bx i rfl m L[i] rfl ?_;refine ca (fun e2=>⟨?_,rfl⟩) (fun e2=>?_)
   ·congr 1;unfold kZ;have:i=0∨i=1∨i=2:=by omega
    subst k;rcases this with rfl|rfl|rfl
    ·exact(if_pos (show ie a.1 b.1≠0 from e2)).symm
    ·rw[if_neg (by rw[c (by omega)];simp)];exact(if_pos (show ie a.2.1 b.2.1≠0 from e2)).symm
    ·rw[if_neg (by rw[c (by omega)];simp),if_neg (by rw[l (by omega)];simp)];rfl
   ·refine⟨i+1,by rw[ak _];rfl,⟨by omega,fun j K=>?_,rfl⟩,by omega⟩;by_cases u:j=i
    ·subst u;rw[qd m,e2]
    ·exact n j (by omega)
  ·have o:i=3:=by
    have E:¬(i:Int)<(d.len:Int):=e;omega
   subst o;refine⟨?_,rfl⟩;unfold kZ;rw[c (by omega),l (by omega),s (by omega)];rfl
 ·rintro _ F ⟨rfl,rfl⟩;exact⟨_,rfl,trivial,rfl,.zip r.ai⟩
abbrev bP(s:Sl)(d:List bu):HP:=ar 139 s 8 bn d
section
variable {B:aB} {h0 h h':Heap} {As:List HP} {s:Sl} {d:List bu}
theorem ru(X U M V Y:List bu)(n:Nat)(a b:Int)(S:U.length=n)(Q:V.length=n)(J:a=(X.length:Int))(I:b=(X.length+n+M.length:Nat))(O:X.length+n+M.length+n+Y.length<=2^40)(H:aa B h0 h (bP s (X++(U++(M++(V++Y))))::As)):
  ac xx 410 #[s,xl xt a,xl xt b,xl xt n,.func (.func 164) #[] #[]] h fun v h'=>v=.tuple #[]/\aa B h0 h' (bP s (X++(V++(M++(U++Y))))::As):=by
 refine lK s a b n (164,#[],#[]) ?_;unfold iA;subst J;subst I;refine aw (fun k:Nat=>(k:Int)) (fun k h'=>k<=n/\aa B h0 h' (bP s (X++(V.take k++U.drop k++(M++(U.take k++V.drop k++Y))))::As)) (fun k=>n-k) 0 rfl ⟨by omega,by simpa using H⟩ ?_;rintro k T ⟨R,d⟩;refine al (fun e=>?_) (fun e=>?_)
 ·have G:k<n:=by omega
  have o:k<U.length:=by omega
  have m:k<V.length:=by omega
  have f:X++(V.take k++U.drop k++(M++(U.take k++V.drop k++Y)))=(X++V.take k)++U[k]::((U.drop (k+1)++(M++U.take k))++V[k]::(V.drop (k+1)++Y)):=by
   rw[qV o,qV m];simp only[qp,zB,zR]
  have c:X++(V.take (k+1)++U.drop (k+1)++(M++(U.take (k+1)++V.drop (k+1)++Y)))=(X++V.take k)++V[k]::((U.drop (k+1)++(M++U.take k))++U[k]::(V.drop (k+1)++Y)):=by
   rw[aI V k m,aI U k o];simp only[qp,zB,zR]
  rw[f]at d;obtain⟨y,x,z,F⟩:=Rg (X++V.take k) (U.drop (k+1)++(M++U.take k)) (V.drop (k+1)++Y) U[k] V[k] (i:=X.length+k) (j:=X.length+n+M.length+k) (by simp;omega) (by simp;omega);obtain⟨D,N⟩:∃D,D=(X++V.take k)++U[k]::((U.drop (k+1)++(M++U.take k))++V[k]::(V.drop (k+1)++Y)):=⟨_,rfl⟩
  rw[<-N]at d y x z F;have r:=(qn.1 y)
  have w:=(qn.1 x)
  obtain⟨q,u⟩:=r;obtain⟨p,t⟩:=w;have L:qc xt ((X.length:Int)+k)=((X.length+k:Nat):Int):=by rw[ak _];omega
  have A:qc xt (((X.length+n+M.length:Nat):Int)+k)=((X.length+n+M.length+k:Nat):Int):=by rw[ak _];omega
  rw[L,A];refine(d.seq 0 rfl fun _=>rfl).dt (g:=bn) _ rfl p V[k] (by rw[t]) ?_;refine(d.seq 0 rfl fun _=>rfl).dt (g:=bn) _ rfl q U[k] (by rw[u]) ?_;refine d.set ae 0 rfl (fun _=>rfl) rfl (X.length+k) rfl q V[k] rfl rfl rfl fun P K=>⟨trivial,?_⟩
  refine K.set ae 0 rfl (fun _=>rfl) rfl (X.length+n+M.length+k) rfl (by simpa using p) U[k] rfl rfl rfl fun h3 E=>⟨trivial,?_⟩
  refine⟨k+1,by rw[ak _];rfl,⟨by omega,?_⟩,by omega⟩;rw[c,<-z];exact E
 ·have:k=n:=by omega
  subst this;rw[qi (l:=V) (by omega),zb (l:=U) (by omega),qi (l:=U) (by omega),zb (l:=V) (by omega)]at d;refine⟨rfl,?_⟩;simpa using d
theorem Tc(X U V Y:List bu)(a m b:Int)(J:0<U.length)(z:0<V.length)(F:a=(X.length:Int))(x:m=(X.length+U.length:Nat))(D:b=(X.length+U.length+V.length:Nat))(K:X.length+U.length+V.length+Y.length<=2^40)(H:aa B h0 h (bP s (X++(U++(V++Y)))::As)):
  ac xx 391 #[s,xl xt a,xl xt m,xl xt b,.func (.func 164) #[] #[]] h fun v h'=>v=.tuple #[]/\aa B h0 h' (bP s (X++(V++(U++Y)))::As):=by
 refine mM s a m b (164,#[],#[]) ?_;unfold ja;subst F;subst x;subst D;have G:qc xt (((X.length+U.length:Nat):Int)-X.length)=(U.length:Int):=by rw[ak _];omega
 have e2:qc xt (((X.length+U.length+V.length:Nat):Int)-(X.length+U.length:Nat))=(V.length:Int):=by rw[ak _];omega
 rw[G,e2];refine aw (fun t:List bu×List bu×List bu×List bu=>((t.2.1.length:Int),(t.2.2.1.length:Int))) (fun t h'=>0<t.2.1.length/\0<t.2.2.1.length/\X.length+t.1.length+t.2.1.length=X.length+U.length/\V++U=t.1++((t.2.2.1++t.2.1)++t.2.2.2)/\aa B h0 h' (bP s (X++(t.1++(t.2.1++(t.2.2.1++(t.2.2.2++Y)))))::As)) (fun t=>t.2.1.length+t.2.2.1.length) ([],U,V,[]) rfl ⟨J,z,by simp,by simp,by simpa using H⟩ ?_;rintro⟨P,A,c,Q⟩ u ⟨M,N,x,o,p⟩;dsimp only at*;have k:=congrArg yW o;simp only[qx]at k;refine ca (fun e=>al (fun E=>?_) (fun E=>?_)) (fun e=>?_)
 ·--the left one is longer
  have r:c.length<A.length:=by omega
  have I:A=A.take c.length++A.drop c.length:=(qI _ _).symm;have f:(A.take c.length).length=c.length:=by simp;omega
  have l:qc xt (((X.length+U.length:Nat):Int)-A.length)=((X++P).length:Int):=by rw[ak _];simp;omega
  rw[l];have d:aa B h0 u (bP s ((X++P)++(A.take c.length++(A.drop c.length++(c++(Q++Y)))))::As):=by
   have:(X++P)++(A.take c.length++(A.drop c.length++(c++(Q++Y))))=X++(P++(A++(c++(Q++Y)))):=by
    conv=>rhs;rw[I]
    simp only[qp,zB,zR]
   rw[this];exact p
  refine(ru (X++P) (A.take c.length) (A.drop c.length) c (Q++Y) c.length _ _ f rfl rfl (by simp;omega) (by simp;omega) d).mono ?_;rintro _ w ⟨rfl,i⟩;refine⟨(),rfl,(P++c,A.drop c.length,A.take c.length,Q),?_,⟨by dsimp only;simp;omega,by dsimp only;omega,by dsimp only;simp;omega,?_,?_⟩,by dsimp only;simp;omega⟩
  ·dsimp only;rw[f,ak _];simp;omega
  ·dsimp only;rw[o,qI];simp
  ·dsimp only;have:X++((P++c)++(A.drop c.length++(A.take c.length++(Q++Y))))=(X++P)++(c++(A.drop c.length++(A.take c.length++(Q++Y)))):=by simp
   rw[this];exact i
 ·have r:A.length<c.length:=by omega
  obtain⟨j,O⟩:∃j,j=c.length-A.length:=⟨_,rfl⟩
  have L:c=c.take j++c.drop j:=(qI _ _).symm;have n:(c.drop j).length=A.length:=by simp;omega
  have g:(c.take j).length=j:=by simp;omega
  have l:qc xt (((X.length+U.length:Nat):Int)-A.length)=((X++P).length:Int):=by rw[ak _];simp;omega
  have y:qc xt ((qc xt (((X.length+U.length:Nat):Int)+c.length))-A.length)=(((X++P).length+A.length+(c.take j).length:Nat):Int):=by
   rw[ak (((X.length+U.length:Nat):Int)+c.length),ak _,g];simp;omega
  rw[l,y];have d:aa B h0 u (bP s ((X++P)++(A++(c.take j++(c.drop j++(Q++Y)))))::As):=by
   have:(X++P)++(A++(c.take j++(c.drop j++(Q++Y))))=X++(P++(A++(c++(Q++Y)))):=by
    conv=>rhs;rw[L]
    simp only[qp,zB,zR]
   rw[this];exact p
  refine(ru (X++P) A (c.take j) (c.drop j) (Q++Y) A.length _ _ rfl n rfl rfl (by simp;omega) d).mono ?_;rintro _ w ⟨rfl,i⟩;refine⟨(),rfl,(P,c.drop j,c.take j,A++Q),?_,⟨by dsimp only;omega,by dsimp only;omega,by dsimp only;omega,?_,?_⟩,by dsimp only;omega⟩
  ·dsimp only;rw[g,n,ak _];congr 1;omega
  ·dsimp only;rw[o,qI];simp
  ·dsimp only;have:X++(P++(c.drop j++(c.take j++((A++Q)++Y))))=(X++P)++(c.drop j++(c.take j++(A++(Q++Y)))):=by simp
   rw[this];exact i
 ·have q:A.length=c.length:=by omega
  have l:qc xt (((X.length+U.length:Nat):Int)-A.length)=((X++P).length:Int):=by rw[ak _];simp;omega
  rw[l];have d:aa B h0 u (bP s ((X++P)++(A++([]++(c++(Q++Y)))))::As):=by
   have:(X++P)++(A++([]++(c++(Q++Y))))=X++(P++(A++(c++(Q++Y)))):=by simp
   rw[this];exact p
  refine(ru (X++P) A [] c (Q++Y) A.length _ _ rfl q.symm rfl (by simp;omega) (by simp;omega) d).mono ?_;rintro _ w ⟨rfl,i⟩;refine⟨(),rfl,rfl,?_⟩;have:X++(V++(U++Y))=(X++P)++(c++([]++(A++(Q++Y)))):=by
   have:V++(U++Y)=(V++U)++Y:=by simp
   rw[this,o];simp
  rw[this];exact i
end
end Go.Qw
namespace Wl
open Go
theorem VS(l:aX)(x:UInt8):de (l++[x])=de l*256+x.toNat:=by unfold de;rw[wN];rfl
theorem Rh:∀l:aX,l.length<=4->0<=de l/\de l<4294967296/\(l.length<=3->de l<16777216)
 |[],_=>by simp[de]
 |[a],_=>by have:=a.toNat_lt;simp only[de,zE,wQ];omega
 |[a,b],_=>by have:=a.toNat_lt;have:=b.toNat_lt;simp only[de,zE,wQ];omega
 |[a,b,c],_=>by have:=a.toNat_lt;have:=b.toNat_lt;have:=c.toNat_lt;simp only[de,zE,wQ];omega
 |[a,b,c,d],_=>by have:=a.toNat_lt;have:=b.toNat_lt;have:=c.toNat_lt;have:=d.toNat_lt;simp only[de,zE,wQ,q9,yt];omega
 |_::_::_::_::_::_,h=>by simp at h
theorem aeI(n x:Nat)(e:n<2^32)(f:x<256):qc xt (((qC (qk xt) (qc xt ((n:Int)*2^min (8:Int).toNat (qk xt)))|||qC (qk xt) (qc xt (x:Int))).toNat:Nat):Int)=(n:Int)*256+x:=by
 have c:min (8:Int).toNat (qk xt)=8:=rfl;rw[c];have d:qc xt ((n:Int)*2^8)=((n*256:Nat):Int):=by rw[Go.Vc.ak _];omega
 have e2:qc xt (x:Int)=((x:Nat):Int):=Go.Vc.ak _;rw[d,e2];have a:(qC (qk xt) ((n*256:Nat):Int)|||qC (qk xt) ((x:Nat):Int)).toNat=n*256+x:=by
  show((qC 64 ((n*256:Nat):Int)|||qC 64 ((x:Nat):Int):BitVec 64)).toNat=n*256+x;rw[BitVec.toNat_or,wT,wT,BitVec.toNat_ofNat,BitVec.toNat_ofNat,vh (by omega),vh (by omega)];have:=Nat.shiftLeft_add_eq_or_of_lt (b:=x) (i:=8) (by omega) n;rw[Nat.shiftLeft_eq,show(2:Nat)^8=256 from rfl]at this;omega
 rw[a,Go.Vc.ak _];omega
end Wl
namespace Go.Vc
open Go Wl
def dg:iJ bu cC:=⟨fun h q a b=>(a.1=b.object/\a.2.1=b.block/\a.2.2.1=b.id/\(a.2.2.2.1,a.2.2.2.2.1,a.2.2.2.2.2.1)=b.p/\a.2.2.2.2.2.2.1=b.seed/\0<=b.seed/\b.seed<4294967296)/\Seq h q a.2.2.2.2.2.2.2 1 aE b.data,fun a c=>⟨a.1,a.2.ai c⟩,fun a d=>⟨a.1,a.2.mono d⟩⟩
end Go.Vc
namespace Go.Qw
open Go Go.Vc Go.Proofs Wl
theorem xG{p q:aB}(a b:Sl)(c d:aX)(h:Heap)(f:Seq h p a 1 aE c)(e:Seq h q b 1 aE d):
  ac xx 229 #[a,b] h fun v h'=>v=xq (decide (c=d))/\h'=h:=by
 refine KT a b ?_;unfold Er;refine Ul ae ⟨_,rfl,rfl⟩ ⟨_,rfl,rfl⟩ ⟨_,rfl,rfl⟩ f (Ul ae ⟨_,rfl,rfl⟩ ⟨_,rfl,rfl⟩ ⟨_,rfl,rfl⟩ e ⟨?_,rfl⟩);rw[ByteArray.toList_mk,ByteArray.toList_mk];have:(c==d)=decide (c=d):=by rw[Bool.eq_iff_iff];simp
 rw[this]
theorem VT(b:Sl)(c:aX)(h:Heap)(g:Rd h b 1 aE c)(w:c.length<=2^30)(f:b.len<=b.cap):
  ac xx 250 #[b] h fun v h'=>(jM c=none->v=.tuple #[xl xt 0,xn none 0 0,xq false]/\Sp h h' [])/\
   ∀k x,jM c=some (k,x)->∃r:Sl,v=.tuple #[xl xt k,r,xq true]/\Sp h h' [ar 5 r 1 aE x]:=by
 refine OX b ?_;unfold Iw;have y:=g.len;refine ca (fun e=>?_) (fun e=>?_)
 ·have:jM c=none:=by unfold jM;rw[if_neg (fun a=>e (by omega))]
  rw[this];exact⟨fun _=>⟨rfl,Sp.refl h⟩,fun k x h=>(by cases h)⟩
 have n:c.length=64:=by omega
 have h3:3<c.length:=by omega
 refine g.Ps 3 rfl h3 ((c.getD 3 0).toNat:Int) (by rw[getD_lt h3];rfl) fun A j=>⟨⟨by decide,by decide,by omega⟩,?_⟩
 have d:=(g.drop 4 f).take 55 (by simp;omega);have q:((c.drop 4).take 55).length=55:=by simp;omega
 refine(fR ⟨_,55,b.cap-4⟩ ((c.drop 4).take 55) h d).mono ?_;rintro _ u ⟨r,rfl,m⟩;refine⟨r,rfl,jL m.ai ⟨j,trivial⟩,?_⟩;have z:=(c.getD 3 0).toNat_lt;rw[ak ((c.getD 3 0).toNat:Int)];refine(Gv ((c.getD 3 0).toNat:Int) r ((c.drop 4).take 55) u (m.seq 0 rfl fun _=>rfl)).mono ?_;rintro _ t ⟨p,rfl,s⟩;have i:=m.comp s;refine⟨p,rfl,(xG b p c _ t (g.up i.ai) (i.seq 1 rfl fun _=>rfl)).mono ?_⟩;rintro _ h3 ⟨rfl,rfl⟩;refine⟨_,rfl,bh (fun e2=>?_) (fun e2=>?_)⟩
 ·have o:c≠eM ((c.getD 3 0).toNat:Int) ((c.drop 4).take 55):=of_decide_eq_false e2;have:jM c=none:=by unfold jM;rw[if_neg (fun a=>o a.2.symm)]
  rw[this];exact⟨fun _=>⟨rfl,.zip i.ai⟩,fun k x h=>(by cases h)⟩
 ·have l:c=eM ((c.getD 3 0).toNat:Int) ((c.drop 4).take 55):=of_decide_eq_true e2;have:jM c=some (((c.getD 3 0).toNat:Int),(c.drop 4).take 55):=by unfold jM;rw[if_pos ⟨n,l.symm⟩]
  rw[this];refine⟨fun h=>(by cases h),fun k x a=>?_⟩;injection a with a
  injection a with hh1 hh2
  subst hh1;subst hh2;exact⟨r,rfl,i.bK [0]⟩
theorem Od(b:Sl)(l:aX)(h:Heap)(d:Rd h b 1 aE l)(m:l.length<=4):ac xx 251 #[b] h fun v h'=>v=xl xt (de l)/\h'=h:=by
 refine KZ b ?_;unfold Eu;have g:=d.len;refine aw (fun i:Nat=>(de (l.take i),(i:Int))) (fun i h'=>i<=l.length/\h'=h) (fun i=>l.length-i) 0 rfl ⟨by omega,rfl⟩ ?_;rintro i p ⟨o,rfl⟩;dsimp only;refine al (fun e=>?_) (fun e=>?_)
 ·have a:i<l.length:=by omega
  refine d.bx i rfl a (l[i].toNat:Int) rfl ⟨by decide,?_⟩;have c:=(Rh (l.take i) (by simp;omega))
  have j:=c.2.2 (by simp;omega);have k:=l[i].toNat_lt;obtain⟨n,f⟩:∃n:Nat,de (l.take i)=(n:Int):=⟨(de (l.take i)).toNat,by omega⟩
  refine⟨i+1,?_,⟨by omega,rfl⟩,by omega⟩;rw[aI _ _ a,VS,f,aeI n _ (by omega) (by omega),ak ((i:Int)+1)];rfl
 ·rw[qi (by omega)];exact⟨rfl,rfl⟩
theorem IA(x:bu)(r:cC)(h:Heap)(A:fx dg h x r):ac xx 222 #[recv x] h fun v h'=>v=xq (ia r)/\Sp h h' []:=by
 refine MU x ?_;unfold Gc;obtain⟨⟨F,e2,E,s,J,_⟩,I⟩:=A;have q:x.2.2.2.1=r.p.1:=congrArg (·.1) s;have n:x.2.2.2.2.1=r.p.2.1:=congrArg (·.2.1) s;have c:x.2.2.2.2.2.1=r.p.2.2:=congrArg (·.2.2) s;have d:=Seq.len I;refine(Sp.refl h).boxed fun a j i=>?_;have i:Sp h j [aq a 139 (bn x)]:=i;have l:=i.box 0 rfl;have u:cellOf j a=some (xl xt r.object):=by rw[<-F];exact l.cell0 rfl
 have w:cellOf j (a.add 1)=some (xl xt r.block):=by rw[<-e2];exact l.cell rfl
 have t:cellOf j (a.add 2)=some (xl xt r.id):=by rw[<-E];exact l.cell rfl
 have y:∀{h':Heap},Sp h h' [aq a 139 (bn x)]->(ia r=true->False)->Value.bool false=xq (ia r)/\Sp h h' []:=fun{h'} H' hn=>⟨by cases hq:ia r with|false=>rfl|true=>exact absurd hq hn,.zip H'.ai⟩
 refine cl (fun b h'=>b=decide ((0<=r.object/\r.object<=16777215)/\(0<=r.block/\r.block<=7)/\(0<=r.id/\r.id<=65535))/\h'=j) ?_ ?_
 ·refine⟨_,u,al (fun H=>⟨_,u,al (fun e=>⟨_,w,al (fun z=>⟨_,w,al (fun D=>⟨_,t,al (fun G=>⟨_,t,?_,rfl⟩) fun G=>⟨?_,rfl⟩⟩) fun D=>⟨?_,rfl⟩⟩) fun z=>⟨?_,rfl⟩⟩) fun e=>⟨?_,rfl⟩⟩) fun H=>⟨?_,rfl⟩⟩
  ·rw[decide_eq_decide];omega
  all_goals (symm;rw[decide_eq_false_iff_not];omega)
 ·rintro _ _ ⟨rfl,rfl⟩;refine al (fun g=>?_) fun g=>y i fun o=>g (by have:=(ge r).1 o;omega);refine⟨r.p,by rw[<-q,<-n,<-c];exact l.HJ 3 rfl rfl rfl,(ey r.p _).mono ?_⟩;rintro _ h3 ⟨rfl,B⟩;have m:Sp h h3 [aq a 139 (bn x)]:=i.up B.ai;have f:=m.box 0 rfl;refine⟨_,rfl,bw (fun e=>?_) fun e=>y m fun o=>by have:=((ge r).1 o).2.2.2.1;rw[e]at this;cases this⟩;refine⟨x.2.2.2.2.2.2.2,f.cell rfl,r.p.2.2,by rw[<-c];exact f.tK 3 2 rfl,?_,.zip m.ai⟩;congr 1;by_cases k:(r.data.length:Int)=r.p.2.2
  ·have:ia r=true:=(ge r).2 ⟨by omega,by omega,by omega,e,k⟩;rw[this,d];simpa using k
  ·have:ia r=false:=by
    cases hq:ia r with
    |false=>rfl
    |true=>exact absurd ((ge r).1 hq).2.2.2.2 k
   rw[this,d];simpa using k
section
variable {B:aB} {h0 h h':Heap} {As:List HP}
theorem mN(s:Sl)(l:aX)(n:Int)(k:Nat)(p:k<=4)(m:l.length<=2^30)(H:aa B h0 h (ar 5 s 1 aE l::As)):
  ac xx 223 #[s,xl xt n,xl xt k] h fun v h'=>∃r:Sl,v=r/\aa B h0 h' (ar 5 r 1 aE (l++bN n k)::As):=by
 refine HS s n k ?_;unfold AH;rw[ak ((k:Int)-1)];refine aw (fun t:Sl×Nat=>(t.1,(k:Int)-1-t.2)) (fun t h'=>t.2<=k/\aa B h0 h' (ar 5 t.1 1 aE (l++(bN n k).take t.2)::As)) (fun t=>k-t.2) (s,0) (by simp) ⟨by simp,by simpa using H⟩ ?_;rintro⟨r,t⟩ q ⟨o,b⟩;dsimp only at*;refine al (fun e=>?_) (fun e=>?_)
 ·have a:t<k:=by omega
  have d:qc xt ((8:Int)*((k:Int)-1-t))=((8*(k-1-t):Nat):Int):=by
   rw[ak _];omega
  rw[d,qo];have e2:min (8*(k-1-t)) (qk xt)=8*(k-1-t):=by
   have:qk xt=64:=rfl;omega
  rw[e2,eu];refine⟨by omega,?_⟩;refine b.push ae 0 rfl ga rfl (by decide) (fun _=>rfl) gw (b8 (qU n (2^(8*(k-1-t))))) rfl (by decide) (by simp[co];omega) fun g j f=>?_;refine⟨(g,t+1),?_,⟨by dsimp only;omega,?_⟩,by dsimp only;omega⟩
  ·dsimp only;have c:qc xt ((k:Int)-1-t-1)=(k:Int)-1-((t+1:Nat):Int):=by
    rw[ak _];omega
   rw[c]
  ·dsimp only;have i:(bN n k).take t++[b8 (qU n (2^(8*(k-1-t))))]=(bN n k).take (t+1):=by
    rw[aI _ _ (by rw[co];exact a)];congr 2;simp[bN]
   rw[<-i,<-qp];exact f
 ·have:t=k:=by omega
  subst this;rw[qi (by rw[co];omega)]at b;exact⟨r,rfl,b⟩
end
theorem rP(x:bu)(r:cC)(h:Heap)(D:fx dg h x r):ac xx 130 #[recv x] h fun v h'=>∃s:Sl,v=s/\Sp h h' [ar 5 s 1 aE (cy r)]:=by
 refine MN x ?_;unfold FT;obtain⟨⟨R,e2,P,w,Q,e7,e8⟩,X⟩:=id D;have u:x.2.2.2.1=r.p.1:=congrArg (·.1) w;have j:x.2.2.2.2.1=r.p.2.1:=congrArg (·.2.1) w;have i:x.2.2.2.2.2.1=r.p.2.2:=congrArg (·.2.2) w;refine(Sp.refl h).boxed fun e K b=>?_;have b:Sp h K [aq e 139 (bn x)]:=b;refine⟨x,(b.box 0 rfl).aL _ rfl,(IA x r K (dg.mono (dg.loc D b.ai) fun _ N=>qY N b.ai.1)).mono ?_⟩;rintro _ M ⟨rfl,Y⟩;have q:Sp h M [aq e 139 (bn x)]:=b.up Y.ai;refine⟨_,rfl,bh (fun g=>?_) (fun g=>?_)⟩
 ·unfold cy;rw[g];exact⟨⟨none,0,0⟩,rfl,(q.nil 5 1 aE).bK [1]⟩
 have U:=nX g;have t:=q.box 0 rfl;refine⟨r.object,by rw[<-R];exact t.cell0 rfl,(mN ⟨none,0,0⟩ [] r.object 3 (by decide) (by simp) (q.nil 5 1 aE).bC).mono ?_⟩;rintro _ h3 ⟨G,rfl,z⟩;have n:=z.box 1 rfl;refine⟨G,rfl,r.block,by rw[<-e2];exact n.cell rfl,(mN G _ r.block 1 (by decide) (by simp[co]) z).mono ?_⟩;rintro _ Z ⟨H,rfl,A⟩;have k:=A.box 1 rfl;refine⟨H,rfl,r.id,by rw[<-P];exact k.cell rfl,(mN H _ r.id 2 (by decide) (by simp[co]) A).mono ?_⟩;rintro _ h5 ⟨L,rfl,F⟩;have a:=F.box 1 rfl;refine⟨L,rfl,r.p.1,by rw[<-u];exact a.cell rfl,r.p.2.1,by rw[<-j];exact a.tK 3 1 rfl,r.p.2.2,by rw[<-i];exact a.tK 3 2 rfl,?_⟩;rw[eu,eu,eu];refine F.lit ae aE ga rfl [b8 r.p.1,b8 r.p.2.1,b8 r.p.2.2] rfl (show 3*1<=2^20 by decide) rfl fun T h6 E=>?_;refine E.append ae 0 rfl ga ⟨_,_,rfl,rfl⟩ rfl (by decide) (fun _=>rfl) (E.seq 2 rfl fun _=>rfl) gw (by simp[co]) fun I O d=>?_;have d:Sp h O [ar 5 I 1 aE ([]++bN r.object 3++bN r.block 1++bN r.id 2++[b8 r.p.1,b8 r.p.2.1,b8 r.p.2.2]),aq e 139 (bn x)]:=d.bK [0,1];have y:=d.box 1 rfl;refine⟨r.seed,by rw[<-Q];exact y.cell rfl,?_⟩;rw[ak r.seed];refine(mN I _ r.seed 4 (by decide) (by simp[co]) d).mono ?_;rintro _ h8 ⟨W,rfl,m⟩;have l:=m.box 1 rfl;refine⟨W,rfl,x.2.2.2.2.2.2.2,l.cell rfl,?_⟩;refine m.append ae 0 rfl ga ⟨_,_,rfl,rfl⟩ rfl (by decide) (fun _=>rfl) (Seq.up X m.ai) gw (by simp[co];omega) fun J B f=>?_;have V:[]++bN r.object 3++bN r.block 1++bN r.id 2++[b8 r.p.1,b8 r.p.2.1,b8 r.p.2.2]++bN r.seed 4++r.data=iD r:=by unfold iD;simp[qp]
 have f:Sp h B [ar 5 J 1 aE (iD r),aq e 139 (bn x)]:=by rw[<-V];exact f
 refine(Gv 1 J (iD r) B (f.seq 0 rfl fun _=>rfl)).mono ?_;rintro _ S ⟨c,rfl,o⟩;refine⟨c,rfl,c,rfl,?_⟩;unfold cy;rw[g,if_pos rfl];exact(f.comp o).bK [2]
theorem Ri(b:Sl)(c:aX)(h:Heap)(hb:Rd h b 1 aE c)(hc:c.length<=2^30)(Z:b.len<=b.cap):
  ac xx 161 #[b] h fun v h'=>∃x:bu,v=.tuple #[recv x,xq (dp c).isSome]/\(dp c=none->Sp h h' [])/\∀r,dp c=some r->Sp h h' [EA dg x r]:=by
 refine KL b ?_;unfold Ej;refine(Sp.refl h).alloc ae rfl fun f h1 H1=>?_;have H1:Sp h h1 [aq f 139 (bn (0,0,0,0,0,0,0,⟨none,0,0⟩))]:=H1;have D:∀{h':Heap} {Bs:List HP},Sp h h' (aq f 139 (bn (0,0,0,0,0,0,0,⟨none,0,0⟩))::Bs)->dp c=none->
   ag xx (qf 139 (xo (some f)) (recv (0,0,0,0,0,0,0,⟨none,0,0⟩))) h' fun _ H=>∃P:bu,aj H f 0 (bn P)/\∃x:bu,Value.tuple #[recv P,xq false]=.tuple #[recv x,xq (dp c).isSome]/\(dp c=none->Sp h H [])/\∀r,dp c=some r->Sp h H [EA dg x r]:=fun{h' Bs} H' F=>by
  refine H'.storeAll ae 0 rfl rfl (bn (0,0,0,0,0,0,0,⟨none,0,0⟩)) rfl rfl rfl rfl fun H H4=>?_;exact⟨(0,0,0,0,0,0,0,⟨none,0,0⟩),(H4.box 0 rfl).aL _ rfl,(0,0,0,0,0,0,0,⟨none,0,0⟩),by rw[F];rfl,fun _=>.zip H4.ai,fun r O=>by rw[F]at O;cases O⟩
 refine(VT b c h1 (hb.up H1.ai) hc Z).mono ?_;rintro _ h2 ⟨Q0,Q1⟩;cases htc:jM c with
 |none=>
  obtain⟨rfl,R2⟩:=Q0 htc;have F:dp c=none:=by unfold dp;rw[htc]
  exact⟨(0,⟨none,0,0⟩,false),rfl,be (bh (fun _=>D (H1.up R2.ai) F) fun e=>by cases e)⟩
 |some kx=>
  obtain⟨k,x⟩:=kx;obtain⟨r,rfl,R2⟩:=Q1 k x htc;have s:Sp h h2 [aq f 139 (bn (0,0,0,0,0,0,0,⟨none,0,0⟩)),ar 5 r 1 aE x]:=H1.comp R2;have a2:x.length=55:=by
   unfold jM at htc;split at htc
   ·rename_i m;injection htc with htc
    injection htc with _ htc
    rw[<-htc];simp;omega
   ·cases htc
  have bb:=(s.own 1 rfl).len;have S:=(s.own 1 rfl).cap;refine⟨(k,r,true),rfl,be (bh (fun e=>by cases e) fun _=>ca (fun e=>D s ?_) fun J=>?_)⟩
  ·unfold dp;rw[htc];exact if_neg fun m=>e m.1
  dsimp only;have J:k=1:=J;obtain⟨R,t⟩:∃R,R=tV x:=⟨_,rfl⟩
  have I:dp c=if bL R.p=true/\cy R=c then some R else none:=by
   unfold dp;rw[htc];dsimp only;rw[<-t];by_cases m:bL R.p=true/\cy R=c
   ·rw[if_pos m];exact if_pos ⟨J,m⟩
   ·rw[if_neg m];exact if_neg fun h=>m h.2
  have tA:∀{h':Heap},Rd h' r 1 aE x->ac xx 251 #[xn r.ptr 3 r.cap] h' fun v M=>v=xl xt R.object/\M=h':=fun{h'} O=>by
   rw[t];exact Od ⟨r.ptr,3,r.cap⟩ (x.take 3) h' (O.take 3 (by omega)) (by simp;omega)
  have N:∀{h':Heap} (j n:Nat),j+n<=55->n<=4->Rd h' r 1 aE x->ac xx 251 #[.slice (if r.cap=j then r.ptr else r.ptr.map (·.add (j*1))) n (r.cap-j)] h' fun v M=>v=xl xt (de ((x.drop j).take n))/\M=h':=fun{h'} j n hjn F O=>
   Od ⟨if r.cap=j then r.ptr else r.ptr.map (·.add (j*1)),n,r.cap-j⟩ ((x.drop j).take n) h' ((O.drop j S).take n (by rw[za];omega)) (by simp;omega)
  have rd:∀{h':Heap} {A:HP} {Bs:List HP},Sp h h' (A::ar 5 r 1 aE x::Bs)->Rd h' r 1 aE x:=fun{h' A Bs} H'=>H'.seq 1 rfl fun _=>rfl;have Ie:∀{h':Heap} {A A2:HP} {Bs:List HP},Sp h h' (A::A2::ar 5 r 1 aE x::Bs)->Rd h' r 1 aE x:=fun{h' A A2 Bs} H'=>H'.seq 2 rfl fun _=>rfl;refine cl (fun(a:Addr) h'=>Sp h h' [aq a 139 (bn (R.object,R.block,R.id,0,0,0,0,⟨none,0,0⟩)),aq f 139 (bn (0,0,0,0,0,0,0,⟨none,0,0⟩)),ar 5 r 1 aE x]) ?_ ?_
  ·have eb:de ((x.drop 3).take 1)=R.block:=by rw[t];rfl
   have ei:de ((x.drop 4).take 2)=R.id:=by rw[t];rfl
   have fin:∀{h':Heap} {a:Addr},Sp h h' [aq f 139 (bn (0,0,0,0,0,0,0,⟨none,0,0⟩)),ar 5 r 1 aE x,aq a 139 (bn (0,0,0,0,0,0,0,⟨none,0,0⟩))]->
     ag xx (qf 139 (xo (some a)) (recv (R.object,R.block,R.id,0,0,0,0,⟨none,0,0⟩))) h' fun _ H=>av.ok [] H/\Sp h H [aq a 139 (bn (R.object,R.block,R.id,0,0,0,0,⟨none,0,0⟩)),aq f 139 (bn (0,0,0,0,0,0,0,⟨none,0,0⟩)),ar 5 r 1 aE x]:=fun{h' a} H'=>
    H'.storeAll ae 2 rfl rfl (bn (R.object,R.block,R.id,0,0,0,0,⟨none,0,0⟩)) rfl rfl rfl rfl fun H H4=>⟨trivial,H4.bK [2,0,1]⟩
   have A_:∀{h':Heap} {Bs:List HP} {K:Int->Heap->Prop},Sp h h' (aq f 139 (bn (0,0,0,0,0,0,0,⟨none,0,0⟩))::ar 5 r 1 aE x::Bs)->K R.object h'->af xx 251 #[xn r.ptr 3 r.cap] (.one (.sc (.int .i64))) h' K:=fun{h' Bs K} H' hK=>by
    refine(tA (rd H')).mono ?_;rintro _ _ ⟨rfl,rfl⟩;exact⟨_,rfl,hK⟩
   have B_:∀{h':Heap} {Bs:List HP} {K:Int->Heap->Prop},Sp h h' (aq f 139 (bn (0,0,0,0,0,0,0,⟨none,0,0⟩))::ar 5 r 1 aE x::Bs)->K R.block h'->af xx 251 #[.slice (if r.cap=3 then r.ptr else r.ptr.map (·.add (3*1))) 1 (r.cap-3)] (.one (.sc (.int .i64))) h' K:=fun{h' Bs K} H' hK=>by
    refine(N 3 1 (by decide) (by decide) (rd H')).mono ?_;rintro _ _ ⟨rfl,rfl⟩;exact⟨_,rfl,by rw[eb];exact hK⟩
   have C_:∀{h':Heap} {Bs:List HP} {K:Int->Heap->Prop},Sp h h' (aq f 139 (bn (0,0,0,0,0,0,0,⟨none,0,0⟩))::ar 5 r 1 aE x::Bs)->K R.id h'->af xx 251 #[.slice (if r.cap=4 then r.ptr else r.ptr.map (·.add (4*1))) 2 (r.cap-4)] (.one (.sc (.int .i64))) h' K:=fun{h' Bs K} H' hK=>by
    refine(N 4 2 (by decide) (by decide) (rd H')).mono ?_;rintro _ _ ⟨rfl,rfl⟩;exact⟨_,rfl,by rw[ei];exact hK⟩
   refine⟨⟨by decide,by omega⟩,⟨by decide,by decide,by omega⟩,⟨by decide,by decide,by omega⟩,A_ s ⟨trivial,B_ s ⟨trivial,C_ s ⟨trivial,?_⟩,?_⟩,?_⟩,?_⟩
   ·refine s.alloc ae rfl fun a9 h9 i=>⟨trivial,?_⟩
    exact fin i
   ·refine s.alloc ae rfl fun a9 h9 i=>⟨trivial,?_⟩
    exact C_ i ⟨trivial,fin i⟩
   ·refine s.alloc ae rfl fun a9 h9 i=>⟨trivial,?_⟩
    exact B_ i ⟨trivial,C_ i ⟨trivial,fin i⟩⟩
   ·refine s.alloc ae rfl fun a9 h9 i=>⟨trivial,?_⟩
    exact A_ i ⟨trivial,B_ i ⟨trivial,C_ i ⟨trivial,fin i⟩⟩⟩
  ·rintro a9 h5 H5;have L:0<=R.seed/\R.seed<4294967296:=by
    have:=Rh ((x.drop 9).take 4) (by simp;omega);rw[t];exact⟨this.1,this.2.1⟩
   have e6:de ((x.drop 6).take 1)=R.p.1:=by rw[t];rfl
   have e7:de ((x.drop 7).take 1)=R.p.2.1:=by rw[t];rfl
   have e8:de ((x.drop 8).take 1)=R.p.2.2:=by rw[t];rfl
   have e9:de ((x.drop 9).take 4)=R.seed:=by rw[t];rfl
   refine be ⟨⟨by decide,by decide,by omega⟩,⟨by decide,by decide,by omega⟩,⟨by decide,by decide,by omega⟩,(N 6 1 (by decide) (by decide) (Ie H5)).mono ?_⟩;rintro _ _ ⟨rfl,rfl⟩;refine⟨_,rfl,trivial,(N 7 1 (by decide) (by decide) (Ie H5)).mono ?_⟩;rintro _ _ ⟨rfl,rfl⟩;refine⟨_,rfl,trivial,(N 8 1 (by decide) (by decide) (Ie H5)).mono ?_⟩;rintro _ a4 ⟨rfl,rfl⟩;refine⟨_,rfl,trivial,?_⟩;dsimp only;rw[e6,e7,e8];refine H5.store ae 0 rfl rfl 3 [xl xt R.p.1,xl xt R.p.2.1,xl xt R.p.2.2] rfl rfl rfl (by simp) fun ay z=>⟨trivial,?_⟩
   have z:Sp h ay [aq a9 139 (bn (R.object,R.block,R.id,R.p.1,R.p.2.1,R.p.2.2,0,⟨none,0,0⟩)),aq f 139 (bn (0,0,0,0,0,0,0,⟨none,0,0⟩)),ar 5 r 1 aE x]:=z;refine⟨⟨by decide,by decide,by omega⟩,(N 9 4 (by decide) (by decide) (Ie z)).mono ?_⟩;rintro _ a3 ⟨rfl,rfl⟩;refine⟨_,rfl,?_⟩;dsimp only;have ew:qc xv (de ((x.drop 9).take 4))=R.seed:=by
    rw[e9];unfold qc;simp[qk,yR];omega
   rw[ew];refine z.store ae 0 rfl rfl 6 [xl xv R.seed] rfl rfl rfl (by simp) fun T y=>?_;have y:Sp h T [aq a9 139 (bn (R.object,R.block,R.id,R.p.1,R.p.2.1,R.p.2.2,R.seed,⟨none,0,0⟩)),aq f 139 (bn (0,0,0,0,0,0,0,⟨none,0,0⟩)),ar 5 r 1 aE x]:=y;refine⟨R.p,(y.box 0 rfl).HJ 3 rfl rfl rfl,(ey R.p T).mono ?_⟩;rintro _ Q ⟨rfl,ao⟩;have B:Sp h Q [aq a9 139 (bn (R.object,R.block,R.id,R.p.1,R.p.2.1,R.p.2.2,R.seed,⟨none,0,0⟩)),aq f 139 (bn (0,0,0,0,0,0,0,⟨none,0,0⟩)),ar 5 r 1 aE x]:=y.up ao.ai;refine⟨_,rfl,bh (fun g=>D (B.bi 2 [1,0]) (by rw[I,if_neg (fun m=>by rw[g]at m;cases m.1)])) fun g=>?_⟩;have a7:=(bM R.p).1 g;refine⟨R.p.2.2,(B.box 0 rfl).tK 3 2 rfl,?_⟩;rw[ak ((13:Int)+R.p.2.2)];refine⟨⟨by decide,by omega,by omega⟩,?_⟩;have ad:((13:Int)+R.p.2.2).toNat-(13:Int).toNat=R.p.2.2.toNat:=by omega
   rw[ad];have E:(x.drop 13).take R.p.2.2.toNat=R.data:=by rw[t];rfl
   have G:=((Ie B).drop 13 S).take R.p.2.2.toNat (by rw[za];omega);rw[E]at G;have a8:R.data.length=R.p.2.2.toNat:=by rw[<-E];simp;omega
   refine(fR ⟨if r.cap=13 then r.ptr else r.ptr.map (·.add (13*1)),R.p.2.2.toNat,r.cap-13⟩ R.data Q G).mono ?_;rintro _ a5 ⟨u,rfl,am⟩;have a0:=B.comp am;refine⟨u,rfl,?_⟩;refine a0.store ae 0 rfl rfl 7 [u] rfl rfl rfl (by simp) fun Y l=>?_;have l:Sp h Y [aq a9 139 (bn (R.object,R.block,R.id,R.p.1,R.p.2.1,R.p.2.2,R.seed,u)),aq f 139 (bn (0,0,0,0,0,0,0,⟨none,0,0⟩)),ar 5 r 1 aE x,ar 5 u 1 aE R.data]:=l;obtain⟨X,hX⟩:∃X:bu,X=(R.object,R.block,R.id,R.p.1,R.p.2.1,R.p.2.2,R.seed,u):=⟨_,rfl⟩
   rw[<-hX]at l;have W:∀{h':Heap} {q:aB},Seq h' q u 1 aE R.data->dg.p h' q X R:=fun{h' q} hs=>by rw[hX];exact⟨⟨rfl,rfl,rfl,rfl,rfl,L⟩,hs⟩
   refine⟨X,(l.box 0 rfl).aL _ rfl,(rP X R Y (W (l.seq 3 rfl fun _=>rfl))).mono ?_⟩;rintro _ ap ⟨s5,rfl,ah⟩;have o:=l.comp ah;refine⟨s5,rfl,(xG b s5 c (cy R) ap (hb.up o.ai) (o.seq 4 rfl fun _=>rfl)).mono ?_⟩;rintro _ a6 ⟨rfl,rfl⟩;refine⟨_,rfl,bh (fun V=>D (o.bi 2 [1,0]) (by rw[I,if_neg (fun m=>(of_decide_eq_false V) m.2.symm)])) fun V=>?_⟩;have V:c=cy R:=of_decide_eq_true V;refine⟨X,(o.box 0 rfl).aL _ rfl,?_⟩;refine o.storeAll ae 1 rfl rfl (bn X) rfl rfl rfl rfl fun ax U=>?_;have d:dp c=some R:=by rw[I,if_pos ⟨g,V.symm⟩]
   refine⟨X,(U.box 1 rfl).aL _ rfl,X,by rw[d];rfl,fun F=>(by rw[d]at F;cases F),fun r' w=>?_⟩;rw[d]at w;injection w with w
   subst w;have ab:Sp h ax [ar 5 u 1 aE R.data]:=U.bK [3];exact ab.fO 0 rfl fun q hq=>W (hq.1.seq (fun _=>rfl) hq.2)
end Go.Qw
namespace Go.Vc
open Go Wl Go.Qw
section
variable {B:aB} {h0 h h':Heap} {As L:List HP} {X Y Z:HP}
theorem aa.afz(H:aa B h0 h (X::Y::(L++As))):aa B h0 h (L++(X::Y::As)):=
 H.pick (fun i=>if i<L.length then i+2 else if i=L.length then 0 else if i=L.length+1 then 1 else i) (fun a b c=>by(try dsimp only at c);split at c<;>split at c<;>(try split at c)<;>(try split at c)<;>(try split at c)<;>(try split at c)<;>omega) fun i A d=>by
  try dsimp only
  by_cases g:i<L.length
  ·rw[qm g]at d;rw[if_pos g,qy,qy,qm g];exact d
  ·rw[qj (by omega)]at d;rw[if_neg g];by_cases f:i=L.length
   ·subst f;rw[if_pos rfl];rw[zi]at d;exact d
   ·rw[if_neg f];by_cases e:i=L.length+1
    ·subst e;rw[if_pos rfl];rw[show L.length+1-L.length=1 by omega]at d;exact d
    ·rw[if_neg e];obtain⟨j,rfl⟩:∃j,i=L.length+(j+2):=⟨i-L.length-2,by omega⟩
     rw[zq,qy,qy]at d;rw[show L.length+(j+2)=(L.length+j)+1+1 by omega,qy,qy,qj (by omega),zq];exact d
theorem aa.adt(n:Nat)(b:L[n]?=some X)(H:aa B h0 h (Y::Z::(L++As))):aa B h0 h (X::Z::Y::(L.set n emp++As)):=by
 have a:=(qn.1 b).1;have c:=H.cons (n+2) (A:=X) (by rw[qy,qy,qm a];exact b);have e:(Y::Z::(L++As)).set (n+2) emp=Y::Z::(L.set n emp++As):=by
  rw[zL,zL,List.set_append_left _ _ a]
 rw[e]at c;exact c.bi 3 [0,2,1]
theorem aa.Uz(n:Nat)(g:n<L.length)(H:aa B h0 h (X::Z::Y::(L.set n emp++As))):aa B h0 h (Y::Z::(L.set n X++As)):=
 H.pick (fun i=>if i=0 then 2 else if i=1 then 1 else if i=n+2 then 0 else i+1) (fun a b c=>by(try dsimp only at c);split at c<;>split at c<;>(try split at c)<;>(try split at c)<;>(try split at c)<;>(try split at c)<;>omega) fun i A d=>by
  try dsimp only
  match i,d with
  |0,d=>exact d
  |1,d=>exact d
  |i+2,d=>
   rw[if_neg (by omega),if_neg (by omega)];rw[qy,qy]at d;by_cases e:i=n
   ·subst e;rw[qm (by simpa using g),zy g]at d;rw[if_pos rfl];exact d
   ·rw[if_neg (by omega),qy,qy,qy];by_cases f:i<L.length
    ·rw[qm (by simpa using f),zN (by omega)]at d;rw[qm (by simpa using f),zN (by omega)];exact d
    ·rw[qj (by simp;omega),zA]at d;rw[qj (by simp;omega),zA];exact d
end
structure Kit where
 tS:Nat
 tP:Nat
 tD:Nat
 f:Addr->bB->Sl->Sl->aW
def aeJ(k:Kit)(pw:Addr)(a:aO)(d:Option bB):HP:=match a,d with
 |some a,some d=>kX k.tD (k.f pw) a d
 |_,_=>emp
abbrev dh(a:aW)(pw:Addr)(offs:Int)(b:List aO):aW:=a++(xo (some pw)::xl xt offs::b.map .pointer)
structure gm (mc:aW) (da:List aO) (ds:aT):Prop where
 l8:mc.length=8
 la:da.length=64
 ls:ds.length=64
 same:∀i:Nat,(da.getD i none).isSome=(ds.getD i none).isSome
abbrev gK(k:Kit)(pw:Addr)(a:List aO)(ds:aT):List HP:=zo (aeJ k pw) a ds
def aV(k:Kit)(a pw:Addr)(c:aW)(offs:Int)(b:List aO)(w:Pow)(ds:aT):HP:=
 (HP.all (aq a k.tS (dh c pw offs b)::dN k.tP pw w::gK k pw b ds)).and (gm c b ds)
section
variable {k:Kit} {B:aB} {h0 h h':Heap} {As:List HP} {a pw:Addr} {mc:aW} {offs:Int} {da:List aO} {w w':Pow} {ds:aT} {d d':bB} {n:Nat}
theorem JA(ok:gm mc da ds):(gK k pw da ds).length=64:=by simp[gK,ok.la,ok.ls]
theorem aa.rv(H:aa B h0 h (aV k a pw mc offs da w ds::As)):gm mc da ds/\aa B h0 h (aq a k.tS (dh mc pw offs da)::dN k.tP pw w::(gK k pw da ds++As)):=by
 obtain⟨H,ok⟩:=H.IV;exact⟨ok,H.BI⟩
theorem aa.sG(ok:gm mc da ds)(H:aa B h0 h (aq a k.tS (dh mc pw offs da)::dN k.tP pw w::(gK k pw da ds++As))):aa B h0 h (aV k a pw mc offs da w ds::As):=
 (aa.closeAll (aq a k.tS (dh mc pw offs da)::dN k.tP pw w::gK k pw da ds) H).toIV ok
theorem gm.addr(ok:gm mc da ds)(c:ds[n]?=some (some d)):∃b,da[n]?=some (some b):=by
 have e:n<64:=by have:=(qn.1 c).1;rw[ok.ls]at this;exact this
 have a:=ok.same n;rw[qe,qe,c]at a;have g:n<da.length:=by rw[ok.la];exact e
 rw[qd g]at a⊢;simp at a;obtain⟨b,f⟩:=vq.1 a;exact⟨b,by rw[f]⟩
theorem gm.Yl(ok:gm mc da ds)(b:n<64)(d:ds[n]?=some none):da[n]?=some none:=by
 have a:=ok.same n;rw[qe,qe,d]at a;have c:n<da.length:=by rw[ok.la];exact b
 rw[qd c]at a⊢;simp at a;rw[a]
theorem gm.set(ok:gm mc da ds){b:Addr}(c:da[n]?=some (some b)):gm mc da (ds.set n (some d')):=by
 refine⟨ok.l8,ok.la,by rw[zA];exact ok.ls,fun i=>?_⟩;by_cases a:n=i
 ·subst a;have d:n<ds.length:=by have:=(qn.1 c).1;rw[ok.la]at this;rw[ok.ls];exact this
  rw[qe,c,qe,zy d];rfl
 ·rw[qe (l:=ds.set n _),zN a,<-qe];exact ok.same i
theorem aaJ{b:Addr}(c:da[n]?=some (some b))(d:n<ds.length):(gK k pw da ds).set n (kX k.tD (k.f pw) b d')=gK k pw da (ds.set n (some d')):=by
 apply zD;intro j;have e:n<da.length:=(qn.1 c).1;simp only[gK,qX,wv,vn];by_cases a:n=j
 ·subst a;rw[if_pos rfl,if_pos (by omega),if_pos rfl,if_pos d,c];rfl
 ·simp[a]
def Pv(k:Kit)(a pw:Addr)(c:aW)(offs:Int)(b:List aO)(ds:aT)(n:Nat):HP:=
 (HP.all (aq a k.tS (dh c pw offs b)::(gK k pw b ds).set n emp)).and (gm c b ds)
theorem aa.kP(H:aa B h0 h (aV k a pw mc offs da w ds::As))(e:ds[n]?=some (some d)):∃b,da[n]?=some (some b)/\aa B h0 h (kX k.tD (k.f pw) b d::dN k.tP pw w::Pv k a pw mc offs da ds n::As):=by
 obtain⟨ok,j⟩:=H.rv;obtain⟨b,c⟩:=ok.addr e;refine⟨b,c,?_⟩;have i:(gK k pw da ds)[n]?=some (kX k.tD (k.f pw) b d):=by
  simp only[gK,wv,c,e];rfl
 have l:=j.adt n i;have g:aa B h0 h (kX k.tD (k.f pw) b d::dN k.tP pw w::((aq a k.tS (dh mc pw offs da)::(gK k pw da ds).set n emp)++As)):=l;exact(((aa.closeAll _ g.afz).toIV ok).bi 3 [1,2,0]:aa B h0 h (kX k.tD (k.f pw) b d::dN k.tP pw w::Pv k a pw mc offs da ds n::As))
theorem aa.DB{b:Addr}(j:da[n]?=some (some b))(H:aa B h0 h (kX k.tD (k.f pw) b d'::dN k.tP pw w'::Pv k a pw mc offs da ds n::As)):aa B h0 h (aV k a pw mc offs da w' (ds.set n (some d'))::As):=by
 have m:aa B h0 h (Pv k a pw mc offs da ds n::dN k.tP pw w'::kX k.tD (k.f pw) b d'::As):=H.bi 3 [2,1,0];obtain⟨m,ok⟩:=m.IV;have q:=m.BI;have o:n<ds.length:=by have:=(qn.1 j).1;rw[ok.la]at this;rw[ok.ls];exact this
 have t:=JA (k:=k) (pw:=pw) ok;have g:n<(gK k pw da ds).length:=by rw[t,<-ok.ls];exact o
 obtain⟨L,r⟩:∃L,L=gK k pw da ds:=⟨_,rfl⟩
 rw[<-r]at q g;have s:aa B h0 h (kX k.tD (k.f pw) b d'::dN k.tP pw w'::aq a k.tS (dh mc pw offs da)::(L.set n emp++As)):=by
  refine q.pick (fun i=>if i=0 then 1+L.length+1 else if i=1 then 1+L.length else if i=2 then 0 else if i<3+L.length then i-2 else i) (fun x y c=>by(try dsimp only at c);split at c<;>split at c<;>(try split at c)<;>(try split at c)<;>(try split at c)<;>(try split at c)<;>(try split at c)<;>(try split at c)<;>omega) fun i A e=>?_
  try dsimp only
  have d:(aq a k.tS (dh mc pw offs da)::L.set n emp).length=1+L.length:=by simp;omega
  match i,e with
  |0,e=>rw[if_pos rfl,qj (by omega),d,show 1+L.length+1-(1+L.length)=1 by omega];exact e
  |1,e=>rw[if_neg (by omega),if_pos rfl,qj (by omega),d,zi];exact e
  |2,e=>rw[if_neg (by omega),if_neg (by omega),if_pos rfl];exact e
  |i+3,e=>
   rw[if_neg (by omega),if_neg (by omega),if_neg (by omega)];rw[qy,qy,qy]at e;by_cases l:i<L.length
   ·rw[if_pos (by omega),show i+3-2=i+1 by omega,qm (by rw[d];omega),qy];rw[qm (by simpa using l)]at e;exact e
   ·rw[if_neg (by omega),qj (by rw[d];omega),d,show i+3-(1+L.length)=(i-L.length)+2 by omega,qy,qy];rw[qj (by simp;omega),zA]at e;exact e
 have p:=aa.Uz n g s;rw[r,aaJ j o]at p;exact p.sG (ok.set j)
end
def dX:iJ (Int×Sl) (Int×aX):=⟨fun h q a b=>a.1=b.1/\Seq h q a.2 1 aE b.2,fun a c=>⟨a.1,a.2.ai c⟩,fun a d=>⟨a.1,a.2.mono d⟩⟩
def piv(x:Int×Sl):aW:=[xl xt x.1,x.2]
theorem HK:∀x,∀c∈piv x,c.oneCell'=true:=by intro x c a;simp[piv]at a;rcases a with rfl|rfl<;>rfl
def iR(b:List aO)(a:Int):aO:=if 0<=a/\a<64 then(b[a.toNat]?).join else none
theorem lc{i:aW}{e:List aO}{ds:aT}(ok:gm i e ds)(a:Int):
  (bp ds a=none/\iR e a=none)∨∃(n:Nat) (d:bB) (b:Addr),a=n/\n<64/\ds[n]?=some (some d)/\bp ds a=some d/\e[n]?=some (some b)/\iR e a=some b:=by
 unfold bp iR;by_cases h:0<=a/\a<64
 ·rw[if_pos h,if_pos h];have f:a.toNat<ds.length:=by rw[ok.ls];omega
  cases hd:ds[a.toNat]with
  |none=>
   have c:ds[a.toNat]?=some none:=by rw[qd f,hd]
   exact .inl ⟨by rw[c];rfl,by rw[ok.Yl (by omega) c];rfl⟩
  |some d=>
   have c:ds[a.toNat]?=some (some d):=by rw[qd f,hd]
   obtain⟨b,g⟩:=ok.addr c;exact .inr ⟨a.toNat,d,b,by omega,by omega,c,by rw[c];rfl,g,by rw[g];rfl⟩
 ·rw[if_neg h,if_neg h];exact .inl ⟨rfl,rfl⟩
theorem oy{a:aW}{pw:Addr}{offs:Int}{b:List aO}(h8:a.length=8)(n:Nat):(dh a pw offs b)[10+n]?=(b[n]?).map .pointer:=by
 unfold dh;rw[qj (by omega),h8,show 10+n-8=n+1+1 by omega,qy,qy,qO]
theorem aaK{a:aW}{pw:Addr}{offs:Int}{b:List aO}(h8:a.length=8):(dh a pw offs b)[8]?=some (xo (some pw)):=by
 unfold dh;rw[qj (by omega),h8];rfl
theorem VU{a:aW}{pw:Addr}{offs:Int}{b:List aO}(h8:a.length=8):(dh a pw offs b)[9]?=some (xl xt offs):=by
 unfold dh;rw[qj (by omega),h8];rfl
end Go.Vc
namespace Go.Qw
open Go Go.Vc Go.Proofs Wl
abbrev bj:Go.Vc.Kit:=⟨95,101,161,fun pw=>gW pw⟩
theorem Rj{e:TypeId}(s:Sl)(l:aC)(h:Heap)(c:Own h e s 1 aD l)(a:l.length<2^40):ac xx 208 #[s] h fun v h'=>v=xn s.ptr (Lib.compact l).length s.cap/\Own h' e ⟨s.ptr,(Lib.compact l).length,s.cap⟩ 1 aD (Lib.compact l)/\aU (fun b=>¬s.on b) h h':=
 Km Tryz.slices_Compact_int Tryz.slices_Compact_int_empty c a
section
variable {B:aB} {h0 h h':Heap} {As:List HP} {a pw:Addr} {mc:aW} {offs:Int} {da:List aO} {w:Pow} {ds:aT}
theorem lF(b:Int)(ok:gm mc da ds)(f:bX h a 95 (dh mc pw offs da)):ac xx 16 #[xo (some a),xl xt b] h fun v h'=>v=.pointer (iR da b)/\h'=h:=by
 refine BQ (some a) b ?_;unfold pN;have d:¬(0<=b/\b<64)->Value.pointer none=.pointer (iR da b)/\h=h:=fun e=>by unfold iR;rw[if_neg e];exact⟨rfl,rfl⟩
 refine be (bw (fun e=>by cases e) fun _=>al (fun e=>d (by omega)) fun g=>al (fun e=>d (by omega)) fun e2=>?_);have c:b.toNat<da.length:=by rw[ok.la];omega
 refine⟨a,rfl,⟨by omega,by omega⟩,da[b.toNat],?_,?_,rfl⟩
 ·rw[zT];refine f.tK 10 b.toNat ?_;rw[oy ok.l8,qd c];rfl
 ·unfold iR;rw[if_pos (by omega),qd c];rfl
theorem aa.cB(H:aa B h0 h (aV bj a pw mc offs da w ds::As)):gm mc da ds/\bX h a 95 (dh mc pw offs da):=by
 obtain⟨ok,b⟩:=Go.Vc.aa.rv H;exact⟨ok,b.box 0 rfl⟩
theorem Ln(s:Sl)(l:aC)(x:Rd h s 1 aD l)(J:l.length<=2^30)(H:aa B h0 h (aV bj a pw mc offs da w ds::As)):
  ac xx 79 #[.func (.func 16) #[xo (some a)] #[],s] h fun v h'=>∃r:Sl,v=r/\Sp h h' [ar 3 r 1 aD (bc ds l)]:=by
 refine QI (16,#[xo (some a)],#[]) s ?_;unfold KB;have D:=x.len;obtain⟨ok,u⟩:=aa.cB H;refine aw (fun t:Sl×Nat=>(t.1,(t.2:Int))) (fun t h'=>t.2<=l.length/\Sp h h' [ar 3 t.1 1 aD (bc ds (l.take t.2))]) (fun t=>l.length-t.2) (⟨none,0,0⟩,0) rfl ⟨by simp,by simpa[bc]using(Sp.refl h).nil 3 1 aD⟩ ?_;rintro⟨o,i⟩ M ⟨L,j⟩;dsimp only at*;refine al (fun e=>?_) (fun e=>?_)
 ·have p:i<l.length:=by omega
  have c:bc ds (l.take (i+1))=bc ds (l.take i)++(if isLive ds l[i]then[l[i]]else[]):=by
   unfold bc;rw[aI _ _ p,zj,zr,yZ]
  have A:(bc ds (l.take i)).length<=l.length:=by
   have:=qP (isLive ds) (l.take i);unfold bc;simp at this⊢;omega
  have next:∀{h':Heap} {k:Sl},Sp h h' [ar 3 k 1 aD (bc ds (l.take (i+1)))]->∃m:Sl×Nat,((⟨k.ptr,k.len,k.cap⟩:Sl),qc xt ((i:Int)+1))=(m.1,(m.2:Int))/\(m.2<=l.length/\Sp h h' [ar 3 m.1 1 aD (bc ds (l.take m.2))])/\l.length-m.2<l.length-i:=fun{h' k} H'=>
   ⟨(k,i+1),by dsimp only;rw[ak _];rfl,⟨by dsimp only;omega,H'⟩,by dsimp only;omega⟩
  refine(Seq.up x j.ai).bx i rfl p l[i] rfl (ee (by rfl) ?_);refine(lF l[i] ok (u.ai j.ai u.lt)).mono ?_;rintro _ I ⟨rfl,rfl⟩;refine⟨_,rfl,?_⟩;rcases lc ok l[i]with⟨c1,c2⟩|⟨n,d,b,c0,c1,c2,c3,c4,c5⟩
  ·rw[c2];have g:isLive ds l[i]=false:=by unfold isLive;rw[c1]
   rw[g]at c;refine bh (fun e=>by cases e) fun _=>next (by rw[c];simpa using j)
  ·rw[c5];have g:isLive ds l[i]=!d.lost:=by unfold isLive;rw[c3]
   refine bh (fun _=>?_) fun e=>by cases e
   obtain⟨K,f,z⟩:=Go.Vc.aa.kP (aa.up H j.ai) c2;rw[c4]at f;injection f with f
   injection f with f
   subst f;obtain⟨E,F,q,_,_⟩:=mw.box z;refine(AK E F q).mono ?_;rintro _ h3 ⟨rfl,rfl⟩;refine⟨_,rfl,bh (fun e=>?_) (fun e=>?_)⟩
   ·rw[g,e]at c;refine j.push ae 0 rfl lL rfl (by decide) (fun _=>rfl) jf l[i] rfl (by decide) (by omega) fun k G y=>next ?_
    rw[c];exact y
   ·rw[g,e]at c;exact next (by rw[c];simpa using j)
 ·rw[qi (by omega)]at j;exact⟨o,rfl,j⟩
theorem VV(s:Sl)(l:aC)(R:St B h0 As fun h=>Rd h s 1 aD l)(hl:l.length<=2^30)(A:∀x∈l,0<=x/\x<64)(H:aa B h0 h (aV bj a pw mc offs da w ds::As)):
  ac xx 119 #[.func (.func 16) #[xo (some a)] #[],s] h fun v h'=>v=xl xt (kj (fN l) w ds).1/\aa B h0 h' (aV bj a pw mc offs da (kj (fN l) w ds).2.1 (kj (fN l) w ds).2.2::As):=by
 refine QM (16,#[xo (some a)],#[]) s ?_;unfold KF;refine(jg s l h (R.at [_] H) (by omega)).mono ?_;rintro _ Y ⟨r,rfl,S⟩;have K:=H.cS S;refine⟨r,rfl,(NZ r l Y (K.own 0 rfl) (by omega)).mono ?_⟩;rintro _ N ⟨rfl,M,W⟩;have T:=K.nU 0 rfl W M;refine⟨(),rfl,(Rj r (jt l) N M (by rw[Ny];omega)).mono ?_⟩;rintro _ h3 ⟨rfl,O,L⟩;have p:=T.step (D:=ar 3 ⟨r.ptr,(Lib.compact (jt l)).length,r.cap⟩ 1 aD (Lib.compact (jt l))) 0 rfl fun q F E=>⟨L.mono fun b _ m G=>m (F.2 b G),O,fun b m=>⟨qY (E b (F.2 b m)) L.1,.inl (F.2 b m)⟩⟩
 rw[Vr l A]at p⊢;obtain⟨u,I⟩:∃u,u=fN l:=⟨_,rfl⟩
 rw[<-I]at p⊢;have p:aa B h0 h3 (ar 3 ⟨r.ptr,u.length,r.cap⟩ 1 aD u::aV bj a pw mc offs da w ds::As):=p;have Q:u.length<=64:=by
  have:=qP (fun i=>decide (i∈l)) ((qE 64).map fun i:Nat=>(i:Int));rw[I];unfold fN;simpa using this
 refine⟨⟨r.ptr,u.length,r.cap⟩,rfl,?_⟩;refine aw (fun t:Nat×Pow×aT=>(t.1:Int)) (fun t h'=>t.1<=u.length/\kj u w ds=kj (u.drop t.1) t.2.1 t.2.2/\aa B h0 h' (ar 3 ⟨r.ptr,u.length,r.cap⟩ 1 aD u::aV bj a pw mc offs da t.2.1 t.2.2::As)) (fun t=>u.length-t.1) (0,w,ds) rfl ⟨by simp,rfl,p⟩ ?_;rintro⟨i,j,f⟩ Z ⟨hi,c,o⟩;dsimp only at*;refine al (fun e=>?_) (fun e=>?_)
 ·have y:i<u.length:=by omega
  obtain⟨ok,m⟩:=aa.cB o.rest;rw[qV y,CS]at c;refine(o.seq 0 rfl fun _=>rfl).bx i rfl y u[i] rfl (ee (by rfl) ?_);refine(lF u[i] ok m).mono ?_;rintro _ V ⟨rfl,rfl⟩;refine⟨_,rfl,?_⟩;rcases lc ok u[i]with⟨c1,c2⟩|⟨n,d,b,c0,c1,c2,c3,c4,c5⟩
  ·rw[c2];refine(Re V).mono ?_;rintro _ X ⟨rfl,rfl⟩;have z:hG j f u[i]=(5,j,f):=by unfold hG;rw[c1]
   rw[z]at c;refine⟨5,rfl,ca (fun _=>?_) fun e=>absurd e (by decide)⟩;have:kj u w ds=(5,j,f):=c;rw[this];exact⟨rfl,o.rest⟩
  ·rw[c5];obtain⟨b',g,U⟩:=Go.Vc.aa.kP (o.bi 2 [1,0]) c2;rw[c4]at g;injection g with g
   injection g with g
   subst g;refine(Yd U).mono ?_;rintro _ X ⟨rfl,P⟩;have J:=Go.Vc.aa.DB (k:=bj) (n:=n) c4 P;have z:hG j f u[i]=((d.sync j).1,(d.sync j).2.1,f.set n (some (d.sync j).2.2)):=by
    unfold hG;rw[c3];simp only[jE,c0,qo]
   rw[z]at c;refine⟨_,rfl,ca (fun e2=>?_) fun e2=>?_⟩
   ·have:kj u w ds=((d.sync j).1,(d.sync j).2.1,f.set n (some (d.sync j).2.2)):=by rw[c];exact if_neg e2
    rw[this];exact⟨rfl,J.Hs⟩
   ·refine⟨(i+1,(d.sync j).2.1,f.set n (some (d.sync j).2.2)),by dsimp only;rw[ak _];rfl,⟨by dsimp only;omega,?_,J.bi 2 [1,0]⟩,by dsimp only;omega⟩;rw[c];exact if_pos e2
 ·rw[zb (by omega)]at c;rw[c];exact⟨rfl,o.rest⟩
end
end Go.Qw
namespace Go.Vc
open Go Wl
theorem HP.Cr{h:Heap}:∀{L:List HP} {q:aB} {i:Nat} {A:HP},(HP.all L).p h q->L[i]?=some A->A.p h q
 |A::L,q,0,A',⟨q1,q2,_,b,_,d,_⟩,hi=>by simp at hi;subst hi;exact A.mono d b
 |A::L,q,i+1,A',⟨q1,q2,_,_,c,_,e⟩,hi=>A'.mono (HP.Cr e (by simpa using hi)) c
 |[],_,i,_,_,hi=>by simp at hi
section
variable {α β:Type} {B:aB} {h0 h:Heap} {As:List HP} {e e2 k:Nat} {s:Sl} {f:α->aW} {ll:List (List α)}
theorem aa.aaL(H:aa B h0 h (lN e s e2 k f ll::As))(j:∀x,(f x).length=k):∃rs,aa B h0 h (cu (gr k f) 1 bJ s rs ll::As):=by
 obtain⟨rs,H⟩:=H.Ht;obtain⟨H,b⟩:=H.IV;refine⟨rs,H.fO 0 rfl fun q d=>⟨?_,b,fun i r l g a=>?_⟩⟩
 ·have:=HP.Cr (i:=0) d rfl;exact this.1.seq (fun _=>rfl) this.2
 ·have c:i<ll.length:=(qn.1 a).1;have m:=jX (e:=e2) (k:=k) (f:=f) b i c;have:=HP.Cr (i:=i+1) d (by simpa using m);have n:rs[i]'(by omega)=r:=by rw[qd (by omega)]at g;simpa using g
  have e2:ll[i]=l:=by rw[qd c]at a;simpa using a
  rw[n,e2]at this;exact this.1.seq j this.2
end
end Go.Vc
namespace Wl
def bA(m:aG)(a:aC):List (Int×aX):=a.flatMap fun n=>(aY m).map fun c=>(n,c)
theorem ke{m:aG}{a:aC}{x:Int×aX}(h:x∈bA m a):x.1∈a/\x.2.length=64:=by
 unfold bA at h;obtain⟨n,b,e⟩:=zm.1 h;obtain⟨c,d,rfl⟩:=qq.1 e;exact⟨b,CU d⟩
end Wl
namespace Go.Qw
open Go Go.Vc Go.Proofs Wl
theorem jb(m:aG)(a:cO m):(aY m).length<=3000:=by
 have:=Jy m a;unfold aY gX;simp;omega
abbrev Gx:bW C.toBE 98 112 2 [xl xt 0,xn none 0 0] 32:=⟨_,_,rfl,rfl,rfl,rfl,rfl,rfl⟩
section
variable {B:aB} {h0 h h':Heap} {As:List HP} {a pw:Addr} {mc:aW} {offs:Int} {da:List aO} {w:Pow} {ds:aT}
theorem AL(s:Sl)(r:List (Int×Sl))(P:List (Int×aX))(G:St B h0 As fun h=>nk dX 2 piv h s r P)(hl:P.length<=2^30)(E:∀x∈P,(0<=x.1/\x.1<64)/\x.2.length<=2^20)(H:aa B h0 h (aV bj a pw mc offs da w ds::As)):
  ac xx 50 #[.func (.func 16) #[xo (some a)] #[],s] h fun v h'=>v=xl xt (layAll P w ds).1/\aa B h0 h' (aV bj a pw mc offs da (layAll P w ds).2.1 (layAll P w ds).2.2::As):=by
 refine SN (16,#[xo (some a)],#[]) s ?_;unfold NS;have ab:=(G.at [_] H).1.len;have ad:=(G.at [_] H).2.1;have H0:=(H.nil 3 1 aD).bC;refine aw (fun t:Sl×Nat×Pow×aT=>(t.1,(t.2.1:Int))) (fun t h'=>t.2.1<=P.length/\ky P w ds=ky (P.drop t.2.1) t.2.2.1 t.2.2.2/\aa B h0 h' (ar 3 t.1 1 aD ((P.take t.2.1).map qJ)::aV bj a pw mc offs da t.2.2.1 t.2.2.2::As)) (fun t=>P.length-t.2.1) (⟨none,0,0⟩,0,w,ds) rfl ⟨by simp,rfl,by simpa using H0⟩ ?_;rintro⟨o,i,u,p⟩ h1 ⟨hi,f,I⟩;dsimp only at*;refine al (fun e=>?_) (fun e=>?_)
 ·have q:i<P.length:=by omega
  rw[qV q,uS]at f;have Q:=G.at [_,_] I;have K:=E _ (qh q);refine Q.1.dt (g:=piv) i rfl (by omega) (r[i]'(by omega)) rfl ?_;refine I.alloc ae rfl fun a4 R F=>?_;have F:=F.bC;refine F.storeAll ae 0 rfl rfl (piv (r[i]'(by omega))) rfl rfl rfl rfl fun h3 j=>?_;obtain⟨O,N⟩:=Fix.row (G.at [_,_,_] j) q;have j:aa B h0 h3 (aq a4 112 (piv (r[i]'(by omega)))::ar 3 o 1 aD ((P.take i).map qJ)::aV bj a pw mc offs da u p::As):=j;have j:=j.bi 3 [2,0,1];obtain⟨ok,W⟩:=aa.cB j;obtain⟨c,m⟩:∃c,c=fu u p P[i].1 P[i].2:=⟨_,rfl⟩
  rw[<-m]at f;refine cl (fun _ h'=>c.1=0/\aa B h0 h' (aV bj a pw mc offs da c.2.1 c.2.2::aq a4 112 (piv (r[i]'(by omega)))::ar 3 o 1 aD ((P.take i).map qJ)::As)) ?_ ?_
  ·refine cl (fun e h'=>e=c.1/\aa B h0 h' (aV bj a pw mc offs da c.2.1 c.2.2::aq a4 112 (piv (r[i]'(by omega)))::ar 3 o 1 aD ((P.take i).map qJ)::As)) ?_ ?_
   ·refine⟨P[i].1,by rw[<-O];exact(j.box 1 rfl).cell0 rfl,(r[i]'(by omega)).2,(j.box 1 rfl).cell rfl,ee (by rfl) ?_⟩;refine(lF P[i].1 ok W).mono ?_;rintro _ J ⟨rfl,rfl⟩;refine⟨_,rfl,⟨(j.box 1 rfl).cell rfl,trivial⟩,?_⟩;rcases lc ok P[i].1 with⟨c1,c2⟩|⟨n,d,b,c0,c1,c2,c3,c4,c5⟩
    ·rw[c2];refine(Nf (r[i]'(by omega)).2 P[i].2 J N).mono ?_;rintro _ Z ⟨rfl,rfl⟩;have A:c=(if P[i].2.length≠64 then 1 else 5,u,p):=by rw[m];unfold fu;rw[c1]
     refine⟨_,rfl,trivial,by rw[A],?_⟩;rw[A];exact j
    ·rw[c5];obtain⟨b',l,L⟩:=Go.Vc.aa.kP j c2;rw[c4]at l;injection l with l
     injection l with l
     subst l;refine(SY (r[i]'(by omega)).2 P[i].2 L N K.2).mono ?_;rintro _ h6 ⟨rfl,V⟩;have U:=Go.Vc.aa.DB (k:=bj) (n:=n) c4 V;have A:c=((d.append u P[i].2).1,(d.append u P[i].2).2.1,p.set n (some (d.append u P[i].2).2.2)):=by
      rw[m];unfold fu;rw[c3];simp only[jE,c0,qo]
     refine⟨_,rfl,trivial,by rw[A],?_⟩;rw[A];exact U
   ·rintro e4 J ⟨rfl,z⟩;refine ca (fun e2=>?_) fun e2=>⟨e2,z⟩
    rw[if_neg e2]at f;have:layAll P w ds=c:=by unfold layAll;rw[f];exact if_neg e2
    rw[this];exact⟨rfl,z.Hs.Hs⟩
  ·rintro _ J ⟨e2,z⟩;rw[if_pos e2]at f;refine⟨P[i].1,by rw[<-O];exact(z.box 1 rfl).cell0 rfl,?_⟩;refine z.push ae 2 rfl lL rfl (by decide) (fun _=>rfl) jf P[i].1 rfl (by decide) (by simp;omega) fun T Z L=>?_;refine⟨(T,i+1,c.2.1,c.2.2),by dsimp only;rw[ak _];rfl,⟨by dsimp only;omega,f,?_⟩,by dsimp only;omega⟩;dsimp only;rw[aI _ _ q,qT];exact L.bi 3 [2,0]
 ·have M:i=P.length:=by omega
  subst M;rw[List.drop_length]at f;rw[qQ]at I;have F:=(I.freeze 0 rfl fun _=>rfl).bi 2 [1,0];have D:layAll P w ds=kj (fN (P.map qJ)) u p:=by unfold layAll;rw[f];rfl
  refine(VV o (P.map qJ) (St.dU 0 rfl fun h' Y=>Y) (by simp;omega) (fun x S=>?_) F).mono ?_
  ·obtain⟨y,X,rfl⟩:=qq.1 S;exact(E y X).1
  ·rintro _ R ⟨rfl,j⟩;refine⟨_,rfl,by rw[D],?_⟩;rw[D];exact j.Hs
theorem IB(x:bD)(m:aG)(s:Sl)(a:aC)(h:Heap)(hx:dK h x m)(G:cO m)(V:Rd h s 1 aD a)(ah:a.length<=2^10):
  ac xx 51 #[eT x,s] h fun v h'=>∃(r:Sl) (Y:List (Int×Sl)),v=r/\Sp h h' [cu dX 2 piv r Y (bA m a)]:=by
 refine OL x s ?_;unfold Ij;refine(Sp.refl h).boxed fun a1 R P=>?_;refine⟨x,(P.box 0 rfl).aL _ rfl,(kY x m R (hx.up P.ai) G).mono ?_⟩;rintro _ U ⟨r,rfl,R2⟩;have y:=P.cS R2;refine⟨r,rfl,?_⟩;obtain⟨rs,y⟩:=y.aaL fun _=>rfl;have K:=jb m G;obtain⟨d,D⟩:∃d,d=aY m:=⟨_,rfl⟩
 rw[<-D]at y K;have W:=y.dV 0 rfl;have ad:=W.1.len;have am:=W.2.1;have ab:=V.len;obtain⟨T,H⟩:∃T:Int->List ((Int×Sl)×(Int×aX)),T=fun n=>(rs.zip d).map fun z=>((n,z.1),(n,z.2)):=⟨_,rfl⟩
 have f:∀n,(T n).length=d.length:=fun n=>by rw[H];simp;omega
 have O:∀n,(T n).map zt=d.map fun c=>(n,c):=fun n=>by
  have G:=List.map_snd_zip (l₁:=rs) (l₂:=d) (by omega)
  conv=>rhs;rw[<-G]
  rw[H];simp[wR,Function.comp_def]
 have N:∀n j (Q:j<d.length),(T n)[j]'(by rw[f];exact Q)=((n,rs[j]'(by omega)),(n,d[j])):=fun n j Q=>by subst H;simp
 have p:Sp h U [ar 112 ⟨none,0,0⟩ 2 piv (((a.take 0).flatMap T).map qJ),cu (gr 1 aE) 1 bJ r rs d]:=(y.nil 112 2 piv).bK [2,0];have B:∀i,i<=a.length->((a.take i).flatMap T).length<=i*3000:=fun i=>by
  induction i with
  |zero=>simp
  |succ i ih=>
   intro X;rw[aI _ _ (show i<a.length by omega),zh,qx];have R:=ih (by omega);have U:([a[i]].flatMap T).length=d.length:=by rw[zl,z8,qS,f]
   omega
 refine aw (fun t:Sl×Nat=>(t.1,(t.2:Int))) (fun t h'=>t.2<=a.length/\Sp h h' [ar 112 t.1 2 piv (((a.take t.2).flatMap T).map qJ),cu (gr 1 aE) 1 bJ r rs d]) (fun t=>a.length-t.2) (⟨none,0,0⟩,0) rfl ⟨by simp,p⟩ ?_;rintro⟨o,i⟩ h3 ⟨X,p⟩;dsimp only at*;refine al (fun e=>?_) (fun e=>?_)
 ·have F:i<a.length:=by omega
  have ht:=B i X;have hb:i*3000<=2^10*3000:=zu _ (by omega);refine(Seq.up V p.ai).bx i rfl F a[i] rfl ?_;refine aw (fun t:Sl×Nat=>(t.1,(t.2:Int))) (fun t h'=>t.2<=d.length/\Sp h h' [ar 112 t.1 2 piv (((a.take i).flatMap T).map qJ++((T a[i]).take t.2).map qJ),cu (gr 1 aE) 1 bJ r rs d]) (fun t=>d.length-t.2) (o,0) rfl ⟨by simp,by simpa using p⟩ ?_;rintro⟨u,j⟩ h4 ⟨Q,w⟩;dsimp only at*;refine al (fun e2=>?_) (fun e2=>?_)
  ·have A:j<d.length:=by omega
   refine(w.dV 1 rfl).1.nL j rfl (by omega) ?_;refine w.push ae 0 rfl Gx rfl (by decide) (fun _=>rfl) HK (a[i],rs[j]'(by omega)) rfl (by decide) (by simp only[qx,qu,zd,f];omega) fun u' h5 H5=>?_;refine⟨(u',j+1),by dsimp only;rw[ak _];rfl,⟨by dsimp only;omega,?_⟩,by dsimp only;omega⟩;dsimp only;rw[aI (T a[i]) j (by rw[f];exact A),qT,N _ _ A,<-qp];exact H5
  ·have M:j=d.length:=by omega
   subst M;rw[qi (l:=T a[i]) (by rw[f];exact ql _)]at w;refine⟨(u,i+1),by dsimp only;rw[ak _];rfl,⟨by dsimp only;omega,?_⟩,by dsimp only;omega⟩;dsimp only;rw[aI _ _ F,zh,qT,zl,z8,qS];exact w
 ·have L:i=a.length:=by omega
  subst L;rw[qQ]at p;refine⟨o,(a.flatMap T).map qJ,rfl,?_⟩;have w:=(p.freeze 0 rfl fun _=>rfl).oL;refine w.fO 0 rfl fun q ⟨q1,q2,_,b,c,Z,z2⟩=>?_;have E:(a.flatMap T).map zt=bA m a:=by
   unfold bA;rw[List.map_flatMap,<-D];congr 1;funext n;exact O n
  rw[<-E];refine⟨z2.mono c,by simp,fun j r' l' g I=>?_⟩;rw[qO]at g I;cases g3:(a.flatMap T)[j]? with
  |none=>rw[g3]at g;cases g
  |some t=>
   rw[g3]at g I;simp at g I;subst g;subst I;obtain⟨n,_,S⟩:=zm.1 (ye g3);rw[H]at S;obtain⟨z,J,rfl⟩:=qq.1 S;obtain⟨k,hk,rfl⟩:=List.mem_iff_getElem.1 J;rw[yT];exact⟨rfl,(Z.2.2 k _ _ (qd _) (qd _)).mono b⟩
end
section
variable {B:aB} {h0 h h':Heap} {As:List HP} {s:Sl} {d:List bu}
theorem VW{b d:List bu}{y:bu}(c:Sd cb (b++d))(g:∀z∈b,cb z y=true)(f:∀z∈d,¬cb z y=true):Sd cb (b++y::d):=
 Sd.app dO c.left (zP.2 ⟨fun z a=>dO.Fo (f z a),c.right⟩) fun x e z a=>by
  rcases q8.1 a with rfl|a
  ·exact g x e
  ·exact c.Hv x e z a
theorem Ct(X M Y:List bu)(a b:Int)(ha:a=(X.length:Int))(hb:b=(X.length+M.length:Nat))(ad:X.length+M.length+Y.length<=2^40)(H:aa B h0 h (bP s (X++(M++Y))::As)):
  ac xx 325 #[s,xl xt a,xl xt b,.func (.func 164) #[] #[]] h fun v h'=>v=.tuple #[]/\∃U,Sd cb U/\ct cb M U/\aa B h0 h' (bP s (X++(U++Y))::As):=by
 refine kE s a b (164,#[],#[]) ?_;unfold gJ;subst ha;subst hb;rw[ak ((X.length:Int)+1)];refine aw (fun t:Nat×List bu=>((X.length+1+t.1:Nat):Int)) (fun t h'=>(t.1+1<=M.length∨t.1=0)/\Sd cb t.2/\ct cb (M.take (t.1+1)) t.2/\t.2.length=(M.take (t.1+1)).length/\aa B h0 h' (bP s (X++(t.2++(M.drop (t.1+1)++Y)))::As)) (fun t=>M.length-t.1) (0,M.take 1) rfl ?_ ?_
 ·refine⟨.inr rfl,?_,ct.refl _,rfl,?_⟩
  ·cases M with
   |nil=>exact List.Pairwise.nil
   |cons x M=>exact zP.2 ⟨fun _ h=>by simp at h,by simp⟩
  ·rw[<-qp (M.take (0+1)),qI];exact H
 rintro⟨t,P⟩ h1 ⟨ht,q,A,ab,S⟩;dsimp only at*;refine al (fun e=>?_) (fun e=>?_)
 ·have K:t+1<M.length:=by omega
  obtain⟨y,hy⟩:∃y,y=M[t+1]:=⟨_,rfl⟩
  have L:P.length=t+1:=by rw[ab];simp;omega
  have eD:M.drop (t+1)=y::M.drop (t+1+1):=by rw[qV K,hy]
  rw[eD]at S;refine aw (fun u:List bu×List bu=>((X.length+u.1.length:Nat):Int)) (fun u h'=>u.1++u.2=P/\(∀z∈u.2,¬cb z y=true)/\aa B h0 h' (bP s (X++(u.1++(y::(u.2++(M.drop (t+1+1)++Y)))))::As)) (fun u=>u.1.length) (P,[]) (by dsimp only;rw[L];congr 1;omega) ⟨by simp,by simp,by simpa using S⟩ ?_;rintro⟨c,d⟩ W ⟨J,l,G⟩;dsimp only at*;have ah:c.length+d.length=t+1:=by rw[<-L,<-J,qx]
  have k:∀{h':Heap},(∀z∈c,cb z y=true)->aa B h0 h' (bP s (X++(c++(y::(d++(M.drop (t+1+1)++Y)))))::As)->
    ∃f:Nat×List bu,qc xt (((X.length+1+t:Nat):Int)+1)=((X.length+1+f.1:Nat):Int)/\((f.1+1<=M.length∨f.1=0)/\Sd cb f.2/\ct cb (M.take (f.1+1)) f.2/\f.2.length=(M.take (f.1+1)).length/\aa B h0 h' (bP s (X++(f.2++(M.drop (f.1+1)++Y)))::As))/\M.length-f.1<M.length-t:=fun{h'} hle H'=>by
   refine⟨(t+1,c++y::d),by dsimp only;rw[ak _];omega,⟨.inl (by dsimp only;omega),?_,?_,?_,?_⟩,by dsimp only;omega⟩
   ·exact VW (by rw[J];exact q) hle l
   ·dsimp only;rw[aI M (t+1) K,<-hy];have h1:ct cb (M.take (t+1)++[y]) (P++[y]):=A.app (ct.refl _);refine h1.trans ?_;rw[<-J,qp];have W:ct cb (d++[y]) ([y]++d):=ct.XA dO fun x hx z N=>by rw[qG.1 N];exact l x hx
    exact(ct.refl _).app W
   ·dsimp only;simp;omega
   ·dsimp only;have:X++((c++y::d)++(M.drop (t+1+1)++Y))=X++(c++(y::(d++(M.drop (t+1+1)++Y)))):=by simp
    rw[this];exact H'
  obtain⟨D,T⟩:∃D,D=X++(c++(y::(d++(M.drop (t+1+1)++Y)))):=⟨_,rfl⟩
  refine cl (fun _ h'=>∃(Q:List bu) (z:bu),c=Q++[z]/\¬cb z y=true/\aa B h0 h' (bP s D::As)) ?_ ?_
  ·rw[<-T]at G k;refine al (fun e2=>?_) (fun e2=>⟨trivial,k (fun z N=>?_) G⟩)
   ·have I:c≠[]:=fun h=>by rw[h]at e2;simp at e2
    obtain⟨Q,z,o⟩:∃(Q:List bu) (z:bu),c=Q++[z]:=⟨c.dropLast,c.getLast I,(List.dropLast_concat_getLast I).symm⟩
    have Z:c.length=Q.length+1:=by rw[o];simp
    have g1:D[X.length+c.length]?=some y:=by
     rw[T,qj (by omega),show X.length+c.length-X.length=c.length by omega,qj (by omega),zi];rfl
    have g2:D[X.length+c.length-1]?=some z:=by
     rw[T,qj (by omega),show X.length+c.length-1-X.length=Q.length by omega,o,qp,qj (ql _),zi];rfl
    obtain⟨O,r⟩:=qn.1 g1;obtain⟨R,p⟩:=qn.1 g2;refine(G.seq 0 rfl fun _=>rfl).dt (g:=bn) _ rfl O y (by rw[r]) ?_;have V:qc xt (((X.length+c.length:Nat):Int)-1)=((X.length+c.length-1:Nat):Int):=by rw[ak _];omega
    rw[V];refine(G.seq 0 rfl fun _=>rfl).dt (g:=bn) _ rfl R z (by rw[p]) (ee (by rfl) ?_);refine(py y z W).mono ?_;rintro _ h3 ⟨rfl,R3⟩;have F:=G.up R3.ai;refine⟨_,rfl,trivial,al (fun e3=>⟨Q,z,o,(rq y z).1 e3,F⟩) fun e3=>k (fun w m=>?_) F⟩;have n:cb z y=true:=by
     by_cases hc:cb z y=true
     ·exact hc
     ·exact absurd ((rq y z).2 hc) e3
    rw[o]at m;rcases qA.1 m with m|m
    ·refine dO.trans _ _ _ ?_ n;have:Sd cb (Q++[z]):=by rw[<-o];exact Sd.left (v:=d) (by rw[J];exact q)
     exact this.Hv w m z (by simp)
    ·rw[qG.1 m];exact n
   ·have:c=[]:=by
     cases c with
     |nil=>rfl
     |cons x P=>exfalso;simp only[q9]at e2;omega
    rw[this]at N;cases N
  ·rintro _ h3 ⟨Q,z,o,n,F⟩;have Z:c.length=Q.length+1:=by rw[o];simp
   have E:D=(X++Q)++z::([]++y::(d++(M.drop (t+1+1)++Y))):=by rw[T,o];simp
   obtain⟨q1,q2,q3,q4⟩:=Rg (X++Q) [] (d++(M.drop (t+1+1)++Y)) z y (i:=X.length+c.length-1) (j:=X.length+c.length) (by simp;omega) (by simp;omega);rw[<-E]at q1 q2 q3 q4;obtain⟨R,p⟩:=qn.1 q1;obtain⟨O,r⟩:=qn.1 q2;have V:qc xt (((X.length+c.length:Nat):Int)-1)=((X.length+c.length-1:Nat):Int):=by rw[ak _];omega
   rw[V];refine(F.seq 0 rfl fun _=>rfl).dt (g:=bn) _ rfl R z (by rw[p]) ?_;refine(F.seq 0 rfl fun _=>rfl).dt (g:=bn) _ rfl O y (by rw[r]) ?_;refine F.set ae 0 rfl (fun _=>rfl) rfl (X.length+c.length) rfl O z rfl rfl rfl fun h4 H4=>⟨trivial,?_⟩
   refine H4.set ae 0 rfl (fun _=>rfl) rfl (X.length+c.length-1) rfl (by simpa using R) y rfl rfl rfl fun h5 H5=>⟨trivial,?_⟩
   refine⟨(Q,z::d),by dsimp only;congr 1;omega,⟨by dsimp only;rw[<-J,o];simp,?_,?_⟩,by dsimp only;omega⟩
   ·dsimp only;intro w m;rcases q8.1 m with rfl|m
    ·exact n
    ·exact l w m
   ·dsimp only;have:X++(Q++(y::(z::d++(M.drop (t+1+1)++Y))))=(X++Q)++y::([]++z::(d++(M.drop (t+1+1)++Y))):=by simp
    rw[this,<-q4];exact H5
 ·refine⟨rfl,P,q,?_,?_⟩
  ·rw[qi (by omega)]at A;exact A
  ·rw[zb (by omega)]at S;simpa using S
end
theorem HL(x y:Nat)(h:x+y<=2^62:=by omega):qc xt (qU (qc xw (qc xt ((x:Int)+(y:Int)))) (2^min (1:Int).toNat (qk xw)))=(((x+y)/2:Nat):Int):=by
 rw[ak ((x:Int)+y)];have e:qc xw ((x:Int)+(y:Int))=(x:Int)+y:=by
  unfold qc;simp[qk,yR];omega
 rw[e,show min (1:Int).toNat (qk xw)=1 from rfl,Int.fdiv_eq_ediv_of_nonneg _ (by decide),ak _];omega
section
variable {B:aB} {h0 h h':Heap} {As:List HP} {s:Sl} {d:List bu}
theorem Bv{x y:bu}(h:¬kZ x y<0):cb y x=true:=by
 by_cases a:cb y x=true
 ·exact a
 ·exact absurd ((rq x y).2 a) h
theorem jI{K:bu->Prop}(H:aa B h0 h (bP s d::As)){i:Int}(n:Nat)(f:i=n){x:bu}(c:d[n]?=some x)(b:K x):
  ∃a:Addr,(s.ptr=some a/\0<=i/\i<((s.len:Nat):Int))/\∃x:bu,aj h (a.add (i.toNat*8)) 0 (bn x)/\K x:=by
 obtain⟨j,e⟩:=qn.1 c;exact(H.seq 0 rfl fun _=>rfl).dt (g:=bn) n f j x (by rw[e]) b
theorem Ng(x:bu)(X R Y:List bu)(ah:X.length+1+R.length+Y.length<=2^40)(L:Sd cb R)(H:aa B h0 h (bP s (X++(x::(R++Y)))::As)){K:AX}
  (d:∀h',(∃M,Sd cb M/\ct cb (x::R) M/\aa B h0 h' (bP s (X++(M++Y))::As))->K (.tuple #[]) h') (a m b:Int) (ha:a=(X.length:Int)) (hm:m=(X.length+1:Nat)) (hb:b=(X.length+1+R.length:Nat)):
  aJ (σ:=Int×Int) (fun c K1 g=>
   Br (decide (c.1<c.2))
   ((0<=(1:Int))/\
   ∃a2:Addr,(s.ptr=some a2/\0<=(qc xt (qU (qc xw (qc xt (c.1+c.2))) (2^min (1:Int).toNat (qk xw))))/\(qc xt (qU (qc xw (qc xt (c.1+c.2))) (2^min (1:Int).toNat (qk xw))))<((s.len:Nat):Int))/\
   ∃x3:bu,aj g (a2.add ((qc xt (qU (qc xw (qc xt (c.1+c.2))) (2^min (1:Int).toNat (qk xw)))).toNat*8)) 0 (bn x3)/\
   ∃a4:Addr,(s.ptr=some a4/\0<=a/\a<((s.len:Nat):Int))/\
   ∃x5:bu,aj g (a4.add (a.toNat*8)) 0 (bn x5)/\
   gb C 164 ((#[]:Array Value).toList++[recv x3,recv x5]++(#[]:Array Value).toList) (.one (.sc (.int .i64))) g fun r6 n=>
   (av.ok [] n)/\
   Br (decide (r6<(0:Int)))
   (K1 (qc xt ((qc xt (qU (qc xw (qc xt (c.1+c.2))) (2^min (1:Int).toNat (qk xw))))+(1:Int)),c.2) n)
   (K1 (c.1,qc xt (qU (qc xw (qc xt (c.1+c.2))) (2^min (1:Int).toNat (qk xw)))) n))
   (aJ (σ:=Int) (fun f K2 h3=>
   Br (decide (f<(qc xt (c.1-(1:Int)))))
   (∃a8:Addr,(s.ptr=some a8/\0<=(qc xt (f+(1:Int)))/\(qc xt (f+(1:Int)))<((s.len:Nat):Int))/\
   ∃x9:bu,aj h3 (a8.add ((qc xt (f+(1:Int))).toNat*8)) 0 (bn x9)/\
   ∃I:Addr,(s.ptr=some I/\0<=f/\f<((s.len:Nat):Int))/\
   ∃F:bu,aj h3 (I.add (f.toNat*8)) 0 (bn F)/\
   ∃G:Addr,(s.ptr=some G/\0<=f/\f<((s.len:Nat):Int))/\
   ag xx (qf 139 (xo (some (G.add (f.toNat*8)))) (recv x9)) h3 fun _ W=>
   (av.ok [] W)/\
   ∃A:Addr,(s.ptr=some A/\0<=(qc xt (f+(1:Int)))/\(qc xt (f+(1:Int)))<((s.len:Nat):Int))/\
   ag xx (qf 139 (xo (some (A.add ((qc xt (f+(1:Int))).toNat*8)))) (recv F)) W fun _ U=>
   (av.ok [] U)/\
   K2 (qc xt (f+(1:Int))) U)
   (K (.tuple #[]) h3)) a g)) (m,b) h:=by
 subst ha;subst hm;subst hb;refine aw (fun t:Nat×Nat=>(((X.length+1+t.1:Nat):Int),((X.length+1+t.2:Nat):Int))) (fun t h'=>t.1<=t.2/\t.2<=R.length/\(∀k (d:k<R.length),k<t.1->¬cb x R[k]=true)/\(∀k (d:k<R.length),t.2<=k->cb x R[k]=true)/\aa B h0 h' (bP s (X++(x::(R++Y)))::As)) (fun t=>t.2-t.1) (0,R.length) rfl ⟨by simp,by simp,fun _ _ h=>by simp at h,fun _ g n=>absurd g (by simpa using n),H⟩ ?_;rintro⟨i,j⟩ g ⟨ab,hj,p,y,O⟩;dsimp only at*;refine al (fun e=>?_) (fun e=>?_)
 ·have o:i<j:=by omega
  rw[HL _ _];have eh:((X.length+1+i)+(X.length+1+j))/2=X.length+1+(i+j)/2:=by omega
  rw[eh];have d:(i+j)/2<R.length:=by omega
  refine⟨by decide,jI O _ rfl (x:=R[(i+j)/2]) ?_ (jI O X.length rfl (x:=x) ?_ (ee (by rfl) ?_))⟩
  ·rw[qj (by omega),show X.length+1+(i+j)/2-X.length=(i+j)/2+1 by omega,qy,qm d,qd d]
  ·rw[qj (ql _),zi];rfl
  refine(py R[(i+j)/2] x g).mono ?_;rintro _ n ⟨rfl,R2⟩;have H2:=O.up R2.ai;refine⟨_,rfl,trivial,al (fun e2=>?_) (fun e2=>?_)⟩
  ·have T:=(rq _ _).1 e2;refine⟨((i+j)/2+1,j),by dsimp only;rw[ak _];rfl,⟨by dsimp only;omega,hj,fun k D V=>?_,y,H2⟩,by dsimp only;omega⟩;intro hc;exact T (dO.trans _ _ _ hc (L.at_ dO (i:=k) (j:=(i+j)/2) (by dsimp only at V;omega) d))
  ·refine⟨(i,(i+j)/2),rfl,⟨by dsimp only;omega,by dsimp only;omega,p,fun k D Z=>?_,H2⟩,by dsimp only;omega⟩;exact dO.trans _ _ _ (Bv e2) (L.at_ dO (by dsimp only at Z;omega) D)
 ·have o:i=j:=by omega
  subst o;have hM:Sd cb (R.take i++x::R.drop i):=by
   refine Sd.app dO (Sd.left (v:=R.drop i) (by rw[qI];exact L)) (zP.2 ⟨fun z r=>?_,Sd.right (u:=R.take i) (by rw[qI];exact L)⟩) fun z r w J=>?_
   ·obtain⟨k,d,rfl⟩:=qH r;rw[wb];exact y _ _ (by omega)
   ·obtain⟨k,d,rfl⟩:=qH r;rw[w4];have Q:k<i:=by simp at d;omega
    have g:=dO.Fo (p k (by simp at d;omega) Q);rcases q8.1 J with rfl|J
    ·exact g
    ·obtain⟨l,hl,rfl⟩:=qH J;rw[wb];exact L.at_ dO (by omega) (by simp at hl;omega)
  have hE:ct cb (x::R) (R.take i++x::R.drop i):=by
   have g:ct cb ([x]++R.take i) (R.take i++[x]):=ct.XA dO fun z r w J=>by
    rw[qG.1 r];obtain⟨k,d,rfl⟩:=qH J;rw[w4];exact p k (by simp at d;omega) (by simp at d;omega)
   have n:=g.app (ct.refl (le:=cb) (R.drop i));have e1:([x]++R.take i)++R.drop i=x::R:=by rw[qp,qI];rfl
   have e2:(R.take i++[x])++R.drop i=R.take i++x::R.drop i:=by simp
   rw[e1,e2]at n;exact n
  have el:qc xt (((X.length+1+i:Nat):Int)-1)=((X.length+i:Nat):Int):=by rw[ak _];omega
  rw[el];refine aw (fun t:Nat=>((X.length+t:Nat):Int)) (fun t h'=>t<=i/\aa B h0 h' (bP s (X++(R.take t++(x::(R.drop t++Y))))::As)) (fun t=>i-t) 0 rfl ⟨by omega,by simpa using O⟩ ?_;rintro t h3 ⟨ht,N⟩;refine al (fun e2=>?_) (fun e2=>?_)
  ·have ad:t<i:=by omega
   have E:t<R.length:=by omega
   have q:X++(R.take t++(x::(R.drop t++Y)))=(X++R.take t)++x::([]++R[t]::(R.drop (t+1)++Y)):=by rw[qV E];simp only[qp,zB,zR]
   obtain⟨P,S,q3,q4⟩:=Rg (X++R.take t) [] (R.drop (t+1)++Y) x R[t] (i:=X.length+t) (j:=X.length+t+1) (by simp;omega) (by simp;omega);rw[<-q]at P S q3 q4;have ek:qc xt (((X.length+t:Nat):Int)+1)=((X.length+t+1:Nat):Int):=by rw[ak _];omega
   rw[ek];refine jI N _ rfl S (jI N _ rfl P ?_);refine N.set ae 0 rfl (fun _=>rfl) rfl (X.length+t) rfl (qn.1 P).1 R[t] rfl rfl rfl fun W H4=>⟨trivial,?_⟩
   refine H4.set ae 0 rfl (fun _=>rfl) rfl (X.length+t+1) rfl (by rw[zA];exact(qn.1 S).1) x rfl rfl rfl fun U H5=>⟨trivial,?_⟩
   refine⟨t+1,rfl,⟨by omega,?_⟩,by omega⟩;have e3:X++(R.take (t+1)++(x::(R.drop (t+1)++Y)))=(X++R.take t)++R[t]::([]++x::(R.drop (t+1)++Y)):=by rw[aI R t E];simp only[qp,zB,zR]
   rw[e3,<-q3];exact H5
  ·have:t=i:=by omega
   subst this;refine d h3 ⟨R.take t++x::R.drop t,hM,hE,?_⟩;have:X++((R.take t++x::R.drop t)++Y)=X++(R.take t++(x::(R.drop t++Y))):=by simp
   rw[this];exact N
end
section
variable {B:aB} {h0 h h':Heap} {As:List HP} {s:Sl} {d:List bu}
theorem Lo(y:bu)(X L Y:List bu)(ax:X.length+L.length+1+Y.length<=2^40)(S:Sd cb L)(H:aa B h0 h (bP s (X++(L++(y::Y)))::As)){K:AX}
  (d:∀h',(∃M,Sd cb M/\ct cb (L++[y]) M/\aa B h0 h' (bP s (X++(M++Y))::As))->K (.tuple #[]) h') (a m:Int) (ha:a=(X.length:Int)) (hm:m=(X.length+L.length:Nat)):
  aJ (σ:=Int×Int) (fun b K3 Z=>
   Br (decide (b.1<b.2))
   ((0<=(1:Int))/\
   ∃U:Addr,(s.ptr=some U/\0<=m/\m<((s.len:Nat):Int))/\
   ∃O:bu,aj Z (U.add (m.toNat*8)) 0 (bn O)/\
   ∃T:Addr,(s.ptr=some T/\0<=(qc xt (qU (qc xw (qc xt (b.1+b.2))) (2^min (1:Int).toNat (qk xw))))/\(qc xt (qU (qc xw (qc xt (b.1+b.2))) (2^min (1:Int).toNat (qk xw))))<((s.len:Nat):Int))/\
   ∃D:bu,aj Z (T.add ((qc xt (qU (qc xw (qc xt (b.1+b.2))) (2^min (1:Int).toNat (qk xw)))).toNat*8)) 0 (bn D)/\
   gb C 164 ((#[]:Array Value).toList++[recv O,recv D]++(#[]:Array Value).toList) (.one (.sc (.int .i64))) Z fun ad h7=>
   (av.ok [] h7)/\
   Br (!(decide (ad<(0:Int))))
   (K3 (qc xt ((qc xt (qU (qc xw (qc xt (b.1+b.2))) (2^min (1:Int).toNat (qk xw))))+(1:Int)),b.2) h7)
   (K3 (b.1,qc xt (qU (qc xw (qc xt (b.1+b.2))) (2^min (1:Int).toNat (qk xw)))) h7))
   (aJ (σ:=Int) (fun c K4 h8=>
   Br (decide (c>b.1))
   (∃N:Addr,(s.ptr=some N/\0<=(qc xt (c-(1:Int)))/\(qc xt (c-(1:Int)))<((s.len:Nat):Int))/\
   ∃I:bu,aj h8 (N.add ((qc xt (c-(1:Int))).toNat*8)) 0 (bn I)/\
   ∃r:Addr,(s.ptr=some r/\0<=c/\c<((s.len:Nat):Int))/\
   ∃Q:bu,aj h8 (r.add (c.toNat*8)) 0 (bn Q)/\
   ∃a25:Addr,(s.ptr=some a25/\0<=c/\c<((s.len:Nat):Int))/\
   ag xx (qf 139 (xo (some (a25.add (c.toNat*8)))) (recv I)) h8 fun _ h9=>
   (av.ok [] h9)/\
   ∃q:Addr,(s.ptr=some q/\0<=(qc xt (c-(1:Int)))/\(qc xt (c-(1:Int)))<((s.len:Nat):Int))/\
   ag xx (qf 139 (xo (some (q.add ((qc xt (c-(1:Int))).toNat*8)))) (recv Q)) h9 fun _ J=>
   (av.ok [] J)/\
   K4 (qc xt (c-(1:Int))) J)
   (K (.tuple #[]) h8)) m Z)) (a,m) h:=by
 subst ha;subst hm;refine aw (fun t:Nat×Nat=>(((X.length+t.1:Nat):Int),((X.length+t.2:Nat):Int))) (fun t h'=>t.1<=t.2/\t.2<=L.length/\(∀k (d:k<L.length),k<t.1->cb L[k] y=true)/\(∀k (d:k<L.length),t.2<=k->¬cb L[k] y=true)/\aa B h0 h' (bP s (X++(L++(y::Y)))::As)) (fun t=>t.2-t.1) (0,L.length) rfl ⟨by simp,by simp,fun _ _ h=>by simp at h,fun _ n A=>absurd n (by simpa using A),H⟩ ?_;rintro⟨i,j⟩ n ⟨ap,hj,F,g,W⟩;dsimp only at*;refine al (fun e=>?_) (fun e=>?_)
 ·have f:i<j:=by omega
  rw[HL _ _];have eh:((X.length+i)+(X.length+j))/2=X.length+(i+j)/2:=by omega
  rw[eh];have d:(i+j)/2<L.length:=by omega
  refine⟨by decide,jI W (X.length+L.length) rfl (x:=y) ?_ (jI W _ rfl (x:=L[(i+j)/2]) ?_ (ee (by rfl) ?_))⟩
  ·rw[qj (by omega),show X.length+L.length-X.length=L.length by omega,qj (ql _),zi];rfl
  ·rw[qj (by omega),show X.length+(i+j)/2-X.length=(i+j)/2 by omega,qm d,qd d]
  refine(py y L[(i+j)/2] n).mono ?_;rintro _ A ⟨rfl,R2⟩;have H2:=W.up R2.ai;refine⟨_,rfl,trivial,?_⟩;by_cases e2:kZ y L[(i+j)/2]<0
  ·have ah:=(rq _ _).1 e2;refine bh (fun R=>absurd R (by simpa using e2)) fun _=>?_;refine⟨(i,(i+j)/2),rfl,⟨by dsimp only;omega,by dsimp only;omega,F,fun k E ao=>?_,H2⟩,by dsimp only;omega⟩;intro hc;exact ah (dO.trans _ _ _ (S.at_ dO (i:=(i+j)/2) (j:=k) (by dsimp only at ao;omega) E) hc)
  ·refine bh (fun _=>?_) fun R=>absurd R (by simpa using e2);refine⟨((i+j)/2+1,j),by dsimp only;rw[ak _];rfl,⟨by dsimp only;omega,hj,fun k E am=>?_,g,H2⟩,by dsimp only;omega⟩;exact dO.trans _ _ _ (S.at_ dO (by dsimp only at am;omega) d) (Bv e2)
 ·have f:i=j:=by omega
  subst f;have hM:Sd cb (L.take i++y::L.drop i):=by
   refine Sd.app dO (Sd.left (v:=L.drop i) (by rw[qI];exact S)) (zP.2 ⟨fun z p=>?_,Sd.right (u:=L.take i) (by rw[qI];exact S)⟩) fun z p w P=>?_
   ·obtain⟨k,d,rfl⟩:=qH p;rw[wb];exact dO.Fo (g _ (by simp at d;omega) (by omega))
   ·obtain⟨k,d,rfl⟩:=qH p;rw[w4];have ab:k<i:=by simp at d;omega
    have n:=F k (by simp at d;omega) ab;rcases q8.1 P with rfl|P
    ·exact n
    ·obtain⟨l,hl,rfl⟩:=qH P;rw[wb];exact S.at_ dO (by omega) (by simp at hl;omega)
  have hE:ct cb (L++[y]) (L.take i++y::L.drop i):=by
   have n:ct cb (L.drop i++[y]) ([y]++L.drop i):=ct.XA dO fun z p w P=>by
    rw[qG.1 P];obtain⟨k,d,rfl⟩:=qH p;rw[wb];exact g _ (by simp at d;omega) (by omega)
   have A:=(ct.refl (le:=cb) (L.take i)).app n;have e1:L.take i++(L.drop i++[y])=L++[y]:=by rw[<-qp,qI]
   rw[e1]at A;exact A
  refine aw (fun t:Nat=>((X.length+t:Nat):Int)) (fun t h'=>i<=t/\t<=L.length/\aa B h0 h' (bP s (X++(L.take t++(y::(L.drop t++Y))))::As)) (fun t=>t-i) L.length rfl ⟨by omega,by omega,by simpa using W⟩ ?_;rintro t h3 ⟨ht,ay,V⟩;refine al (fun e2=>?_) (fun e2=>?_)
  ·obtain⟨u,rfl⟩:∃u,t=u+1:=⟨t-1,by omega⟩
   have G:u<L.length:=by omega
   have o:X++(L.take (u+1)++(y::(L.drop (u+1)++Y)))=(X++L.take u)++L[u]::([]++y::(L.drop (u+1)++Y)):=by rw[aI L u G];simp only[qp,zB,zR]
   obtain⟨q1,q2,q3,q4⟩:=Rg (X++L.take u) [] (L.drop (u+1)++Y) L[u] y (i:=X.length+u) (j:=X.length+(u+1)) (by simp;omega) (by simp;omega);rw[<-o]at q1 q2 q3 q4;have ek:qc xt (((X.length+(u+1):Nat):Int)-1)=((X.length+u:Nat):Int):=by rw[ak _];omega
   rw[ek];refine jI V _ rfl q1 (jI V _ rfl q2 ?_);refine V.set ae 0 rfl (fun _=>rfl) rfl (X.length+(u+1)) rfl (qn.1 q2).1 L[u] rfl rfl rfl fun h4 H4=>⟨trivial,?_⟩
   refine H4.set ae 0 rfl (fun _=>rfl) rfl (X.length+u) rfl (by rw[zA];exact(qn.1 q1).1) y rfl rfl rfl fun h5 H5=>⟨trivial,?_⟩
   refine⟨u,rfl,⟨by omega,by omega,?_⟩,by omega⟩;have R:X++(L.take u++(y::(L.drop u++Y)))=(X++L.take u)++y::([]++L[u]::(L.drop (u+1)++Y)):=by rw[qV G];simp only[qp,zB,zR]
   rw[R,<-q4];exact H5
  ·have:t=i:=by omega
   subst this;refine d h3 ⟨L.take t++y::L.drop t,hM,hE,?_⟩;have:X++((L.take t++y::L.drop t)++Y)=X++(L.take t++(y::(L.drop t++Y))):=by simp
   rw[this];exact V
end
end Go.Qw
namespace Wl
open Go Go.Vc
theorem Ym{L R:List bu}(k:Sd cb L)(l:Sd cb R)(p q:Nat)(r:p<=L.length)(s:q<=R.length)
  (o:∀i j (c:i<L.length) (d:j<R.length),i+1=p->j=q->cb L[i] R[j]=true)
  (m:∀i j (c:i<L.length) (d:j<R.length),i=p->j+1=q->¬cb L[i] R[j]=true):
  (∀x∈L.take p,∀y∈R.drop q,cb x y=true)/\(∀x∈L.drop p,∀y∈R.take q,¬cb x y=true):=by
 constructor
 ·intro x e y f;obtain⟨i,c,rfl⟩:=qH e;obtain⟨j,d,rfl⟩:=qH f;rw[w4,wb];have a:i<p:=by simp at c;omega
  have b:q+j<R.length:=by simp at d;omega
  have g:=k.at_ dO (i:=i) (j:=p-1) (by omega) (by omega);have n:=o (p-1) q (by omega) (by omega) (by omega) rfl;have h3:=l.at_ dO (i:=q) (j:=q+j) (by omega) b;exact dO.trans _ _ _ g (dO.trans _ _ _ n h3)
 ·intro x e y f h;obtain⟨i,c,rfl⟩:=qH e;obtain⟨j,d,rfl⟩:=qH f;rw[w4,wb]at h;have b:j<q:=by simp at d;omega
  have a:p+i<L.length:=by simp at c;omega
  have g:=k.at_ dO (i:=p) (j:=p+i) (by omega) a;have h3:=l.at_ dO (i:=j) (j:=q-1) (by omega) (by omega);exact m p (q-1) (by omega) (by omega) rfl (by omega) (dO.trans _ _ _ g (dO.trans _ _ _ h h3))
end Wl
namespace Go.Qw
open Go Go.Vc Go.Proofs Wl
theorem Ey:∀(N:Nat) {B:aB} {h0 h:Heap} {As:List HP} {s:Sl} (X L R Y:List bu) (a m b:Int),0<L.length->0<R.length->L.length+R.length<=N->a=(X.length:Int)->m=(X.length+L.length:Nat)->b=(X.length+L.length+R.length:Nat)->X.length+L.length+R.length+Y.length<=2^40->Sd cb L->Sd cb R->
  aa B h0 h (bP s (X++(L++(R++Y)))::As)->
  ac xx 326 #[s,xl xt a,xl xt m,xl xt b,.func (.func 164) #[] #[]] h fun v h'=>v=.tuple #[]/\∃M,Sd cb M/\ct cb (L++R) M/\aa B h0 h' (bP s (X++(M++Y))::As):=by
 intro N
 induction N with
 |zero=>intro B h0 h As s X L R Y a m b hL hR hN;omega
 |succ N ih=>
  intro B h0 h As s X L R Y a m b hL hR hN ha hm hb Z V S H;refine lV s a m b (164,#[],#[]) ?_;unfold iE;have e1:qc xt (m-a)=(L.length:Int):=by rw[ak _];omega
  have e2:qc xt (b-m)=(R.length:Int):=by rw[ak _];omega
  rw[e1,e2];refine cI (fun c=>?_) fun c=>cI (fun c2=>?_) fun c2=>?_
  ·obtain⟨x,hx⟩:∃x,L=[x]:=by
    match L,hL,c with
    |[x],_,_=>exact⟨x,rfl⟩
    |x::y::L,_,c=>simp at c;omega
   subst hx;exact Ng (K:=fun v h'=>v=.tuple #[]/\∃M,Sd cb M/\ct cb ([x]++R) M/\aa B h0 h' (bP s (X++(M++Y))::As)) x X R Y (by simp at Z⊢;omega) S H (fun h' ⟨M,U,P,q3⟩=>⟨rfl,M,U,P,q3⟩) a m b ha (by rw[hm];simp) (by rw[hb];simp)
  ·obtain⟨y,hy⟩:∃y,R=[y]:=by
    match R,hR,c2 with
    |[x],_,_=>exact⟨x,rfl⟩
    |x::y::L,_,c=>simp at c;omega
   subst hy;exact Lo (K:=fun v h'=>v=.tuple #[]/\∃M,Sd cb M/\ct cb (L++[y]) M/\aa B h0 h' (bP s (X++(M++Y))::As)) y X L Y (by simp at Z⊢;omega) V H (fun h' ⟨M,U,P,q3⟩=>⟨rfl,M,U,P,q3⟩) a m ha hm
  ·refine⟨by decide,?_⟩;subst ha;subst hm;subst hb;have c':L.length≠1:=fun A=>c (by omega);have b0:R.length≠1:=fun A=>c2 (by omega);rw[HL X.length (X.length+L.length+R.length)];obtain⟨DU,am⟩:∃DU,DU=(X.length+(X.length+L.length+R.length))/2:=⟨_,rfl⟩
   rw[<-am];have en:qc xt ((DU:Int)+((X.length+L.length:Nat):Int))=((DU+(X.length+L.length):Nat):Int):=by rw[ak _];omega
   rw[en];obtain⟨n,hn⟩:∃n,n=DU+(X.length+L.length):=⟨_,rfl⟩
   rw[<-hn];have ep:qc xt ((n:Int)-1)=((n-1:Nat):Int):=by rw[ak _];omega
   rw[ep];obtain⟨D,hD⟩:∃D,D=X++(L++(R++Y)):=⟨_,rfl⟩
   have gL:∀i (f:i<L.length),D[X.length+i]?=some L[i]:=fun i f=>by
    rw[hD,qj (by omega),zq,qm f,qd f]
   have gR:∀i (f:i<R.length),D[X.length+L.length+i]?=some R[i]:=fun i f=>by
    rw[hD,qj (by omega),show X.length+L.length+i-X.length=L.length+i by omega,qj (by omega),zq,qm f,qd f]
   rw[<-hD]at H;refine cl (fun(k:Int×Int) h'=>h'=h/\∃o f:Nat,k=((o:Int),(f:Int))/\o<=f/\X.length<=o/\f<=X.length+L.length/\f<=DU/\n<=o+(X.length+L.length+R.length)/\(o=X.length∨n=o+(X.length+L.length+R.length))/\(f=X.length+L.length∨f=DU)) ?_ ?_
   ·refine al (fun e=>⟨rfl,n-(X.length+L.length+R.length),DU,?_,by omega,by omega,by omega,by omega,by omega,by omega,by omega⟩) fun e=>⟨rfl,X.length,X.length+L.length,rfl,by omega,by omega,by omega,by omega,by omega,by omega,by omega⟩
    have:qc xt ((n:Int)-((X.length+L.length+R.length:Nat):Int))=((n-(X.length+L.length+R.length):Nat):Int):=by rw[ak _];omega
    rw[this]
   ·rintro⟨bq,br⟩ _ ⟨rfl,o,f,bd,b1,b2,b3,b4,b5,b6,b7⟩;injection bd with est1 est2
    subst est1;subst est2;dsimp only;refine aw (fun t:Nat×Nat=>((t.1:Int),(t.2:Int))) (fun t h'=>o<=t.1/\t.1<=t.2/\t.2<=f/\
     (∀i j (l:i<L.length) (hj:j<R.length),X.length+i+1=t.1->X.length+i+(X.length+L.length+j)=n-1->o<t.1->cb L[i] R[j]=true)/\
     (∀i j (l:i<L.length) (hj:j<R.length),X.length+i=t.2->X.length+i+(X.length+L.length+j)=n-1->t.2<f->¬cb L[i] R[j]=true)/\
     aa B h0 h' (bP s D::As)) (fun t=>t.2-t.1) (o,f) rfl ⟨by simp,by simpa using b1,by simp,fun _ _ _ _ _ _ F=>absurd F (by simp),fun _ _ _ _ _ _ F=>absurd F (by simp),H⟩ ?_
    rintro⟨k,r⟩ h1 ⟨t1,t2,t3,F1,F2,H1⟩;dsimp only at*;refine al (fun e=>?_) (fun e=>?_)
    ·have F:k<r:=by omega
     rw[HL _ _];obtain⟨I,bl⟩:∃I,I=(k+r)/2:=⟨_,rfl⟩
     rw[<-bl];have ay:qc xt (((n-1:Nat):Int)-(I:Int))=((n-1-I:Nat):Int):=by rw[ak _];omega
     rw[ay];obtain⟨i,l⟩:∃i,I=X.length+i:=⟨I-X.length,by omega⟩
     obtain⟨j,a0⟩:∃j,n-1-I=X.length+L.length+j:=⟨n-1-I-(X.length+L.length),by omega⟩
     have ao:i<L.length:=by omega
     have a4:j<R.length:=by omega
     rw[a0,l];refine⟨by decide,jI H1 _ rfl (gR j a4) (jI H1 _ rfl (gL i ao) (ee (by rfl) ?_))⟩;refine(py R[j] L[i] h1).mono ?_;rintro _ h2 ⟨rfl,R2⟩;have G:=H1.up R2.ai;refine⟨_,rfl,trivial,?_⟩;by_cases e2:kZ R[j] L[i]<0
     ·have a6:=(rq _ _).1 e2;refine bh (fun e3=>absurd e3 (by simpa using e2)) fun _=>?_;refine⟨(k,X.length+i),rfl,⟨t1,by dsimp only;omega,by dsimp only;omega,F1,fun i2 j2 a8 a7 w E _=>?_,G⟩,by dsimp only;omega⟩;dsimp only at w;have:i2=i:=by omega
      subst this;have:j2=j:=by omega
      subst this;exact a6
     ·refine bh (fun _=>?_) fun e3=>absurd e3 (by simpa using e2);refine⟨(X.length+i+1,r),by dsimp only;rw[ak _];rfl,⟨by dsimp only;omega,by dsimp only;omega,t3,fun i2 j2 a8 a7 w E _=>?_,F2,G⟩,by dsimp only;omega⟩;dsimp only at w;have:i2=i:=by omega
      subst this;have:j2=j:=by omega
      subst this;exact Bv e2
    ·have a3:k=r:=by omega
     subst a3;have a1:qc xt ((n:Int)-(k:Int))=((n-k:Nat):Int):=by rw[ak _];omega
     rw[a1];obtain⟨p,hp⟩:∃p,k=X.length+p:=⟨k-X.length,by omega⟩
     obtain⟨q,hq⟩:∃q,n-k=X.length+L.length+q:=⟨n-k-(X.length+L.length),by omega⟩
     have bb:p<=L.length:=by omega
     have bk:q<=R.length:=by omega
     obtain⟨a9,a5⟩:=Ym V S p q bb bk (fun i j l hj w E=>F1 i j l hj (by omega) (by omega) (by
      by_cases a2:o<k
      ·exact a2
      ·exfalso;have:k=o:=by omega
       omega)) (fun i j l hj w E=>F2 i j l hj (by omega) (by omega) (by
      by_cases ap:k<f
      ·exact ap
      ·exfalso;have:k=f:=by omega
       omega))
     have W:L.take p++L.drop p=L:=qI _ _;have Q:R.take q++R.drop q=R:=qI _ _;have l1:(L.take p).length=p:=by simp;omega
     have l2:(L.drop p).length=L.length-p:=by simp
     have r1:(R.take q).length=q:=by simp;omega
     have r2:(R.drop q).length=R.length-q:=by simp
     have ad:Sd cb (L.take p):=Sd.left (v:=L.drop p) (by rw[W];exact V);have ah:Sd cb (L.drop p):=Sd.right (u:=L.take p) (by rw[W];exact V);have ab:Sd cb (R.take q):=Sd.left (v:=R.drop q) (by rw[Q];exact S);have T:Sd cb (R.drop q):=Sd.right (u:=R.take q) (by rw[Q];exact S);rw[hq,hp];refine cl (fun _ h'=>aa B h0 h' (bP s (X++(L.take p++(R.take q++(L.drop p++(R.drop q++Y)))))::As)) ?_ ?_
     ·have z:aa B h0 h1 (bP s ((X++L.take p)++(L.drop p++(R.take q++(R.drop q++Y))))::As):=by
       have:(X++L.take p)++(L.drop p++(R.take q++(R.drop q++Y)))=D:=by
        rw[hD]
        conv=>rhs;rw[<-W,<-Q]
        simp only[qp,zB,zR]
       rw[this];exact H1
      refine al (fun w=>al (fun E=>?_) fun E=>?_) fun w=>?_
      ·refine(Tc (X++L.take p) (L.drop p) (R.take q) (R.drop q++Y) _ _ _ (by omega) (by omega) (by simp;omega) (by simp;omega) (by simp;omega) (by simp;omega) z).mono ?_;rintro _ h2 ⟨rfl,G⟩;refine⟨(),rfl,?_⟩;rw[qp]at G;exact G
      ·have:R.take q=[]:=qZ (by omega);rw[this]at z⊢;simpa using z
      ·have:L.drop p=[]:=qZ (by omega);rw[this]at z⊢;simpa using z
     ·rintro _ h2 G;refine cl (fun _ h'=>∃g,Sd cb g/\ct cb (L.take p++R.take q) g/\g.length=p+q/\aa B h0 h' (bP s (X++(g++(L.drop p++(R.drop q++Y))))::As)) ?_ ?_
      ·have d:(L.take p=[]∨R.take q=[])->∃g,Sd cb g/\ct cb (L.take p++R.take q) g/\g.length=p+q/\aa B h0 h2 (bP s (X++(g++(L.drop p++(R.drop q++Y))))::As):=fun J=>by
        refine⟨L.take p++R.take q,?_,ct.refl _,by simp;omega,by rw[qp];exact G⟩;rcases J with A|A
        ·rw[A];exact ab
        ·rw[A,qS];exact ad
       refine al (fun w=>al (fun E=>?_) fun E=>d (.inr (qZ (by omega)))) fun w=>d (.inl (qZ (by omega)));refine(ih X (L.take p) (R.take q) (L.drop p++(R.drop q++Y)) _ _ _ (by omega) (by omega) (by omega) rfl (by rw[l1]) (by rw[l1,r1];omega) (by simp;omega) ad ab G).mono ?_;rintro _ h3 ⟨rfl,g,U,P,q3⟩;refine⟨(),rfl,g,U,P,?_,q3⟩;have O:=ux dO P;rw[<-O];simp;omega
      ·rintro _ h3 ⟨g,m1,m2,m3,H3⟩;have fin:∀{h':Heap} {M2:List bu},Sd cb M2->ct cb (L.drop p++R.drop q) M2->aa B h0 h' (bP s (X++(g++(M2++Y)))::As)->(Value.tuple #[]=.tuple #[]/\∃M,Sd cb M/\ct cb (L++R) M/\aa B h0 h' (bP s (X++(M++Y))::As)):=fun{h' M2} k1 k2 k3=>by
        obtain⟨f1,f2⟩:=XB dO (by rw[W];exact V) (by rw[Q];exact S) a9 a5 m2 m1 k2 k1;rw[W,Q]at f2;exact⟨rfl,g++M2,f1,f2,by rw[qp];exact k3⟩
       have d:(L.drop p=[]∨R.drop q=[])->(Value.tuple #[]=.tuple #[]/\∃M,Sd cb M/\ct cb (L++R) M/\aa B h0 h3 (bP s (X++(M++Y))::As)):=fun J=>by
        refine fin (M2:=L.drop p++R.drop q) ?_ (ct.refl _) (by rw[qp];exact H3);rcases J with A|A
        ·rw[A];exact T
        ·rw[A,qS];exact ah
       refine al (fun w=>al (fun E=>?_) fun E=>d (.inr (qZ (by omega)))) fun w=>d (.inl (qZ (by omega)));have ax:aa B h0 h3 (bP s ((X++g)++(L.drop p++(R.drop q++Y)))::As):=by rw[qp];exact H3
       refine(ih (X++g) (L.drop p) (R.drop q) Y _ _ _ (by omega) (by omega) (by omega) (by simp;omega) (by simp;omega) (by simp;omega) (by simp;omega) ah T ax).mono ?_;rintro _ h4 ⟨rfl,M2,k1,k2,k3⟩;refine⟨(),rfl,fin k1 k2 (by rw[qp]at k3;exact k3)⟩
end Go.Qw
namespace Wl
open Go Go.Vc
def Bs(k:Nat)(l:List bu):Prop:=∀q,Sd cb ((l.drop (q*k)).take k)
theorem Bs.nil(k:Nat):Bs k []:=fun q=>by simp[Sd]
theorem Bs.first{k:Nat}{l:List bu}(h:Bs k l):Sd cb (l.take k):=by have:=h 0;simpa using this
theorem Bs.rest{k:Nat}{l:List bu}(h:Bs k l):Bs k (l.drop k):=fun q=>by
 have:=h (q+1);rw[zH,show k+q*k=(q+1)*k by rw[zJ,Nat.add_comm]];exact this
theorem Bs.snoc{k t:Nat}{l M:List bu}(h:Bs k l)(b:l.length=t*k)(c:Sd cb M)(d:M.length<=k:=by omega):Bs k (l++M):=fun q=>by
 rcases Nat.lt_trichotomy q t with hq|hq|hq
 ·have a:(q+1)*k<=t*k:=zu _ hq;rw[zJ]at a;rw[List.drop_append_of_le_length (by omega),yd (by rw[za];omega)];exact h q
 ·subst hq;rw[<-b,List.drop_left,qi d];exact c
 ·have a:(t+1)*k<=q*k:=zu _ hq;rw[zJ]at a;rw[zb (by rw[qx];omega)];simp[Sd]
theorem Bs.whole{k:Nat}{l:List bu}(h:Bs k l)(a:l.length<=k):Sd cb l:=by
 have:=h.first;rw[qi a]at this;exact this
end Wl
namespace Go.Qw
open Go Go.Vc Go.Proofs Wl
section
variable {B:aB} {h0 h h':Heap} {As:List HP} {s:Sl} {d:List bu}
theorem Td(d:List bu)(n:Int)(hn:n=d.length)(hd:d.length<=2^30)(H:aa B h0 h (bP s d::As)):
  ac xx 253 #[s,xl xt n,.func (.func 164) #[] #[]] h fun v h'=>v=.tuple #[]/\aa B h0 h' (bP s (d.mergeSort cb)::As):=by
 subst hn;refine mL s d.length (164,#[],#[]) ?_;unfold iZ;refine aw (fun P:List bu=>((P.length:Int),((P.length+20:Nat):Int))) (fun P h'=>P.length<=d.length/\(∃t,P.length=t*20)/\Bs 20 P/\ct cb (d.take P.length) P/\aa B h0 h' (bP s (P++d.drop P.length)::As)) (fun P=>d.length-P.length) [] rfl ⟨by simp,⟨0,by simp⟩,Bs.nil _,by simpa using ct.refl _,by simpa using H⟩ ?_;rintro P h1 ⟨hP,⟨t,I⟩,U,V,R⟩;dsimp only;refine al (fun e=>?_) (fun e=>?_)
 ·have ao:P.length+20<=d.length:=by omega
  have eY:(d.drop P.length).take 20++d.drop (P.length+20)=d.drop P.length:=by
   rw[<-zH];exact qI _ _
  have W:((d.drop P.length).take 20).length=20:=by simp;omega
  rw[<-eY]at R;refine(Ct P ((d.drop P.length).take 20) (d.drop (P.length+20)) _ _ rfl (by rw[W]) (by simp;omega) R).mono ?_;rintro _ h2 ⟨rfl,i,m,b,H2⟩;have w:i.length=20:=by rw[<-ux dO b,W]
  have g:(P++i).length=P.length+20:=by rw[qx,w]
  refine⟨(),rfl,P++i,?_,⟨by omega,⟨t+1,by rw[g,I,zJ]⟩,U.snoc I m,?_,?_⟩,by omega⟩
  ·rw[g,ak _];congr 1
  ·rw[g];have:d.take (P.length+20)=d.take P.length++(d.drop P.length).take 20:=by rw[List.take_add]
   rw[this];exact V.app b
  ·rw[g,qp];exact H2
 ·have J:aa B h0 h1 (bP s (P++(d.drop P.length++[]))::As):=by rw[qS];exact R
  refine(Ct P (d.drop P.length) [] _ _ rfl (by rw[za];omega) (by simp;omega) J).mono ?_;rintro _ h3 ⟨rfl,i,m,b,T⟩;have w:i.length=d.length-P.length:=by rw[<-ux dO b,za]
  have L:Bs 20 (P++i):=U.snoc I m;have c:ct cb d (P++i):=by
   have:=V.app b;rw[qI]at this;exact this
  refine⟨(),rfl,?_⟩;refine aw (fun t:Nat×List bu=>(t.1:Int)) (fun t h'=>0<t.1/\t.1<=2^32/\t.2.length=d.length/\Bs t.1 t.2/\ct cb d t.2/\aa B h0 h' (bP s t.2::As)) (fun t=>2^32-t.1) (20,P++i) rfl ⟨by dsimp only;omega,by dsimp only;omega,by dsimp only;rw[qx];omega,L,c,by rw[qS]at T;exact T⟩ ?_;rintro⟨k,l⟩ h4 ⟨am,hk,Z,S,z,O⟩;dsimp only at*;refine al (fun e2=>?_) (fun e2=>?_)
  ·have Y:k<d.length:=by omega
   have F:qc xt ((2:Int)*k)=((2*k:Nat):Int):=by rw[ak _];omega
   have K:qc xt ((k:Int)*2)=((2*k:Nat):Int):=by rw[ak _];omega
   rw[F];have next:∀{h':Heap} (q:List bu),q.length=d.length->Bs (2*k) q->ct cb l q->aa B h0 h' (bP s q::As)->∃f:Nat×List bu,qc xt ((k:Int)*2)=(f.1:Int)/\(0<f.1/\f.1<=2^32/\f.2.length=d.length/\Bs f.1 f.2/\ct cb d f.2/\aa B h0 h' (bP s f.2::As))/\2^32-f.1<2^32-k:=fun{h'} q q1 q2 q3 q4=>
    ⟨(2*k,q),K,⟨by dsimp only;omega,by dsimp only;omega,q1,q2,z.trans q3,q4⟩,by dsimp only;omega⟩
   refine aw (fun t:List bu×List bu=>((t.1.length:Int),((t.1.length+2*k:Nat):Int))) (fun t h'=>(∃u,t.1.length=u*(2*k))/\t.1.length+t.2.length=d.length/\Bs (2*k) t.1/\Bs k t.2/\ct cb l (t.1++t.2)/\aa B h0 h' (bP s (t.1++t.2)::As)) (fun t=>t.2.length) ([],l) (by dsimp only;rw[yt,Nat.zero_add];rfl) ⟨⟨0,by simp⟩,by simpa using Z,Bs.nil _,S,by simpa using ct.refl _,by simpa using O⟩ ?_;rintro⟨P,Q⟩ X ⟨⟨u,A⟩,ab,j,a,c,N⟩;dsimp only at*;have G:qc xt ((P.length:Int)+k)=((P.length+k:Nat):Int):=by rw[ak _];omega
   rw[G];have eQ:Q.take k++Q.drop k=Q:=qI _ _;refine al (fun e3=>?_) (fun e3=>al (fun e4=>?_) fun e4=>?_)
   ·have ah:2*k<=Q.length:=by omega
    have r:Q.take k++((Q.drop k).take k++Q.drop (2*k))=Q:=by
     have:Q.drop (2*k)=(Q.drop k).drop k:=by rw[zH];congr 1;omega
     rw[this,qI,eQ]
    have l1:(Q.take k).length=k:=by simp;omega
    have l2:((Q.drop k).take k).length=k:=by simp;omega
    have p:aa B h0 X (bP s (P++(Q.take k++((Q.drop k).take k++Q.drop (2*k))))::As):=by rw[r];exact N
    refine(Ey _ P (Q.take k) ((Q.drop k).take k) (Q.drop (2*k)) _ _ _ (by omega) (by omega) (ql _) rfl (by rw[l1]) (by rw[l1,l2];omega) (by simp;omega) a.first a.rest.first p).mono ?_;rintro _ h6 ⟨rfl,M,m,b,D⟩;have x:M.length=2*k:=by rw[<-ux dO b,qx,l1,l2];omega
    have o:(P++M).length=P.length+2*k:=by rw[qx,x]
    refine⟨(),rfl,(P++M,Q.drop (2*k)),?_,⟨⟨u+1,by dsimp only;rw[o,A];exact(zJ u (2*k)).symm⟩,by dsimp only;rw[o,za];omega,j.snoc A m,?_,?_,?_⟩,by dsimp only;rw[za];omega⟩
    ·dsimp only;rw[o,ak _];congr 1
    ·dsimp only;have:Q.drop (2*k)=(Q.drop k).drop k:=by rw[zH];congr 1;omega
     rw[this];exact a.rest.rest
    ·dsimp only;refine c.trans ?_
     conv=>arg 2;rw[<-r]
     rw[qp];have:=(ct.refl (le:=cb) P).app (b.app (ct.refl (le:=cb) (Q.drop (2*k))));rw[qp]at this;exact this
    ·dsimp only;rw[qp];exact D
   ·have y:k<Q.length:=by omega
    have ad:Q.length<2*k:=by omega
    have l1:(Q.take k).length=k:=by simp;omega
    have l2:(Q.drop k).length=Q.length-k:=by simp
    have E:Sd cb (Q.drop k):=by
     have:=a.rest.first;rw[qi (by omega)]at this;exact this
    have p:aa B h0 X (bP s (P++(Q.take k++(Q.drop k++[])))::As):=by rw[qS,eQ];exact N
    refine(Ey _ P (Q.take k) (Q.drop k) [] _ _ _ (by omega) (by omega) (ql _) rfl (by rw[l1]) (by rw[l1,l2];omega) (by simp;omega) a.first E p).mono ?_;rintro _ h6 ⟨rfl,M,m,b,D⟩;have x:M.length=Q.length:=by rw[<-ux dO b,eQ]
    rw[eQ]at b;rw[qS]at D;exact⟨(),rfl,next (P++M) (by rw[qx];omega) (j.snoc A m) (c.trans ((ct.refl _).app b)) D⟩
   ·have y:Q.length<=k:=by omega
    exact next (P++Q) (by rw[qx];omega) (j.snoc A (a.whole y)) c N
  ·have hs:Sd cb l:=S.whole (by omega);rw[abX dO hs z]at O;exact⟨rfl,O⟩
theorem AM(d:List bu)(b:d.length<=2^30)(H:aa B h0 h (bP s d::As)):
  ac xx 163 #[s,.func (.func 164) #[] #[]] h fun v h'=>v=.tuple #[]/\aa B h0 h' (bP s (d.mergeSort cb)::As):=by
 refine jA s (164,#[],#[]) ?_;unfold fM;refine(Td d _ (by rw[(H.own 0 rfl).len]) b H).mono ?_;rintro _ c ⟨rfl,a⟩;exact⟨(),rfl,rfl,a⟩
def jx:bu:=(0,0,0,0,0,0,0,⟨none,0,0⟩)
end
end Go.Qw
namespace Wl
open Go Go.Vc Go.Qw
def jS(l:List bu)(k:Nat):Bool:=decide (k=0)||decide (kZ (l.getD k jx) (l.getD (k-1) jx)≠0)
def jy(l:List bu)(k:Nat):List bu:=((qE k).filter (jS l)).map fun i=>l.getD i jx
def Rk(l:List bu):List bu:=jy l l.length
theorem mO(l:List bu)(k:Nat):jy l (k+1)=jy l k++if jS l k then[l.getD k jx]else[]:=by
 unfold jy;rw[zI,zj,qT,zr,yZ];split<;>rfl
end Wl
namespace Go.Qw
open Go Go.Vc Go.Proofs Wl
section
variable {B:aB} {h0 h h':Heap} {As:List HP} {s:Sl} {d:List bu}
theorem Lp(a b:bu)(h:Heap):ac xx 166 #[recv a,recv b] h fun v h'=>v=xq (decide (kZ a b=0))/\Sp h h' []:=by
 refine FZ a b ?_;unfold xy;refine(Sp.refl h).boxed fun e j f=>f.boxed fun i d c=>?_;have c:Sp h d [aq e 139 (bn a),aq i 139 (bn b)]:=c;refine⟨a,(c.box 0 rfl).aL _ rfl,b,(c.box 1 rfl).aL _ rfl,(py a b d).mono ?_⟩;rintro _ h3 ⟨rfl,g⟩;refine⟨_,rfl,?_,.zip (aa.up c g.ai).ai⟩;congr 1
theorem xH(l:List bu)(hd:l.length<=2^30)(H:aa B h0 h (bP s l::As)):
  ac xx 165 #[s,.func (.func 166) #[] #[]] h fun v h'=>∃r:Sl,v=r/\aa B h0 h' (bP r (Rk l)::As):=by
 refine kb s (166,#[],#[]) ?_;unfold gj;have ao:=(H.own 0 rfl).len;have G:=(H.own 0 rfl).cap;have m:(∀j,j<l.length->jS l j=true)->Rk l=l:=fun A=>by
  have:∀k,k<=l.length->jy l k=l.take k:=fun k=>by
   induction k with
   |zero=>simp[jy]
   |succ k ih=>
    intro T;rw[mO,ih (by omega),if_pos (A k (by omega)),aI l k,getD_lt (show k<l.length by omega)]
  unfold Rk;rw[this _ (ql _),qQ]
 refine al (fun e=>⟨s,rfl,?_⟩) (fun e=>?_)
 ·rw[m fun j n=>by unfold jS;rw[decide_eq_true (show j=0 by omega)];rfl];exact H
 refine aw (fun i:Nat=>(i:Int)) (fun i h'=>1<=i/\i<=l.length/\(∀j,j<i->jS l j=true)/\aa B h0 h' (bP s l::As)) (fun i=>l.length-i) 1 rfl ⟨by omega,by omega,fun j n=>by unfold jS;rw[decide_eq_true (show j=0 by omega)];rfl,H⟩ ?_;rintro i h1 ⟨ad,hi,A,J⟩;refine al (fun N=>?_) (fun N=>?_)
 ·have F:i<l.length:=by
   have e':(i:Int)<(s.len:Int):=N;omega
  have ei:qc xt ((i:Int)-1)=((i-1:Nat):Int):=by rw[ak _];omega
  rw[ei];refine jI J i rfl (x:=l.getD i jx) (by rw[getD_lt F,qd F]) (jI J (i-1) rfl (x:=l.getD (i-1) jx) (by rw[getD_lt (show i-1<l.length by omega),qd]) (ee (by rfl) ?_));refine(Lp _ _ h1).mono ?_;rintro _ h2 ⟨rfl,R2⟩;have V:=J.up R2.ai;refine⟨_,rfl,trivial,bw (fun e2=>?_) (fun e2=>?_)⟩
  ·have q:jS l i=false:=by
    unfold jS;rw[decide_eq_false (show¬i=0 by omega)];simpa using e2
   have p:jy l i=l.take i:=by
    have:∀k,k<=i->jy l k=l.take k:=fun k=>by
     induction k with
     |zero=>simp[jy]
     |succ k ih=>
      intro T;rw[mO,ih (by omega),if_pos (A k (by omega)),aI l k,getD_lt (show k<l.length by omega)]
    exact this i (ql _)
   refine⟨⟨by omega,by omega⟩,?_⟩;rw[qo];refine aw (fun t:Nat×List bu=>(((jy l (i+t.1)).length:Int),(t.1:Int))) (fun t h'=>1<=t.1/\i+t.1<=l.length/\t.2.length=l.length/\(jy l (i+t.1)).length+1<=i+t.1/\t.2.take (jy l (i+t.1)).length=jy l (i+t.1)/\(∀j,i+t.1-1<=j->t.2[j]?=l[j]?)/\aa B h0 h' (bP s t.2::As)) (fun t=>l.length-t.1) (1,l) ?_ ⟨by simp,by dsimp only;omega,rfl,?_,?_,fun _ _=>rfl,V⟩ ?_
   ·dsimp only;rw[mO,q,p];simp;omega
   ·dsimp only;rw[mO,q,p];simp;omega
   ·dsimp only;rw[mO,q,p];simp
   rintro⟨k,D⟩ h3 ⟨ah,ab,E,Q,d,u,I⟩;dsimp only at*;obtain⟨c,K⟩:∃c,c=(jy l (i+k)).length:=⟨_,rfl⟩
   rw[<-K]at Q d⊢;have am:=(I.own 0 rfl).len;have y:=(I.seq 0 rfl fun _=>rfl).drop i G;refine al (fun e3=>?_) (fun e3=>?_)
   ·have S:i+k<l.length:=by omega
    have ek:qc xt ((k:Int)-1)=((k-1:Nat):Int):=by rw[ak _];omega
    rw[ek];have X:∀j,k-1<=j->(n:i+j<l.length)->(D.drop i)[j]?=some (l.getD (i+j) jx):=fun j n w=>by
     rw[wC,u _ (by omega),getD_lt w,qd w]
    have gk:=X k (by omega) S;have P:=X (k-1) (by omega) (by omega);obtain⟨Z,W⟩:=qn.1 gk;obtain⟨q1,q2⟩:=qn.1 P;refine Seq.dt (f:=bn) (g:=bn) y k rfl Z (l.getD (i+k) jx) (by rw[W]) ?_;refine Seq.dt (f:=bn) (g:=bn) y (k-1) rfl q1 (l.getD (i+(k-1)) jx) (by rw[q2]) (ee (by rfl) ?_);refine(Lp _ _ h3).mono ?_;rintro _ h4 ⟨rfl,R4⟩;have R:=I.up R4.ai;have o:jS l (i+k)=!decide (kZ (l.getD (i+k) jx) (l.getD (i+(k-1)) jx)=0):=by
     unfold jS;rw[decide_eq_false (show¬i+k=0 by omega),show i+k-1=i+(k-1)by omega];simp
    have b:=mO l (i+k);rw[o]at b;refine⟨_,rfl,trivial,bh (fun L=>?_) (fun L=>?_)⟩
    ·rw[L]at b;have a:(jy l (i+(k+1))).length=c+1:=by rw[<-w8,b];simp[K]
     have z:=(R.seq 0 rfl fun _=>rfl).drop i G;refine Seq.dt (f:=bn) (g:=bn) z k rfl Z (l.getD (i+k) jx) (by rw[W]) ?_;refine R.set ae 0 rfl (fun _=>rfl) rfl c rfl (by omega) (l.getD (i+k) jx) rfl rfl rfl fun h5 H5=>?_;refine⟨(k+1,D.set c (l.getD (i+k) jx)),?_,⟨by dsimp only;omega,by dsimp only;omega,by dsimp only;rw[zA];exact E,by dsimp only;rw[a];omega,?_,fun j n=>?_,H5⟩,by dsimp only;omega⟩
     ·dsimp only;rw[a,ak _,ak _];rfl
     ·dsimp only;rw[a,aI _ c (by rw[zA];omega),vI,List.take_set_of_le (ql _),d,<-w8,b];simp
     ·dsimp only at n⊢;rw[zN (by omega)];exact u j (by omega)
    ·rw[L]at b;have a:(jy l (i+(k+1))).length=c:=by rw[<-w8,b];simp[K]
     refine⟨(k+1,D),?_,⟨by dsimp only;omega,by dsimp only;omega,E,by dsimp only;rw[a];omega,?_,fun j n=>u j (by dsimp only at n;omega),R⟩,by dsimp only;omega⟩
     ·dsimp only;rw[a,ak _];rfl
     ·dsimp only;rw[a,d,<-w8,b];simp
   ·have U:i+k=l.length:=by omega
    refine⟨⟨by omega,by omega⟩,?_⟩;rw[qo];refine I.nW ae 0 rfl aaI (fun _=>rfl) rfl (by decide) c (by omega) fun h6 Y=>⟨⟨by omega,by omega⟩,⟨s.ptr,c,s.cap⟩,rfl,?_⟩
    rw[d,U]at Y;exact Y
  ·refine⟨i+1,by rw[ak _];rfl,⟨by omega,by omega,fun j n=>?_,V⟩,by omega⟩;by_cases O:j=i
   ·subst O;unfold jS;rw[decide_eq_true (show kZ (l.getD j jx) (l.getD (j-1) jx)≠0 by simpa using e2)];simp
   ·exact A j (by omega)
 ·have M:i=l.length:=by
   have e':¬(i:Int)<(s.len:Int):=N;omega
  subst M;rw[m A];exact⟨s,rfl,J⟩
end
def fieldsOf(d:Option TypeDesc):List (Bool×TypeId×Nat):=match d with|some (.struct fs)=>fs.toList.map (fun f=>(f.name== "_",f.type,f.offset))|_=>[]
theorem Yn:fieldsOf (Tryz.prog.underlying 24)=[(false,3,0),(false,3,1),(false,3,2)]:=by kernel_rfl
theorem aaM:Tryz.prog.stoodInHeld 24=false:=by kernel_rfl
theorem aaN:Tryz.prog.eqGuardType Tryz.prog.depth 24=false:=by kernel_rfl
theorem Rl{P:Program}{t:TypeId}{a b c:TypeId×Nat}(h:fieldsOf (P.underlying t)=[(false,a.1,a.2),(false,b.1,b.2),(false,c.1,c.2)]):
  ∃f g e:Field,P.underlying t=some (.struct #[f,g,e])/\(f.name≠ "_" /\f.type=a.1/\f.offset=a.2)/\(g.name≠ "_" /\g.type=b.1/\g.offset=b.2)/\(e.name≠ "_" /\e.type=c.1/\e.offset=c.2):=by
 cases hu:P.underlying t with
 |none=>rw[hu]at h;cases h
 |some d=>
  rw[hu]at h;cases d with
  |struct fs=>
   simp only[fieldsOf]at h;obtain⟨l⟩:=fs;have i:l.length=3:=by simpa using congrArg yW h
   obtain⟨f,r,rfl⟩:=yk i;obtain⟨g,k,rfl⟩:=yk (by simpa using i:r.length=1+1);obtain⟨e,j,rfl⟩:=yk (by simpa using i:k.length=0+1);obtain rfl:j=[]:=by simpa using i
   simp at h;exact⟨f,g,e,rfl,⟨h.1.1,h.1.2.1,h.1.2.2⟩,⟨h.2.1.1,h.2.1.2.1,h.2.1.2.2⟩,⟨h.2.2.1,h.2.2.2.1,h.2.2.2.2⟩⟩
  |_=>cases h
theorem iS{P:Program}{d:Nat}{t:TypeId}{k:IntKind}(h:∃c,P.underlying t=some (.int c))(a b:Int):aF P (Op.equalIn (d+1) t (.int k a) (.int k b)) (a==b):=by
 obtain⟨c,h⟩:=h;unfold Op.equalIn;refine(aM h).bind ?_;simp only[if_true];exact .pure
theorem lG{P:Program}{t:TypeId}{k:IntKind}(h:P.underlying t=some (.int k)){a:Array Value}{i:Nat}{v:Value}(b:a[i]?=some v):aF P (part t a i) v:=by
 unfold part isAgg;refine aF.bind (v:=false) ((aM h).bind .pure) ?_;simp only[zf,if_false,b];exact .pure
theorem afA(p q:Pm):aF xx (Op.equal 24 (xr #[xl xt p.1,xl xt p.2.1,xl xt p.2.2]) (xr #[xl xt q.1,xl xt q.2.1,xl xt q.2.2])) (decide (p=q)):=by
 obtain⟨f,g,u,z,⟨D,y,I⟩,⟨G,A,B⟩,⟨H,E,u3⟩⟩:=Rl (a:=(3,0)) (b:=(3,1)) (c:=(3,2)) Yn;have F:∃k,Tryz.prog.underlying 3=some (.int k):=⟨.i64,by kernel_rfl⟩
 obtain⟨k,d⟩:=F;unfold Op.equal;rw[show Op.maxDepth=9998+1+1 from rfl,Op.equalIn];refine(aM z).bind ?_;refine aF.bind (v:=xx) (fun w=>rfl) ?_;simp only[aaM,zf,if_false,List.forIn_toArray,List.forIn_cons,List.forIn_nil,ne_eq,D,G,H,not_false_eq_true,if_true,y,I,A,B,E,u3];obtain⟨a,b,c⟩:=p;obtain⟨h,i,j⟩:=q;dsimp only;have o:aF xx (part 3 #[Value.int xt a,Value.int xt b,Value.int xt c] 0) _:=lG d rfl;have n:aF xx (part 3 #[Value.int xt h,Value.int xt i,Value.int xt j] 0) _:=lG d rfl;have r:aF xx (part 3 #[Value.int xt a,Value.int xt b,Value.int xt c] 1) _:=lG d rfl;have s:aF xx (part 3 #[Value.int xt h,Value.int xt i,Value.int xt j] 1) _:=lG d rfl;have x:aF xx (part 3 #[Value.int xt a,Value.int xt b,Value.int xt c] 2) _:=lG d rfl;have t:aF xx (part 3 #[Value.int xt h,Value.int xt i,Value.int xt j] 2) _:=lG d rfl;by_cases l:a=h
 ·by_cases m:b=i
  ·by_cases h3:c=j
   ·have e:decide ((a,b,c)=(h,i,j))=true:=by simp[l,m,h3]
    rw[e];refine aF.bind (v:=(none,())) (aF.bind (v:=ForInStep.yield (none,())) (o.bind (n.bind ((iS ⟨k,d⟩ a h).bind ?_))) (aF.bind (v:=ForInStep.yield (none,())) (r.bind (s.bind ((iS ⟨k,d⟩ b i).bind ?_))) (aF.bind (v:=ForInStep.yield (none,())) (x.bind (t.bind ((iS ⟨k,d⟩ c j).bind ?_))) .pure))) .pure
    ·simp only[l,beq_self_eq_true,wW,zf,if_false];exact .pure
    ·simp only[m,beq_self_eq_true,wW,zf,if_false];exact .pure
    ·simp only[h3,beq_self_eq_true,wW,zf,if_false];exact .pure
   ·have e:decide ((a,b,c)=(h,i,j))=false:=by simp[h3]
    rw[e];refine aF.bind (v:=(some false,())) (aF.bind (v:=ForInStep.yield (none,())) (o.bind (n.bind ((iS ⟨k,d⟩ a h).bind ?_))) (aF.bind (v:=ForInStep.yield (none,())) (r.bind (s.bind ((iS ⟨k,d⟩ b i).bind ?_))) (aF.bind (v:=ForInStep.done (some false,())) (x.bind (t.bind ((iS ⟨k,d⟩ c j).bind ?_))) .pure))) .pure
    ·simp only[l,beq_self_eq_true,wW,zf,if_false];exact .pure
    ·simp only[m,beq_self_eq_true,wW,zf,if_false];exact .pure
    ·rw[show(c==j)=false by simpa using h3];simp only[yb,if_true];exact .pure
  ·have e:decide ((a,b,c)=(h,i,j))=false:=by simp[m]
   rw[e];refine aF.bind (v:=(some false,())) (aF.bind (v:=ForInStep.yield (none,())) (o.bind (n.bind ((iS ⟨k,d⟩ a h).bind ?_))) (aF.bind (v:=ForInStep.done (some false,())) (r.bind (s.bind ((iS ⟨k,d⟩ b i).bind ?_))) .pure)) .pure
   ·simp only[l,beq_self_eq_true,wW,zf,if_false];exact .pure
   ·rw[show(b==i)=false by simpa using m];simp only[yb,if_true];exact .pure
 ·have e:decide ((a,b,c)=(h,i,j))=false:=by simp[l]
  rw[e];refine aF.bind (v:=(some false,())) (aF.bind (v:=ForInStep.done (some false,())) (o.bind (n.bind ((iS ⟨k,d⟩ a h).bind ?_))) .pure) .pure;rw[show(a==h)=false by simpa using l];simp only[yb,if_true];exact .pure
theorem aeK(x y:Operand)(p q:Pm):kr xx .neq 24 x y (xr #[xl xt p.1,xl xt p.2.1,xl xt p.2.2]) (xr #[xl xt q.1,xl xt q.2.1,xl xt q.2.2]) (xq (!decide (p=q))):=by
 unfold kr eqGuard;refine aF.bind (v:=()) ?_ ?_
 ·simp only[wW,zf,if_false];refine aF.bind (v:=xx) (fun w=>rfl) ?_;refine aF.bind (v:=xx) (fun w=>rfl) ?_;simp only[aaN,yb,if_true];exact .pure
 ·exact(afA p q).bind .pure
end Go.Qw
namespace Wl
def VX(P:bV->Bool)(l:List bV)(i:Int):Prop:=(i=-1/\l.any P=false)∨∃n:Nat,∃h:n<l.length,i=n/\P l[n]=true/\(l.take n).any P=false
theorem Rm{P:bV->Bool}{l:List bV}{i:Int}(h:VX P l i):decide (i>=0)=l.any P:=by
 rcases h with⟨rfl,h⟩|⟨n,hn,rfl,h,_⟩
 ·rw[h];rfl
 ·rw[wV.2 ⟨_,qh hn,h⟩];exact decide_eq_true (by omega)
end Wl
namespace Go.Qw
open Go Go.Vc Go.Proofs Wl
theorem IC(f:FuncId)(pre post:Array Value)(P:Wl.bV->Bool)(l:Sl)(a:List Wl.bV)(h:Heap)(w:C.fns[f]?=some true)(m:fx uE h l a)(F:a.length<=2^30)
  (p:∀(u:eK) (E:Wl.bV) (h':Heap),Sp h h' []->fx nC h' u E->E∈a->ac xx f (pre.toList++[Value.agg #[xp u.1,xl xt u.2.1,xl xt u.2.2.1,u.2.2.2]]++post.toList).toArray h' fun v k=>v=xq (P E)/\Sp h' k []):
  ac xx 138 #[l,.func (.func f) pre post] h fun v h'=>(∃i:Int,v=xl xt i/\VX P a i)/\Sp h h' []:=by
 refine gG l (f,pre,post) ?_;unfold ff;obtain⟨e,y,B,z⟩:=cF.oK m;have s:=cF.len m;refine aw (fun i:Nat=>(i:Int)) (fun i h'=>i<=a.length/\(a.take i).any P=false/\Sp h h' []) (fun i=>a.length-i) 0 rfl ⟨by omega,by simp,Sp.refl h⟩ ?_;rintro i o ⟨D,b,d⟩;refine al (fun j=>?_) (fun j=>?_)
 ·have c:i<a.length:=by
   have r:(i:Int)<(l.len:Int):=j;omega
  have t:fx nC o (e[i]'(by omega)) a[i]:=nC.mono (nC.loc (z i (by omega) c) d.ai) fun _ q=>qY q d.ai.1;refine(Seq.up y d.ai).dt (g:=bI) i rfl (by omega) (e[i]'(by omega)) rfl (ee w ?_);refine(p (e[i]'(by omega)) a[i] o d t (qh c)).mono ?_;rintro _ A ⟨rfl,x⟩;have n:=d.up x.ai;refine⟨_,rfl,bw (fun e2=>⟨⟨i,rfl,.inr ⟨i,c,rfl,e2,b⟩⟩,n⟩) (fun e2=>?_)⟩;refine⟨i+1,by rw[ak _];rfl,⟨by omega,?_,n⟩,by omega⟩;rw[aI _ _ c,y6,b,List.any_cons,List.any_nil,e2];rfl
 ·have r:¬(i:Int)<(l.len:Int):=j;rw[qi (by omega)]at b;exact⟨⟨-1,rfl,.inl ⟨rfl,b⟩⟩,d⟩
theorem Nh(f:FuncId)(pre post:Array Value)(P:Wl.bV->Bool)(l:Sl)(a:List Wl.bV)(h:Heap)(k:C.fns[f]?=some true)(d:fx uE h l a)(j:a.length<=2^30)
  (c:∀(u:eK) (E:Wl.bV) (h':Heap),Sp h h' []->fx nC h' u E->E∈a->ac xx f (pre.toList++[Value.agg #[xp u.1,xl xt u.2.1,xl xt u.2.2.1,u.2.2.2]]++post.toList).toArray h' fun v b=>v=xq (P E)/\Sp h' b []):
  ac xx 192 #[l,.func (.func f) pre post] h fun v h'=>v=xq (a.any P)/\Sp h h' []:=by
 refine fZ l (f,pre,post) ?_;unfold eJ;refine(IC f pre post P l a h k d j c).mono ?_;rintro _ m ⟨⟨i,rfl,g⟩,e⟩;exact⟨i,rfl,by rw[Rm g],e⟩
theorem ul(o b t:Int)(h:Heap):ac xx 69 #[xl xt o,xl xt b,xl xt t] h fun v h'=>v=xl xv (cN o b t)/\h'=h:=by
 refine OM o b t ?_;unfold Ik;refine⟨?_,rfl⟩;have:qc xv ((qc xv ((qc xv ((128:Int)*(qc xv o)))+(qc xv ((16:Int)*(qc xv b)))))+(qc xv t))=cN o b t:=by
  unfold cN qc;simp[qk,yR];omega
 rw[this]
theorem Te(x:bD)(m:aG)(y:bu)(r:cC)(h:Heap)(q:dK h x m)(Y:cO m)(O:fx dg h y r):
  ac xx 162 #[eT x,recv y] h fun v h'=>v=xq (cX m r)/\Sp h h' []:=by
 refine KM x y ?_;unfold Ek;refine(Sp.refl h).boxed fun S h1 H1=>H1.boxed fun c L i=>?_;have i:Sp h L [aq S 59 (aP x),aq c 139 (bn y)]:=i;obtain⟨⟨e1,e2,e3,H,e5,e7,e8⟩,e6⟩:=id O;have B:x.2.2.1=m.p.1:=congrArg (·.1) q.p;have w:x.2.2.2.1=m.p.2.1:=congrArg (·.2.1) q.p;have s:x.2.2.2.2.1=m.p.2.2:=congrArg (·.2.2) q.p;have F:y.2.2.2.1=r.p.1:=congrArg (·.1) H;have G:y.2.2.2.2.1=r.p.2.1:=congrArg (·.2.1) H;have A:y.2.2.2.2.2.1=r.p.2.2:=congrArg (·.2.2) H;have X:=Y.ob;refine be ⟨y,(i.box 1 rfl).aL _ rfl,(IA y r L (dg.mono (dg.loc O i.ai) fun _ hb=>qY hb i.ai.1)).mono ?_⟩;rintro _ h3 ⟨rfl,Z⟩;have e:Sp h h3 [aq S 59 (aP x),aq c 139 (bn y)]:=i.up Z.ai;have T:=e.box 0 rfl;have z:=e.box 1 rfl;refine⟨_,rfl,bh (fun g=>⟨by unfold cX;rw[g];rfl,.zip e.ai⟩) fun g=>?_⟩;obtain⟨_,g2,_⟩:=(ge r).1 g;refine⟨r.p,by rw[<-F,<-G,<-A];exact z.HJ 3 rfl rfl rfl,m.p,by rw[<-B,<-w,<-s];exact T.HJ 2 rfl rfl rfl,_,aeK _ _ r.p m.p,bh (fun t=>⟨?_,.zip e.ai⟩) fun t=>?_⟩
 ·unfold cX;rw[g,t];rfl
 obtain⟨P,M⟩:∃P:Wl.bV->Bool,P=fun x=>decide (x.object=r.object)&&(decide (r.block<(x.tries.length:Int))&&decide (r.seed=cN r.object r.block (x.tries.getD r.block.toNat 0))):=⟨_,rfl⟩
 have D:cX m r=m.objs.any P:=by unfold cX;rw[g,t,M];rfl
 refine⟨x.2.2.2.2.2.2.2,T.cell rfl,?_⟩;refine(Nh 252 #[] #[xo (some c)] P x.2.2.2.2.2.2.2 m.objs h3 (by rfl) (q.up e.ai).objs (by omega) fun u E K V he _=>?_).mono ?_
 ·obtain⟨⟨y1,y2,y3⟩,Q⟩:=he;have ab:=Seq.len Q;have k:=z.ai V.ai z.lt;refine HU u c ?_;unfold AJ;refine(Sp.refl K).boxed fun a5 b a=>?_;have a:Sp K b [aq a5 105 (bI u)]:=a;have R:=a.box 0 rfl;have d:=k.ai a.ai k.lt;have o:cellOf b (a5.add 1)=some (xl xt E.object):=by rw[<-y2];exact R.cell rfl
  have n:cellOf b (a5.add 3)=some (xn u.2.2.2.ptr u.2.2.2.len u.2.2.2.cap):=R.cell rfl;have l:cellOf b c=some (xl xt r.object):=by rw[<-e1];exact d.cell0 rfl
  have j:cellOf b (c.add 1)=some (xl xt r.block):=by rw[<-e2];exact d.cell rfl
  have N:cellOf b (c.add 6)=some (xl xv r.seed):=by rw[<-e5];exact d.cell rfl
  rw[M];refine⟨E.object,o,r.object,l,cI (fun I=>?_) fun I=>⟨⟨l,o,trivial⟩,?_,.zip a.ai⟩⟩
  ·refine⟨u.2.2.2,n,r.block,j,al (fun W=>?_) fun W=>⟨⟨j,n,l,o,trivial⟩,?_,.zip a.ai⟩⟩
   ·have J:r.block.toNat<E.tries.length:=by omega
    refine⟨r.seed,N,r.object,l,r.block,j,u.2.2.2,n,r.block,j,?_⟩;refine Seq.bx (f:=aD) (Seq.up Q a.ai) r.block.toNat (by omega) J (E.tries.getD r.block.toNat 0) (by rw[getD_lt J];rfl) ?_;refine(ul _ _ _ b).mono ?_;rintro _ _ ⟨rfl,rfl⟩;refine⟨_,rfl,⟨j,n,N,j,n,l,o,trivial⟩,?_,.zip a.ai⟩;dsimp only;rw[decide_eq_true I,decide_eq_true (show r.block<(E.tries.length:Int)by omega),zW,zW];congr 1
   ·dsimp only;rw[decide_eq_false (show¬r.block<(E.tries.length:Int)by omega)];simp
  ·dsimp only;rw[decide_eq_false I];rfl
 ·rintro _ b ⟨rfl,U⟩;exact⟨_,rfl,by rw[D],.zip (aa.up e U.ai).ai⟩
section
variable {α:Type}
def nG(k:Nat)(f:α->aW):iJ Sl (List α):=⟨fun h q s l=>Seq h q s k f l/\s.len<=s.cap,fun a b=>⟨a.1.ai b,a.2⟩,fun a c=>⟨a.1.mono c,a.2⟩⟩
theorem aa.acC{B:aB}{h0 h:Heap}{As:List HP}{e b k:Nat}{s:Sl}{f:α->aW}{a:List (List α)}(H:aa B h0 h (lN e s b k f a::As))(n:∀x,(f x).length=k):∃rs,aa B h0 h (cu (nG k f) 1 bJ s rs a::As):=by
 obtain⟨rs,H⟩:=H.Ht;obtain⟨H,d⟩:=H.IV;refine⟨rs,H.fO 0 rfl fun q j=>⟨?_,d,fun i r l m c=>?_⟩⟩
 ·have:=HP.Cr (i:=0) j rfl;exact this.1.seq (fun _=>rfl) this.2
 ·have g:i<a.length:=(qn.1 c).1;have o:=jX (e:=b) (k:=k) (f:=f) d i g;have:=HP.Cr (i:=i+1) j (by simpa using o);have p:rs[i]'(by omega)=r:=by rw[qd (by omega)]at m;simpa using m
  have b:a[i]=l:=by rw[qd g]at c;simpa using c
  rw[p,b]at this;exact⟨this.1.seq n this.2,this.1.cap⟩
end
def fq(T:List (bu×cC)):HP:=⟨fun h q=>∀t∈T,dg.p h q t.1 t.2,fun a c t b=>dg.loc (a t b) c,fun a d t b=>dg.mono (a t b) d⟩
end Go.Qw
namespace Wl
open Go Go.Vc Go.Qw
def Keyed(T:List (bu×cC)):Prop:=∀t∈T,t.1.1=t.2.object/\t.1.2.1=t.2.block/\t.1.2.2.1=t.2.id
def Oe(a b:bu×cC):Bool:=pM a.2 b.2
theorem aaO{T:List (bu×cC)}(k:Keyed T):∀a∈T,∀b∈T,Oe a b=cb a.1 b.1:=fun a f b e=>by
 obtain⟨d,i,a3⟩:=k a f;obtain⟨g,c,h⟩:=k b e;unfold Oe pM cb;rw[decide_eq_decide,Cq,d,i,a3,g,c,h]
theorem VY{T:List (bu×cC)}(k:Keyed T):(T.mergeSort Oe).map qJ=(T.map qJ).mergeSort cb/\(T.mergeSort Oe).map zt=(T.map zt).mergeSort pM/\Keyed (T.mergeSort Oe):=
 ⟨vA (aaO k),vA fun a _ b _=>rfl,fun t c=>k t (yB.1 c)⟩
def Lq:bu×cC:=(jx,Kn)
def DC(T:List (bu×cC)):List (bu×cC):=((qE T.length).filter (oP (T.map zt))).map fun i=>T.getD i Lq
theorem getD_map{α β:Type}(f:α->β)(l:List α)(i:Nat)(d:α):(l.map f).getD i (f d)=f (l.getD i d):=by
 rw[qe,qe,qO];cases l[i]?<;>rfl
theorem Yo{T:List (bu×cC)}(k:Keyed T):(DC T).map qJ=Rk (T.map qJ)/\(DC T).map zt=rh (T.map zt)/\∀t∈DC T,t∈T:=by
 have l:∀i,i<T.length->jS (T.map qJ) i=oP (T.map zt) i:=fun i a=>by
  unfold jS oP;have g:∀j,j<T.length->(T.map qJ).getD j jx=(T[j]?.getD Lq).1/\(T.map zt).getD j Kn=(T[j]?.getD Lq).2:=fun j o=>by
   rw[qe,qe,qO,qO,qd o];exact⟨rfl,rfl⟩
  by_cases h0:i=0
  ·rw[decide_eq_true h0];rfl
  ·rw[decide_eq_false h0,vp,vp,(g i a).1,(g i a).2,(g (i-1) (by omega)).1,(g (i-1) (by omega)).2];rw[qd a,qd (show i-1<T.length by omega)];obtain⟨p,e,a3⟩:=k _ (qh a);obtain⟨q,f,n⟩:=k _ (qh (show i-1<T.length by omega));unfold mH;simp only[Option.getD_some];have c:=Yk T[i].1 (T[i-1]'(by omega)).1;rw[p,e,a3,q,f,n]at c;by_cases b:kZ T[i].1 (T[i-1]'(by omega)).1=0
   ·rw[decide_eq_false (fun h=>h b),decide_eq_true (c.1 b)];rfl
   ·rw[decide_eq_true b,decide_eq_false (fun m=>b (c.2 m))];rfl
 have r:(qE T.length).filter (jS (T.map qJ))=(qE T.length).filter (oP (T.map zt)):=List.filter_congr fun i a=>l i (qD.1 a);refine⟨?_,?_,fun t d=>?_⟩
 ·unfold DC Rk jy;rw[qu,r,wR];congr 1;funext i;exact(getD_map qJ T i Lq).symm
 ·unfold DC rh;rw[qu,wR];congr 1;funext i;exact(getD_map zt T i Lq).symm
 ·unfold DC at d;obtain⟨i,a,rfl⟩:=qq.1 d;have:=qD.1 (qB.1 a).1;rw[getD_lt this];exact qh this
end Wl
namespace Go.Qw
open Go Go.Vc Go.Proofs Wl
theorem Ez(a pw:Addr)(d:bB)(s b:Sl)(x:bD)(m:aG)(h:Heap)(H:bX h a 161 (gW pw d s b))(hl:gx h s 1 aE d.l)(ok:fV d)(hx:dK h x m)(hz:cO m):
  ac xx 81 #[xo (some a),eT x] h fun v h'=>∃(r:Sl) (T:List (bu×cC)),v=r/\T.map zt=cZ m d.l/\Keyed T/\Sp h h' [bP r (T.map qJ),fq T]:=by
 refine wn (some a) x ?_;unfold rn;have ab:=ok.len;have W:=ok.room;refine(Sp.refl h).boxed fun u h1 K=>?_;have K:Sp h h1 [aq u 59 (aP x)]:=K;refine(Rf s b (H.ai K.ai H.lt) (hl.up K.ai) ok).mono ?_;rintro _ h2 ⟨w,rfl,R2⟩;have L:=K.cS R2;obtain⟨rs,L⟩:=aa.acC L fun _=>rfl;refine⟨w,rfl,?_⟩;have F2:=L.dV 0 rfl;have ao:=F2.1.len;have ap:=F2.2.1;have B:Sp h h2 [bP ⟨none,0,0⟩ [],fq [],cu (nG 1 aE) 1 bJ w rs d.l,aq u 59 (aP x)]:=
  ((L.comp (.one (A:=fq []) (aU.refl _ _) (fun t f=>(by cases f)))).nil 139 8 bn).bK [3,2,0,1]
 refine aw (fun t:Sl×Nat×List (bu×cC)=>(t.1,(t.2.1:Int)-1)) (fun t h'=>t.2.1<=d.l.length/\t.2.2.length<=t.2.1/\Keyed t.2.2/\t.2.2.map zt=(d.l.take t.2.1).filterMap (jw m)/\Sp h h' [bP t.1 (t.2.2.map qJ),fq t.2.2,cu (nG 1 aE) 1 bJ w rs d.l,aq u 59 (aP x)]) (fun t=>d.l.length-t.2.1) (⟨none,0,0⟩,0,[]) rfl ⟨by simp,by simp,(fun t f=>(by cases f)),by simp,B⟩ ?_;rintro⟨o,i,T⟩ h3 ⟨hi,ah,M,k,B⟩;dsimp only at*;have ei:qc xt ((i:Int)-1+1)=(i:Int):=by rw[ak _];omega
 rw[ei];refine al (fun e=>?_) (fun e=>?_)
 ·have S:i=d.l.length:=by omega
  subst S;rw[qQ]at k;refine(AM (T.map qJ) (by rw[qu];omega) B).mono ?_;rintro _ h4 ⟨rfl,H4⟩;obtain⟨s1,s2,s3⟩:=VY M;rw[<-s1]at H4;refine⟨(),rfl,(xH _ (by rw[qu,List.length_mergeSort];omega) H4).mono ?_⟩;rintro _ h5 ⟨r5,rfl,H5⟩;obtain⟨c1,c2,c3⟩:=Yo s3;rw[<-c1]at H5;refine⟨r5,rfl,r5,DC (T.mergeSort Oe),rfl,?_,fun t f=>s3 t (c3 t f),?_⟩
  ·have hr:cZ m d.l=(DC (T.mergeSort Oe)).map zt:=by unfold cZ;rw[<-k,c2,s2]
   exact hr.symm
  ·exact(H5.fO 1 rfl (D:=fq (DC (T.mergeSort Oe))) fun q z t f=>z t (yB.1 (c3 t f))).bK [0,1]
 ·have G:i<d.l.length:=by omega
  have g:=Vs m d.l i G;have next:∀{h':Heap} {E:Sl} {T':List (bu×cC)},T'.length<=i+1->Keyed T'->T'.map zt=(d.l.take (i+1)).filterMap (jw m)->Sp h h' [bP E (T'.map qJ),fq T',cu (nG 1 aE) 1 bJ w rs d.l,aq u 59 (aP x)]->
    ∃j:Sl×Nat×List (bu×cC),((⟨E.ptr,E.len,E.cap⟩:Sl),(i:Int))=(j.1,(j.2.1:Int)-1)/\(j.2.1<=d.l.length/\j.2.2.length<=j.2.1/\Keyed j.2.2/\j.2.2.map zt=(d.l.take j.2.1).filterMap (jw m)/\Sp h h' [bP j.1 (j.2.2.map qJ),fq j.2.2,cu (nG 1 aE) 1 bJ w rs d.l,aq u 59 (aP x)])/\d.l.length-j.2.1<d.l.length-i:=fun{h' E T'} q1 q2 q3 q4=>
   ⟨(E,i+1,T'),by dsimp only;congr 1;omega,⟨by dsimp only;omega,q1,q2,q3,q4⟩,by dsimp only;omega⟩
  refine be ?_;refine(B.dV 2 rfl).1.nL i rfl (by omega) ?_;obtain⟨p,O⟩:=Fix.row (B.dV 2 rfl) G;obtain⟨c,Z⟩:∃c,c=d.l[i]:=⟨_,rfl⟩
  rw[<-Z]at p g;have ad:c.length=64:=by rw[Z];exact ok.cell _ (qh G)
  refine(Ri (rs[i]'(by omega)) c h3 p (by omega) O).mono ?_;rintro _ h6 ⟨y,rfl,Q0,Q1⟩;refine⟨(y,(dp c).isSome),rfl,?_⟩;dsimp only;cases htr:dp c with
  |none=>
   have J:jw m c=none:=by unfold jw;rw[htr]
   rw[J,Option.toList_none,qS]at g;have V:=B.up (Q0 htr).ai;refine V.alloc ae rfl fun a9 h7 X=>?_;refine X.storeAll ae 4 rfl rfl (bn y) rfl rfl rfl rfl fun h8 n=>bw (fun e=>by cases e) fun _=>?_;exact next (by omega) M (by rw[k,g]) (n.bK [0,1,2,3])
  |some r=>
   have V:=B.cS (Q1 r htr);refine V.alloc ae rfl fun a9 h7 X=>?_;refine X.storeAll ae 5 rfl rfl (bn y) rfl rfl rfl rfl fun h8 n=>bw (fun _=>?_) fun e=>by cases e
   have n:Sp h h8 [EA dg y r,bP o (T.map qJ),fq T,cu (nG 1 aE) 1 bJ w rs d.l,aq u 59 (aP x),aq a9 139 (bn y)]:=n;have Y:=n.eAt 0 rfl;have U:aj h8 u 0 (aP x):=(n.box 4 rfl).aL _ rfl;have R:aj h8 a9 0 (bn y):=(n.box 5 rfl).aL _ rfl;have Q:=Te x m y r h8 (hx.up n.ai) hz Y;refine⟨x,U,y,R,Q.mono ?_⟩;rintro _ h9 ⟨rfl,R9⟩;have P:Sp h h9 [EA dg y r,bP o (T.map qJ),fq T,cu (nG 1 aE) 1 bJ w rs d.l,aq u 59 (aP x),aq a9 139 (bn y)]:=n.up R9.ai;refine⟨_,rfl,bw (fun e2=>?_) (fun e2=>?_)⟩
   ·have J:jw m c=some r:=by unfold jw;rw[htr];exact if_pos e2
    rw[J,Option.toList_some]at g;refine⟨y,(P.box 5 rfl).aL _ rfl,?_⟩;refine P.push ae 1 rfl aaI rfl (by decide) (fun _=>rfl) ads y (by kernel_rfl) (by decide) (by rw[qu];omega) fun E am I=>?_;have F:=(I.eAt 0 rfl).1;have N:=I.merge 2 0 (by decide) rfl rfl (D:=fq (T++[(y,r)])) (fun q1 q2 _ p1 p2 t f=>by
     rcases qA.1 f with f|f
     ·exact dg.mono (p1 t f) fun _ H=>.inl H
     ·rw[qG.1 f];exact dg.mono p2 fun _ H=>.inr H)
    refine next (T':=T++[(y,r)]) (by simp;omega) (fun t f=>?_) (by rw[qT,k,g];rfl) ?_
    ·rcases qA.1 f with f|f
     ·exact M t f
     ·rw[qG.1 f];exact⟨F.1,F.2.1,F.2.2.1⟩
    ·rw[qT];exact N.bK [1,2,3,4]
   ·have J:jw m c=none:=by unfold jw;rw[htr];exact if_neg (by rw[e2];simp)
    rw[J,Option.toList_none,qS]at g;exact next (by omega) M (by rw[k,g]) (P.bK [1,2,3,4])
theorem pz(a pw:Addr)(d:bB)(s b:Sl)(x:bD)(m:aG)(h:Heap)(u:bX h a 161 (gW pw d s b))(n:gx h s 1 aE d.l)(ok:fV d)(k:dK h x m)(i:cO m):
  ac xx 81 #[xo (some a),eT x] h fun v h'=>∃(r:Sl) (w:List bu),v=r/\Sp h h' [cu dg 8 bn r w (cZ m d.l)]:=by
 refine(Ez a pw d s b x m h u n ok k i).mono ?_;rintro _ h' ⟨r,T,rfl,y,_,H⟩;refine⟨r,T.map qJ,rfl,?_⟩;have p:=(H.freeze 0 rfl fun _=>rfl).oL;have o:aa _ _ _ (cu dg 8 bn r (T.map qJ) (cZ m d.l)::_):=p.fO 0 rfl fun q ⟨E,A,_,b,c,z,g⟩=>by
  rw[<-y];refine⟨Seq.mono g c,by simp,fun j B D e f=>?_⟩;rw[qO]at e f;cases g3:T[j]? with
  |none=>rw[g3]at e;cases e
  |some t=>
   rw[g3]at e f;simp at e f;subst e;subst f;exact dg.mono (z t (ye g3)) b
 exact o.bK [0]
section
variable {B:aB} {h0 h:Heap} {As:List HP}
theorem Tf(s:Sl)(l:List bu)(b:FuncId)(a:Array Value)(g:bu->Bool)(Q:Heap->Prop)(w:C.fns[b]?=some true)(t:St B h0 As Q)(o:∀x h',Q h'->ac xx b ([recv x]++a.toList).toArray h' fun v q=>v=xq (g x)/\Sp h' q [])(H:aa B h0 h (ar 139 s 8 bn l::As))(D:l.length<=2^20):
  ac xx 324 #[s,.func (.func b) #[] a] h fun v h'=>v=xl xt (if l.findIdx g<l.length then(l.findIdx g:Int)else-1)/\aa B h0 h' (ar 139 s 8 bn l::As):=by
 refine kD s (b,#[],a) ?_;unfold gI;have y:=(H.own 0 rfl).len;refine aw (fun i:Nat=>(i:Int)) (fun i h'=>aa B h0 h' (ar 139 s 8 bn l::As)/\i<=l.length/\∀j (n:j<l.length),j<i->g l[j]=false) (fun i=>l.length-i) 0 rfl ⟨H,by omega,fun j _ n=>by omega⟩ ?_;rintro i z ⟨m,E,d⟩;refine al (fun e=>?_) (fun e=>?_)
 ·have c:i<l.length:=by omega
  refine(m.seq 0 rfl fun _=>rfl).dt (g:=bn) i rfl c l[i] rfl ?_;refine ee w ?_;refine(o l[i] z (t.at [_] m)).mono ?_;rintro _ A ⟨rfl,r⟩;refine⟨_,rfl,bw (fun e2=>?_) (fun e2=>?_)⟩
  ·rw[xE c d e2,if_pos c];exact⟨rfl,m.up r.ai⟩
  ·refine⟨i+1,by rw[ak _];rfl,⟨m.up r.ai,by omega,fun j n p=>?_⟩,by omega⟩;rcases zk.1 p with h3|rfl
   ·exact d j n h3
   ·exact e2
 ·have k:¬l.findIdx g<l.length:=by
   rw[wZ];rintro⟨x,u,f⟩;obtain⟨j,n,rfl⟩:=qH u;rw[d j n (by omega)]at f;cases f
  rw[if_neg k];exact⟨rfl,m⟩
theorem Rn(s:Sl)(l:List bu)(b:FuncId)(a:Array Value)(g:bu->Bool)(Q:Heap->Prop)(A:C.fns[b]?=some true)(z:St B h0 As Q)(m:∀x h',Q h'->ac xx b ([recv x]++a.toList).toArray h' fun v w=>v=xq (g x)/\Sp h' w [])(H:aa B h0 h (ar 139 s 8 bn l::As))(I:l.length<=2^20):
  ac xx 246 #[s,.func (.func b) #[] a] h fun v h'=>∃r:Sl,v=r/\aa B h0 h' (ar 139 r 8 bn (l.filter fun x=>!g x)::As):=by
 refine ki s (b,#[],a) ?_;unfold gv;refine(Tf s l b a g Q A z m H I).mono ?_;rintro _ R ⟨rfl,E⟩;have K:=(H.own 0 rfl).len;have M:=(H.own 0 rfl).cap;refine⟨_,rfl,cI (fun e=>?_) (fun e=>?_)⟩
 ·have p:¬l.findIdx g<l.length:=fun n=>by rw[if_pos n]at e;omega
  exact⟨s,rfl,by rw[filter_all p];exact E⟩
 ·have d:l.findIdx g<l.length:=by
   by_cases n:l.findIdx g<l.length
   ·exact n
   ·rw[if_neg n]at e;exact absurd rfl e
  rw[if_pos d];refine aw (fun t:Nat×Nat×List bu=>((t.1:Int),(t.2.1:Int))) (fun t h'=>ko g l t.2.2 t.1 t.2.1/\t.2.1<=l.length/\aa B h0 h' (ar 139 s 8 bn t.2.2::As)) (fun t=>l.length-t.2.1) (l.findIdx g,l.findIdx g+1,l) (by rw[ak _];rfl) ⟨ko.start d rfl,by dsimp only;omega,E⟩ ?_;rintro⟨i,j,F⟩ N ⟨M2,P,u⟩;dsimp only at*;have L:=M2.len;have J:=M2.le;refine al (fun e2=>?_) (fun e2=>?_)
  ·have f:j<l.length:=by omega
   refine(u.seq 0 rfl fun _=>rfl).dt (g:=bn) j rfl (by omega) l[j] (by rw[M2.at_ f]) ?_;refine u.alloc ae rfl fun a5 h3 c=>?_;have c:=c.bC;refine c.storeAll ae 0 rfl rfl (bn l[j]) rfl rfl rfl rfl fun y k=>?_;refine⟨l[j],(k.box 0 rfl).aL _ rfl,?_⟩;refine ee A ?_;refine(m l[j] y (z.at [_,_] k)).mono ?_;rintro _ O ⟨rfl,G⟩;have D:=k.up G.ai;have c:=D.Hr;refine⟨_,rfl,bh (fun q=>?_) (fun q=>?_)⟩
   ·refine⟨l[j],(D.box 0 rfl).aL _ rfl,?_⟩;refine c.set ae 0 rfl (fun _=>rfl) rfl i rfl (by omega) l[j] rfl rfl rfl fun y k=>?_;exact⟨(i+1,j+1,F.set i l[j]),by dsimp only;rw[ak _,ak _];rfl,⟨M2.keep f (by simpa using q),by dsimp only;omega,k⟩,by dsimp only;omega⟩
   ·exact⟨(i,j+1,F),by dsimp only;rw[ak _];rfl,⟨M2.skip f (by simpa using q),by dsimp only;omega,c⟩,by dsimp only;omega⟩
  ·have o:j=l.length:=by omega
   subst o;refine⟨⟨by omega,by omega⟩,?_⟩;rw[qo];refine u.nW ae 0 rfl aaI (fun _=>rfl) rfl (by decide) i (by omega) fun h3 c=>⟨⟨by omega,by omega⟩,⟨s.ptr,i,s.cap⟩,rfl,?_⟩
   have:=M2.pre;rw[qQ]at this;rw[<-this];exact c
end
end Go.Qw
namespace Go.Vc
open Go Wl
def bm(l:aC)(k:Nat):aC:=((qE k).map fun i:Nat=>(i:Int)).filter fun i=>decide (0<l.getD i.toNat 0)
def fc(l:aC):aC×Bool:=
 if l.all (fd · 0 512)then(bm l l.length,decide (l.length<=64)&&decide (0<(bm l l.length).length))else([],false)
theorem EB(l:aC)(k:Nat)(a:k<l.length):bm l (k+1)=bm l k++if 0<l[k]then[(k:Int)]else[]:=by
 unfold bm;rw[zI,qT,zj];congr 1;simp only[List.map_cons,List.map_nil,zr,yZ,qo,qe,qd a,Option.getD_some];by_cases h:0<l[k]<;>simp[h]
theorem pA(l:aC)(k:Nat):(bm l k).length<=k:=by
 unfold bm;exact q7 (qP _ _) (by simp)
end Go.Vc
namespace Go.Qw
open Go Go.Vc Go.Proofs Wl
section
theorem nh(s:Sl)(l:aC)(h:Heap)(m:Rd h s 1 aD l)(D:l.length<=2^20):
  ac xx 46 #[s] h fun v h'=>∃r:Sl,v=.tuple #[r,xq (fc l).2]/\Sp h h' [ar 3 r 1 aD (fc l).1]:=by
 refine Jg s ?_;unfold BR;have z:=m.len;have A:Sp h h [ar 3 ⟨none,0,0⟩ 1 aD (bm l 0)]:=(Sp.refl h).nil 3 1 aD;refine aw (fun t:Sl×Nat=>(t.1,(t.2:Int))) (fun t h'=>t.2<=l.length/\(l.take t.2).all (fd · 0 512)=true/\Sp h h' [ar 3 t.1 1 aD (bm l t.2)]) (fun t=>l.length-t.2) (⟨none,0,0⟩,0) rfl ⟨by simp,by simp,A⟩ ?_;rintro⟨o,i⟩ F ⟨E,b,d⟩;dsimp only at*;have f:∀(a:i<l.length),fd l[i] 0 512=false->fc l=([],false):=fun a g=>by
  unfold fc;rw[if_neg];intro q;have:=qN.1 q _ (qh a);rw[g]at this;cases this
 refine al (fun e=>?_) (fun e=>?_)
 ·have a:i<l.length:=by omega
  have x:=pA l i;refine(Seq.up m d.ai).bx i rfl a l[i] rfl ?_;refine be (al (fun j=>?_) (fun j=>al (fun e2=>?_) (fun e2=>?_)))
  ·have g:=f a (by unfold fd;simp;omega);rw[g];exact⟨⟨none,0,0⟩,rfl,(d.bK []).nil 3 1 aD⟩
  ·have g:=f a (by unfold fd;simp;omega);rw[g];exact⟨⟨none,0,0⟩,rfl,(d.bK []).nil 3 1 aD⟩
  ·have c:(l.take (i+1)).all (fd · 0 512)=true:=by
    rw[aI l i a,yH,b,zW,List.all_cons,List.all_nil,Bool.and_true];unfold fd;simp;omega
   refine al (fun w=>?_) (fun w=>?_)
   ·refine d.push ae 0 rfl lL rfl (by decide) (fun _=>rfl) jf (i:Int) rfl (by decide) (by omega) fun u B n=>?_;refine⟨(u,i+1),by dsimp only;rw[ak _];rfl,⟨by dsimp only;omega,c,?_⟩,by dsimp only;omega⟩;dsimp only;rw[EB l i a,if_pos (by omega)];exact n
   ·refine⟨(o,i+1),by dsimp only;rw[ak _];rfl,⟨by dsimp only;omega,c,?_⟩,by dsimp only;omega⟩;dsimp only;rw[EB l i a,if_neg (by omega),qS];exact d
 ·have k:i=l.length:=by omega
  subst k;rw[qQ]at b;have p:=(d.own 0 rfl).len;have y:fc l=(bm l l.length,decide (l.length<=64)&&decide (0<(bm l l.length).length)):=by unfold fc;rw[if_pos b]
  rw[y];refine al (fun j=>⟨o,?_,d⟩) (fun j=>⟨o,?_,d⟩)
  ·dsimp only;rw[decide_eq_true (show l.length<=64 by omega),zW];congr 4;refine congrArg Value.bool ?_;rw[decide_eq_decide];omega
  ·dsimp only;rw[decide_eq_false (show¬l.length<=64 by omega),Bool.false_and]
end
section
variable {B:aB} {h0 h:Heap} {As:List HP} {a pw:Addr} {offs:Int} {da:List aO} {w:Pow} {ds:aT}
theorem ez(x:bD)(m:aG)(g:dK h x m)(f:cO m)(H:aa B h0 h (aV bj a pw (aP x) offs da w ds::As)):
  ac xx 15 #[xo (some a)] h fun v h'=>∃r:Sl,v=r/\Sp h h' [ar 3 r 1 aD (bc ds m.drives)]:=by
 refine Dk (some a) ?_;unfold sh;obtain⟨ok,b⟩:=aa.cB H;have c:=f.dr;refine bw (fun e=>by cases e) (fun _=>⟨a,rfl,x.2.2.2.2.2.2.1,b.cell rfl,(Ln _ m.drives g.drives (by omega) H).mono ?_⟩);rintro _ i ⟨r,rfl,d⟩;exact⟨r,rfl,r,rfl,d⟩
theorem Cu(x:bD)(m:aG)(i:dK h x m)(g:cO m)(H:aa B h0 h (aV bj a pw (aP x) offs da w ds::As)):
  ac xx 34 #[xo (some a)] h fun v h'=>∃y:bD,v=eT y/\Sp h h' [bU y m]:=by
 refine mh (some a) ?_;unfold ka;obtain⟨ok,f⟩:=aa.cB H;refine(Sp.refl h).alloc ae rfl fun o l b=>?_;have c:=f.ai b.ai f.lt;refine bw (fun e=>by cases e) (fun _=>⟨a,rfl,x,c.aL _ rfl,(Lm x m l (i.up b.ai) g).mono ?_⟩);rintro _ n ⟨y,rfl,k⟩;have j:=b.comp k;refine⟨y,rfl,?_⟩;refine j.store ae 0 rfl rfl 0 (aP y) rfl rfl rfl (by simp[Value.cells]) fun h3 d=>?_;exact⟨y,(d.box 0 rfl).aL _ rfl,y,rfl,d.bK [1]⟩
end
end Go.Qw
namespace Go.Vc
open Go Wl
def dC(w:Pow)(offs:Int):Bool:=w.off||w.offs !=offs
end Go.Vc
namespace Go.Qw
open Go Go.Vc Go.Proofs Wl
section
variable {B:aB} {h0 h:Heap} {As:List HP} {a pw:Addr} {mc:aW} {offs:Int} {da:List aO} {w:Pow} {ds:aT}
theorem aa.adu(H:aa B h0 h (aV bj a pw mc offs da w ds::As)):∃l,Lk w l/\bX h pw 101 (powC w l):=by
 obtain⟨ok,d⟩:=Go.Vc.aa.rv H;have e:=d.rest;obtain⟨l,b,c⟩:=aa.Cp e;exact⟨l,b,c.box 0 rfl⟩
theorem Cv(H:aa B h0 h (aV bj a pw mc offs da w ds::As)):
  ac xx 39 #[xo (some a)] h fun v h'=>v=xq (dC w offs)/\h'=h:=by
 refine Dn (some a) ?_;unfold sk;obtain⟨ok,c⟩:=aa.cB H;obtain⟨l,i,f⟩:=aa.adu H;have g:cellOf h (a.add 8)=some (xo (some pw)):=c.cell (aaK ok.l8);have d:cellOf h (a.add 9)=some (xl xt offs):=c.cell (VU ok.l8);refine bw (fun _=>?_) (fun e=>by cases e);refine⟨a,rfl,some pw,g,(HI l f).mono ?_⟩;rintro _ _ ⟨rfl,rfl⟩;refine⟨_,rfl,trivial,bh (fun e=>⟨trivial,?_⟩) fun e=>?_⟩
 ·have b:w.off=true:=by simpa using e
  exact⟨by unfold dC;rw[b];rfl,rfl⟩
 ·have b:w.off=false:=by simpa using e
  refine⟨a,rfl,some pw,g,a,rfl,offs,d,(Oa l f).mono ?_⟩;rintro _ _ ⟨rfl,rfl⟩;exact⟨_,rfl,⟨d,trivial⟩,by unfold dC;rw[b];rfl,rfl⟩
end
end Go.Qw
namespace Go.Vc
open Go Wl
section
variable {k:Kit} {B:aB} {h0 h:Heap} {As:List HP} {a pw:Addr} {mc:aW} {offs:Int} {w:Pow}
theorem aa.aeL(H:aa B h0 h As):∀n,aa B h0 h (qg n emp++As)
 |0=>H
 |n+1=>(((aa.aeL H n).comp (.one (A:=emp) (aU.refl _ _) trivial)).bC:aa B h0 h (emp::(qg n emp++As)))
theorem aa.Yp(h8:mc.length=8)(H:aa B h0 h (aq a k.tS (dh mc pw offs (qg 64 none))::dN k.tP pw w::As)):aa B h0 h (aV k a pw mc offs (qg 64 none) w (qg 64 none)::As):=by
 have ok:gm mc (qg 64 none) (qg 64 (none:Option bB)):=⟨h8,by simp,by simp,fun i=>by
  simp only[qe,zK];split<;>rfl⟩
 have f:gK k pw (qg 64 none) (qg 64 (none:Option bB))=qg 64 emp:=by
  simp[gK,aeJ]
 refine aa.sG ok ?_;rw[f];have g:=aa.aeL H 64;refine g.pick (fun i=>if i=0 then 64 else if i=1 then 65 else if i<66 then i-2 else i) (fun x y b=>by(try dsimp only at b);split at b<;>split at b<;>(try split at b)<;>(try split at b)<;>(try split at b)<;>(try split at b)<;>omega) fun i A d=>?_;rcases i with _|_|i
 ·simpa using d
 ·simpa using d
 ·by_cases e:i<64
  ·have c:(qg 64 emp++As)[i]?=some A:=d;rw[qm (by simpa using e)]at c
   try dsimp only
   rw[if_neg (by omega),if_neg (by omega),if_pos (by omega),qm (by simp;omega)];simpa using c
  ·have c:(qg 64 emp++As)[i]?=some A:=d;rw[qj (by simp;omega)]at c
   try dsimp only
   rw[if_neg (by omega),if_neg (by omega),if_neg (by omega),qj (by simp;omega)];simp only[List.length_replicate]at c⊢;obtain⟨j,rfl⟩:∃j,i=j+64:=⟨i-64,by omega⟩
   have e2:j+64+1+1-64=j+1+1:=by omega
   rw[e2];simpa using c
end
end Go.Vc
namespace Go.Qw
open Go Go.Vc Go.Proofs Wl
section
theorem Yq(x:bD)(pw:Addr)(offs:Int):aF xx (Instr.build 95 #[(0,eT x),(1,xo (some pw)),(2,xl xt offs)]) (xr (dh (aP x) pw offs (qg 64 none)).toArray):=
 uK ae (i:=_) rfl rfl rfl (vs:=[(0,eT x),(1,xo (some pw)),(2,xl xt offs)]) (cells:=(dh (aP x) pw offs (qg 64 none)).toArray) (by kernel_rfl)
end
end Go.Qw
namespace Go.Vc
open Go Wl
section
variable {k:Kit} {B:aB} {h0 h:Heap} {As:List HP} {a pw b:Addr} {mc:aW} {offs:Int} {da:List aO} {w:Pow} {ds:aT} {d:bB} {n:Nat}
theorem Yr(h8:mc.length=8):(dh mc pw offs da).set (10+n) (xo (some b))=dh mc pw offs (da.set n (some b)):=by
 unfold dh;rw[zc _ _ (by omega),h8,show 10+n-8=n+1+1 by omega,zL,zL,List.map_set]
theorem aa.adv(ok:gm mc da ds)(y:n<64)(u:ds[n]?=some none)(H:aa B h0 h (aq a k.tS (dh mc pw offs (da.set n (some b)))::dN k.tP pw w::(gK k pw da ds++(kX k.tD (k.f pw) b d::As)))):aa B h0 h (aV k a pw mc offs (da.set n (some b)) w (ds.set n (some d))::As):=by
 have s:=ok.Yl y u;have o:=ok.la;have m:=ok.ls;have q:gm mc (da.set n (some b)) (ds.set n (some d)):=⟨ok.l8,by simp[o],by simp[m],fun i=>by
  by_cases c:n=i
  ·subst c;rw[qe,qe,zy (by omega),zy (by omega)];rfl
  ·have:=ok.same i;rw[qe,qe]at this⊢;rw[zN c,zN c];exact this⟩
 have p:=JA (k:=k) (pw:=pw) ok;have v:(gK k pw da ds)[n]?=some emp:=by
  simp only[gK,wv,s,u];rfl
 have l:gK k pw (da.set n (some b)) (ds.set n (some d))=(gK k pw da ds).set n (kX k.tD (k.f pw) b d):=by
  apply zD;intro j;simp only[gK,qX,wv,vn];by_cases g:n=j
  ·subst g;rw[if_pos rfl,if_pos (by omega),if_pos rfl,if_pos (by omega),if_pos rfl,if_pos (by omega)];rfl
  ·simp[g]
 refine aa.sG q ?_;rw[l];obtain⟨L,r⟩:∃L,L=gK k pw da ds:=⟨_,rfl⟩
 rw[<-r]at H v p⊢;have x:=H.cons (L.length+2) (A:=kX k.tD (k.f pw) b d) (by
  rw[qy,qy,qj (ql _),zi];rfl)
 have e:(aq a k.tS (dh mc pw offs (da.set n (some b)))::dN k.tP pw w::(L++(kX k.tD (k.f pw) b d::As))).set (L.length+2) emp=aq a k.tS (dh mc pw offs (da.set n (some b)))::dN k.tP pw w::(L++(emp::As)):=by
  rw[zL,zL,zc _ _ (ql _),zi];rfl
 rw[e]at x;have F:=x.bi 3 [0,2,1];have t:L.set n emp=L:=by
  obtain⟨I,E⟩:=qn.1 v
  conv=>lhs;rw[<-E]
  exact List.set_getElem_self I
 have z:aa B h0 h (kX k.tD (k.f pw) b d::dN k.tP pw w::aq a k.tS (dh mc pw offs (da.set n (some b)))::(L.set n emp++(emp::As))):=by rw[t];exact F
 have D:=aa.Uz n (by omega) z;have G:=aa.closeAll (aq a k.tS (dh mc pw offs (da.set n (some b)))::dN k.tP pw w::L.set n (kX k.tD (k.f pw) b d)) D;exact aa.BI (L:=aq a k.tS (dh mc pw offs (da.set n (some b)))::dN k.tP pw w::L.set n (kX k.tD (k.f pw) b d)) G.Hs
end
open Go Wl Go.Qw
def ck(p:Pm)(extra:Int)(l:aC):aG:=⟨1,0,p,extra,bm l l.length,[]⟩
def gP(l:aC)(k:Nat):aT:=(qE 64).map fun i:Nat=>if(i:Int)∈(bm l l.length).take k then some (bB.new (l.getD i 0).toNat)else none
def eN(p:Pm)(extra:Int)(w:Pow)(l:aC):Int×Pow×aT:=
 if(fc l).2&&(bL p&&fd extra 0 16)then
  if(bm l l.length).any fun i=>decide (l.getD i.toNat 0<((aY (ck p extra l)).length:Int))then(7,w,[])
  else layAll (bA (ck p extra l) (bm l l.length)) w (gP l (bm l l.length).length)
 else(1,w,[])
theorem Ro(l:aC):gP l 0=qg 64 none:=by
 unfold gP;rw[List.take_zero];apply zD;intro j;simp only[qO,zK,zw,List.not_mem_nil,if_false];by_cases h:j<64
 ·simp[h,zw]
 ·simp[h]
theorem Tg(l:aC)(k:Nat):(gP l k).length=64:=by simp[gP]
theorem Rp(l:aC)(k n:Nat)(e:k<(bm l l.length).length)(c:(bm l l.length)[k]=(n:Int))(b:n<64):(gP l k).set n (some (bB.new (l.getD n 0).toNat))=gP l (k+1):=by
 apply zD;intro j;unfold gP;rw[aI _ _ e,c,qX,qu,zx];by_cases d:j<64
 ·simp only[qO,zw d,qL,qA,qG];by_cases a:n=j
  ·subst a;rw[if_pos rfl,if_pos b,if_pos (Or.inr rfl)]
  ·rw[if_neg a];have:¬(j:Int)=(n:Int):=by omega
   simp only[this,or_false]
 ·rw[if_neg (by omega)];rw[zg (by simp;omega),zg (by simp;omega)]
theorem xI(l:aC)(k:Nat)(x:Int):x∈bm l k↔∃n:Nat,n<k/\x=(n:Int)/\0<l.getD n 0:=by
 unfold bm;rw[qB,qq];constructor
 ·rintro⟨⟨n,b,rfl⟩,a⟩;exact⟨n,qD.1 b,rfl,by simpa using a⟩
 ·rintro⟨n,b,rfl,a⟩;exact⟨⟨n,qD.2 b,rfl⟩,by simpa using a⟩
theorem Th(l:aC)(k i:Nat)(a:i<(bm l k).length):∃n:Nat,n<k/\(bm l k)[i]=(n:Int)/\0<l.getD n 0:=(xI l k _).1 (qh a)
end Go.Vc
namespace Wl
open Go
def dH(p:Int×Int×Int):Nat:=(p.1*p.2.2).toNat
def um(a:Nat)(b:aX)(i:Nat):aX:=(b.drop (i*a)).take a++(qg a 0).drop (b.drop (i*a)).length
theorem Gy(a:Nat)(b:aX)(i:Nat):(um a b i).length=a:=by unfold um;simp;omega
def bo(p:Int×Int×Int)(b:aX):cD:=(qE (countP p b.length).toNat).map (um (dH p) b)
def Lr(p:Int×Int×Int)(o b:Int)(n:Nat):Bool:=fT p (cN o b n) (eV p)
def pB(p:Int×Int×Int)(o b:Int):Option Nat:=(qE 16).find? (Lr p o b)
def cG(p:Int×Int×Int)(o:Int):Nat->Option (aC)
 |0=>some []
 |n+1=>(cG p o n).bind fun l=>(pB p o n).map fun t=>l++[(t:Int)]
theorem iq{p:Int×Int×Int}{o:Int}:∀{n:Nat} {l:aC},cG p o n=some l->l.length=n
 |0,l,h=>by cases h;rfl
 |n+1,l,h=>by
  unfold cG at h;cases h1:cG p o n with
  |none=>rw[h1]at h;cases h
  |some k=>
   rw[h1]at h;cases h2:pB p o n with
   |none=>rw[h2]at h;cases h
   |some t=>
    rw[h2]at h;have h:some (k++[(t:Int)])=some l:=h;injection h with h
    rw[<-h,qx,iq h1];rfl
theorem Gz{p:Int×Int×Int}{o b:Int}{t:Nat}(h:pB p o b=some t):t<16/\Lr p o b t=true/\∀k,k<t->Lr p o b k=false:=by
 unfold pB at h;obtain⟨e,us,vs,d,h3⟩:=wM.1 h;have c:=congrArg yW d;have f:t=us.length:=by
  have:(qE 16)[us.length]?=some t:=by rw[d,qj (ql _),zi];rfl
  rw[zw (by simp at c;omega)]at this;injection this with this;exact this.symm
 refine⟨by simp at c;omega,e,fun k g=>?_⟩;have a:k∈us:=by
  have:(qE 16)[k]?=us[k]?:=by rw[d,qm (by omega)]
  rw[zw (by simp at c;omega)]at this;exact ye this.symm
 simpa using h3 k a
theorem AN{p:Int×Int×Int}{o:Int}:∀{n:Nat} {l:aC},cG p o n=some l->∀i (b:i<l.length),∃t:Nat,l[i]=(t:Int)/\pB p o i=some t
 |0,l,h=>by cases h;intro i b;simp at b
 |n+1,l,h=>by
  unfold cG at h;cases h1:cG p o n with
  |none=>rw[h1]at h;cases h
  |some k=>
   rw[h1]at h;cases h2:pB p o n with
   |none=>rw[h2]at h;cases h
   |some t=>
    rw[h2]at h;have h:some (k++[(t:Int)])=some l:=h;injection h with h
    subst h;intro i b;have c:=iq h1;by_cases a:i<k.length
    ·rw[List.getElem_append_left a];exact AN h1 i a
    ·have:i=k.length:=by simp at b;omega
     subst this;refine⟨t,by simp,?_⟩;rw[c];exact h2
end Wl
namespace Go.Qw
open Go Go.Vc Go.Proofs Wl
theorem GA(p:Pm)(h:Heap)(c:bL p=true):ac xx 124 #[kh p] h fun v h'=>v=xl xt (dH p)/\Sp h h' []:=by
 have b:=(bM p).1 c;refine BX p ?_;unfold ww;refine(Sp.refl h).boxed fun f h3 a=>⟨p.1,(a.box 0 rfl).cell0 rfl,p.2.2,(a.box 0 rfl).cell rfl,?_,a.bK []⟩
 have e:p.1*p.2.2<=16*24:=wF (by omega) (by omega) (by omega) (by omega);have d:0<=p.1*p.2.2:=vg (by omega) (by omega);rw[ak _];unfold dH;congr 1;omega
theorem kG{p:Pm}(b:bL p=true):1<=dH p/\dH p<=384/\(dH p:Int)=p.1*p.2.2:=by
 have a:=(bM p).1 b;have d:p.1*p.2.2<=16*24:=wF (by omega) (by omega) (by omega) (by omega);have c:0<p.1*p.2.2:=vY (by omega) (by omega);unfold dH;omega
theorem lx{p:Pm}(a:bL p=true)(n:Nat):0<=countP p n/\countP p n<=n/\∀i:Nat,(i:Int)<countP p n->i*dH p<n:=by
 obtain⟨j,h,b⟩:=kG a;unfold countP;rw[a,zW];by_cases h0:0<(n:Int)
 ·rw[decide_eq_true h0,if_pos rfl,<-b];have d:((n:Int)-1)/(dH p:Int)<=n-1:=Int.ediv_le_self _ (by omega);have g:0<=((n:Int)-1)/(dH p:Int):=Int.ediv_nonneg (by omega) (by omega);refine⟨by omega,by omega,fun i c=>?_⟩;have h3:(i:Int)<=((n:Int)-1)/(dH p:Int):=by omega
  have e:=(Int.le_ediv_iff_mul_le (by omega)).1 h3;have f:((i*dH p:Nat):Int)=(i:Int)*(dH p:Int):=wj i (dH p);omega
 ·rw[decide_eq_false h0,if_neg (by decide)];exact⟨by omega,by omega,fun i c=>by omega⟩
theorem Ti(p:Pm)(s:Sl)(b:aX)(h:Heap)(g:bL p=true)(q:Rd h s 1 aE b)(z:s.len<=s.cap)(R:b.length<=2^30):ac xx 125 #[kh p,s] h fun v h'=>∃r:Sl,v=r/\Sp h h' [eE r (bo p b)]:=by
 refine KG p s ?_;unfold Ee;have d:=q.len;obtain⟨Q,W,X⟩:=kG g;obtain⟨V,P,c3⟩:=lx g b.length;refine(Sp.refl h).boxed fun k N m=>?_;refine⟨p,(m.box 0 rfl).aL _ rfl,?_⟩;refine(uk p s.len N).mono ?_;rintro _ y ⟨rfl,M⟩;have H:=m.up M.ai;refine⟨_,rfl,?_⟩;obtain⟨n,w⟩:∃n:Nat,n=(countP p b.length).toNat:=⟨_,rfl⟩
 have c:(countP p (s.len:Nat))=(n:Int):=by rw[d];omega
 rw[c];have I:(bo p b).length=n:=by unfold bo;rw[<-w];simp
 have a:Sp h y [eE ⟨none,0,0⟩ ((bo p b).take 0),aq k 24 [xl xt p.1,xl xt p.2.1,xl xt p.2.2]]:=H.Fk 35 5 1 aE;refine aw (fun t:Sl×Nat=>(t.1,(t.2:Int))) (fun t h'=>t.2<=n/\Sp h h' [eE t.1 ((bo p b).take t.2),aq k 24 [xl xt p.1,xl xt p.2.1,xl xt p.2.2]]) (fun t=>n-t.2) (⟨none,0,0⟩,0) rfl ⟨by simp,a⟩ ?_;rintro⟨o,i⟩ h3 ⟨U,a⟩;dsimp only at*;refine al (fun e=>?_) (fun e=>?_)
 ·have A:i<n:=by omega
  have K:=c3 i (by rw[<-d,c];omega);refine⟨p,(a.box 1 rfl).aL _ rfl,(GA p h3 g).mono ?_⟩;rintro _ O ⟨rfl,u⟩;have x:=a.up u.ai;refine⟨_,rfl,x.Ki ae aE ga (by decide) (0:UInt8) rfl rfl (dH p) (dH p) rfl rfl (ql _) (by omega) fun v J S T f=>?_⟩;have f:=f.bC;refine⟨p,(f.box 2 rfl).aL _ rfl,(GA p J g).mono ?_⟩;rintro _ Y ⟨rfl,L⟩;have l:=f.up L.ai;refine⟨_,rfl,?_⟩;have em:qc xt ((i:Int)*(dH p:Int))=((i*dH p:Nat):Int):=by
   rw[<-wj,ak _]
  dsimp only;rw[em,qo];refine⟨⟨by omega,by omega⟩,?_⟩;have D:=(Seq.up q l.ai).drop (i*dH p) z;refine l.Kc ae 0 rfl ga (fun _=>rfl) (v:=⟨_,s.len-i*dH p,s.cap-i*dH p⟩) D gw fun _ F j=>?_;have j:Sp h F [ar 5 v 1 aE (um (dH p) b i),eE o ((bo p b).take i),aq k 24 [xl xt p.1,xl xt p.2.1,xl xt p.2.2]]:=by
   simpa[um]using j
  refine(j.bi 2 [1,0]).Hu ae fG (by simp;omega) fun B h8 E=>?_;refine⟨(B,i+1),by dsimp only;rw[ak _];rfl,⟨by dsimp only;omega,?_⟩,by dsimp only;omega⟩;dsimp only;rw[aI _ _ (show i<(bo p b).length by omega)];have G:(bo p b)[i]'(by omega)=um (dH p) b i:=by simp[bo]
  rw[G];exact E
 ·rw[qi (by omega)]at a;exact⟨o,rfl,a.bK [0]⟩
theorem pC(a b:UInt8):qc xu ((qC (qk xu) (a.toNat:Int)^^^qC (qk xu) (b.toNat:Int)).toNat:Nat)=((a^^^b).toNat:Int):=by
 have e:∀a:UInt8,qC (qk xu) (a.toNat:Int)=a.toBitVec:=fun a=>by
  apply BitVec.eq_of_toNat_eq;have:=wP a;simp[qk]
 rw[e,e];have c:=(a.toBitVec^^^b.toBitVec).isLt;have:((a^^^b).toNat:Int)=((a.toBitVec^^^b.toBitVec).toNat:Int):=rfl;rw[this];show(((a.toBitVec^^^b.toBitVec).toNat:Nat):Int)%256=_;have:(a.toBitVec^^^b.toBitVec).toNat<256:=c;omega
def tri(a:UInt8):Nat->Int×Int×Int
 |0=>((a.toNat:Int),(3:Int),(0:Int))
 |1=>(((Gf.x2 a).toNat:Int),(1:Int),(a.toNat:Int))
 |_=>(((Gf.x2 (Gf.x2 a)).toNat:Int),(0:Int),((Gf.x3 a).toNat:Int))
theorem Tj(a:UInt8)(h:Heap):ac xx 361 #[xl xu a.toNat,xl xu 3] h fun v h'=>v=xl xu (Gf.x3 a).toNat/\h'=h:=by
 have e:∀n:Nat,n<256->
   ((qc xu ((qC (qk xu) (n:Int)&&&(qC (qk xu) (128:Int))).toNat:Nat)) !=(0:Int))=true->qc xu ((qC (qk xu) (qc xu ((n:Int)*2^min (1:Int).toNat (qk xu)))^^^(qC (qk xu) (27:Int))).toNat:Nat)=((Gf.x2 (yx n)).toNat:Int):=by decide+kernel
 have c:∀n:Nat,n<256->
   ((qc xu ((qC (qk xu) (n:Int)&&&(qC (qk xu) (128:Int))).toNat:Nat)) !=(0:Int))=false->qc xu ((n:Int)*2^min (1:Int).toNat (qk xu))=((Gf.x2 (yx n)).toNat:Int):=by decide+kernel
 refine Ra _ _ ?_;unfold Lg;refine aw (tri a) (fun t h'=>h'=h/\t<=2) (fun t=>2-t) 0 rfl ⟨rfl,by omega⟩ ?_;rintro t h' ⟨rfl,f⟩;rcases(show t=0∨t=1∨t=2 by omega)with rfl|rfl|rfl
 ·rw[show tri a 0=((a.toNat:Int),(3:Int),(0:Int))from rfl];dsimp only;refine CM (by decide) (be (Mp (by decide) ?_));refine⟨by decide,be ?_⟩;refine bw (fun d=>?_) (fun d=>?_)
  ·rw[e _ (wP a) d,yJ];refine⟨by decide,1,?_,⟨rfl,by decide⟩,by decide⟩;have:=pC 0 a;simp only[wi]at this;exact yU rfl (yU rfl this)
  ·rw[c _ (wP a) d,yJ];refine⟨by decide,1,?_,⟨rfl,by decide⟩,by decide⟩;have:=pC 0 a;simp only[wi]at this;exact yU rfl (yU rfl this)
 ·rw[show tri a 1=(((Gf.x2 a).toNat:Int),(1:Int),(a.toNat:Int))from rfl];dsimp only;refine CM (by decide) (be (Mp (by decide) ?_));refine⟨by decide,be ?_⟩;refine bw (fun d=>?_) (fun d=>?_)
  ·rw[e _ (wP (Gf.x2 a)) d,yJ];refine⟨by decide,2,?_,⟨rfl,by decide⟩,by decide⟩;refine yU rfl (yU rfl ?_);have:=pC a (Gf.x2 a);rw[vF]at this;exact this
  ·rw[c _ (wP (Gf.x2 a)) d,yJ];refine⟨by decide,2,?_,⟨rfl,by decide⟩,by decide⟩;refine yU rfl (yU rfl ?_);have:=pC a (Gf.x2 a);rw[vF]at this;exact this
 ·exact Mp (b:=(0:Int)==0) (by decide) ⟨rfl,rfl⟩
def iT:aC:=(qE 255).map fun i=>((Gf.pw i).toNat:Int)
def rx:aC:=(qE 256).map fun x=>if x=0 then 0 else((Gf.lg (yx x):Nat):Int)
theorem gM:iT.length=255:=by simp[iT]
theorem xJ:rx.length=256:=by simp[rx]
def dD:aW:=iT.map (Sc.enc (.int .u8))++rx.map (Sc.enc (.int .i64))
abbrev gN(h:Heap)(a:Addr):Prop:=bX h a 319 dD
theorem Ni(k:IntKind)(l:aC):(l.map (Sc.enc (.int k))).all (·.oneCell')=true:=by
 rw[List.all_map,qN];intro x _;rfl
theorem Tk(h:Heap):ac xx 283 #[] h fun v h'=>v=xr (iT.map (Sc.enc (.int .u8))).toArray/\Sp h h' []:=by
 refine OZ ?_;unfold Iy;refine(Sp.refl h).alloc ae rfl fun a t p=>?_;refine aw (fun i:Nat=>(((Gf.pw i).toNat:Int),(i:Int))) (fun i h'=>i<=255/\Sp h h' [aq a 314 (((qE 255).map fun j=>if j<i then((Gf.pw j).toNat:Int)else 0).map (Sc.enc (.int .u8)))]) (fun i=>255-i) 0 rfl ⟨by omega,?_⟩ ?_
 ·have e:((qE 255).map fun j=>if j<0 then((Gf.pw j).toNat:Int)else 0).map (Sc.enc (.int .u8))=qg 255 (xl xu 0):=by simp;rfl
  rw[e];exact p
 ·rintro i r ⟨s,g⟩;refine al (fun n=>?_) (fun m=>?_)
  ·dsimp only at n;refine⟨⟨by dsimp only;omega,by dsimp only;omega⟩,?_⟩;dsimp only;rw[show((i:Int).toNat*1)=i by omega];refine g.storeAt ae 0 rfl rfl rfl rfl rfl (by simp;omega) fun h3 f=>?_;refine(Tj (Gf.pw i) h3).mono ?_;rintro v q ⟨rfl,rfl⟩;refine⟨_,rfl,i+1,?_,⟨by omega,?_⟩,by omega⟩
   ·rw[ak _];rfl
   ·have e:((((qE 255).map fun j=>if j<i then((Gf.pw j).toNat:Int)else 0).map (Sc.enc (.int .u8))).set i (xl xu (Gf.pw i).toNat))=(((qE 255).map fun j=>if j<i+1 then((Gf.pw j).toNat:Int)else 0).map (Sc.enc (.int .u8))):=by
     apply zD;intro j;simp only[qX,qO,qu,zx];by_cases d:i=j
     ·subst d;have:i<255:=by omega
      simp[this]
     ·by_cases c:j<255
      ·simp only[d,if_false,zw c,qL];by_cases b:j<i
       ·rw[if_pos b,if_pos (by omega)]
       ·rw[if_neg b,if_neg (by omega)]
      ·simp[d,c]
    rw[<-e];exact f
  ·have k:i=255:=by dsimp only at m;omega
   subst k;have e:((qE 255).map fun j=>if j<255 then((Gf.pw j).toNat:Int)else 0)=iT:=by
    unfold iT;apply List.map_congr_left;intro j d;rw[if_pos (qD.1 d)]
   rw[e]at g;have o:=g.box 0 rfl;refine⟨iT,⟨gM,o.aL _ (by rw[qi (ql _)])⟩,?_⟩;refine g.storeAll ae 0 rfl rfl (iT.map (Sc.enc (.int .u8))) rfl (by rw[qu,gM]) (Ni _ _) rfl fun h3 f=>?_;have l:=f.box 0 rfl;exact⟨iT,⟨gM,l.aL _ (by rw[qi (ql _)])⟩,rfl,.zip f.ai⟩
theorem Ys(h:Heap):ac xx 284 #[xr (iT.map (Sc.enc (.int .u8))).toArray] h fun v h'=>v=xr (rx.map (Sc.enc (.int .i64))).toArray/\Sp h h' []:=by
 refine SU iT ?_;unfold NX;refine(Sp.refl h).boxed fun a E y=>?_;refine y.alloc ae rfl fun u B q=>?_;have n:=q.box 0 rfl;refine⟨iT,⟨gM,n.aL _ (by show List.take _ (iT.map _)=_;rw[qi (ql _)])⟩,?_⟩;let L:Nat->aC:=fun i=>(qE 256).map fun x=>if x≠0/\Gf.lg (yx x)<i then((Gf.lg (yx x):Nat):Int)else 0
 refine aw (fun i:Nat=>(i:Int)) (fun i h'=>i<=255/\Sp h h' [emp,aq u 316 ((L i).map (Sc.enc (.int .i64)))]) (fun i=>255-i) 0 rfl ⟨by omega,?_⟩ ?_
 ·have e:(L 0).map (Sc.enc (.int .i64))=qg 256 (xl xt 0):=by simp[L];rfl
  rw[e];exact q.fO 0 rfl fun _ _=>trivial
 ·rintro i h3 ⟨D,k⟩;refine al (fun z=>?_) (fun w=>?_)
  ·have c:i<255:=by omega
   have r:=wP (Gf.pw i);refine⟨((Gf.pw i).toNat:Int),⟨by omega,by omega,by simp[iT,c]⟩,⟨by omega,by omega⟩,?_⟩;rw[show(((Gf.pw i).toNat:Int).toNat*1)=(Gf.pw i).toNat by omega];refine k.storeAt ae 1 rfl rfl rfl rfl rfl (by simp[L];omega) fun s g=>?_;refine⟨i+1,by rw[ak _];rfl,⟨by omega,?_⟩,by omega⟩;have e:((L i).map (Sc.enc (.int .i64))).set (Gf.pw i).toNat (xl xt i)=(L (i+1)).map (Sc.enc (.int .i64)):=by
    apply zD;intro j;simp only[qX,qO,qu,zx,L];by_cases f:(Gf.pw i).toNat=j
    ·subst f;simp only[if_true,zw r,qL,r];have o:(Gf.pw i).toNat≠0:=fun h0=>Gf.Vf i c (yq.1 h0);rw[yJ,Gf.Ve i c,if_pos ⟨o,by omega⟩]
    ·by_cases d:j<256
     ·simp only[f,if_false,zw d,qL];by_cases b:j=0
      ·simp[b]
      ·have A:Gf.lg (yx j)≠i:=fun h0=>by
        apply f;rw[<-h0,Gf.Vd _ (fun t=>b (by have:=congrArg UInt8.toNat t;simpa[vh d]using this))];simp[vh d]
       by_cases m:Gf.lg (yx j)<i
       ·rw[if_pos ⟨b,m⟩,if_pos ⟨b,by omega⟩]
       ·rw[if_neg fun p=>m p.2,if_neg fun p=>m (by omega)]
     ·simp[f,d]
   rw[<-e];exact g
  ·have c:i=255:=by omega
   subst c;have e:L 255=rx:=by
    unfold rx;apply List.map_congr_left;intro j f;by_cases b:j=0
    ·simp[b]
    ·rw[if_pos ⟨b,Gf.Kd _⟩,if_neg b]
   rw[e]at k;have n:=k.box 1 rfl;refine⟨rx,⟨xJ,n.aL _ (by rw[qi (ql _)])⟩,?_⟩;refine k.storeAll ae 1 rfl rfl (rx.map (Sc.enc (.int .i64))) rfl (by rw[qu,xJ]) (Ni _ _) rfl fun s g=>?_;have l:=g.box 1 rfl;exact⟨rx,⟨xJ,l.aL _ (by rw[qi (ql _)])⟩,rfl,.zip g.ai⟩
theorem un(h:Heap):ac xx 212 #[] h fun v h'=>∃a:Addr,v=xo (some a)/\Sp h h' [aq a 319 dD]:=by
 refine VM ?_;unfold QP;refine(Tk h).mono ?_;rintro v u ⟨rfl,q⟩;refine⟨iT,rfl,?_⟩;refine q.alloc ae rfl fun a s o=>?_;refine o.storeAll ae 0 rfl rfl (iT.map (Sc.enc (.int .u8))) rfl (by rw[qu,gM]) (Ni _ _) (by rw[qu,gM];rfl) fun h3 f=>?_;have j:=f.box 0 rfl;have c:aj h3 a 0 (iT.map (Sc.enc (.int .u8))):=j.aL _ (by rw[qi (ql _)]);refine⟨iT,⟨gM,c⟩,iT,⟨gM,c⟩,?_⟩;refine(Ys h3).mono ?_;rintro v r ⟨rfl,g⟩;refine⟨rx,rfl,ni.2 ⟨(g.ai).cells j.lt c,trivial⟩,_,uK ae (i:=_) rfl rfl rfl (cells:=dD.toArray) ?_,?_⟩
 ·have b:∀z:aW,z.length=511->wo (fun n=>[(0,255),(255,256)][n]?) z.toArray [(0,xr (iT.map (Sc.enc (.int .u8))).toArray),(1,xr (rx.map (Sc.enc (.int .i64))).toArray)]=some dD.toArray:=by
   intro z b;have e:z=[]++z.take 255++z.drop 255:=by simp
   conv=>lhs;rw[e]
   rw[PS (vs:=iT.map (Sc.enc (.int .u8))) rfl (by simp[gM]) (by simp[gM,b])];have e2:[]++iT.map (Sc.enc (.int .u8))++z.drop 255=iT.map (Sc.enc (.int .u8))++z.drop 255++[]:=by simp
   rw[e2,PS (vs:=rx.map (Sc.enc (.int .i64))) rfl (by simp[gM,xJ]) (by simp[xJ,b])];simp[wo,dD]
  exact b _ rfl
 ·have p:(Value.agg dD.toArray).cells.toList=dD:=rfl;refine(f.comp g).boxed fun m t k=>?_;have d:=k.box 0 rfl;exact⟨ni.2 ⟨d.aL _ (by rw[qi (ql _)]),trivial⟩,m,rfl,k.take 1 (fun i A l=>by cases i with|zero=>exact l|succ i=>simp at l)⟩
theorem GB{h:Heap}{a:Addr}(c:gN h a)(n:Nat)(b:n<255):cellOf h (a.add n)=some (xl xu (Gf.pw n).toNat):=
 c.cell (by rw[dD,qm (by simp[gM,b])];simp[iT,b])
theorem GC{h:Heap}{a:Addr}(c:gN h a)(x:UInt8)(f:x≠0):cellOf h ((a.add 255).add x.toNat)=some (xl xt (Gf.lg x)):=by
 have d:=c.addr;have e:(a.add 255).add x.toNat=a.add (255+x.toNat):=by rw[d,add_eq,add_eq,add_eq];congr 1;omega
 rw[e];refine c.cell ?_;have b:=wP x;have h0:x.toNat≠0:=fun h0=>f (yq.1 h0);rw[dD,qj (by simp[gM])];simp[gM,rx,b,h0]
theorem ry(a:Addr)(h:Heap):ac xx 389 #[xo (some a)] h fun v h'=>v=xo (some a)/\h'=h:=by
 refine Js (some a) ?_;unfold Cn;exact CM rfl ⟨rfl,rfl⟩
theorem tg(a:Addr)(h:Heap):ac xx 281 #[xo (some a)] h fun v h'=>v=xo (some a)/\h'=h:=by
 refine QV (some a) ?_;unfold La;exact CM rfl ⟨rfl,rfl⟩
theorem Pb(a:Addr)(h:Heap):ac xx 401 #[xo (some a)] h fun v h'=>v=xo (some a)/\h'=h:=by
 refine Rc (some a) ?_;unfold Lj;exact CM rfl ⟨rfl,rfl⟩
theorem DD{x:UInt8}:((x.toNat:Int)=0)↔x=0:=⟨fun h=>yq.1 (by simpa using h),fun h=>by rw[h];rfl⟩
theorem JB(a:Addr)(x y:UInt8)(h:Heap)(f:gN h a):ac xx 320 #[xo (some a),xl xu x.toNat,xl xu y.toNat] h fun v h'=>v=xl xu (Gf.mul x y).toNat/\h'=h:=by
 refine Jp (some a) _ _ ?_;unfold Ck;refine be ?_;refine cI (fun h0=>⟨by rw[Gf.mul,if_pos (.inl (DD.1 h0))];rfl,rfl⟩) (fun g=>?_);refine cI (fun h0=>⟨by rw[Gf.mul,if_pos (.inr (DD.1 h0))];rfl,rfl⟩) (fun i=>?_);have b:x≠0:=fun h0=>g (DD.2 h0);have c:y≠0:=fun h0=>i (DD.2 h0);refine(ry a h).mono ?_;rintro v j ⟨rfl,rfl⟩;have l:=wP x;have k:=wP y;have l1:=Gf.Kd x;have l2:=Gf.Kd y;refine⟨some a,rfl,a,rfl,⟨by omega,by omega⟩,(Gf.lg x:Int),?_,a,rfl,⟨by omega,by omega⟩,(Gf.lg y:Int),?_,by decide,a,rfl,?_⟩
 ·rw[show((x.toNat:Int).toNat*1)=x.toNat by omega];exact GC f x b
 ·rw[show((y.toNat:Int).toNat*1)=y.toNat by omega];exact GC f y c
 rw[ak _];have e:z7 ((Gf.lg x:Int)+(Gf.lg y:Int)) 255=(((Gf.lg x+Gf.lg y)%255:Nat):Int):=by
  rw[yC (by omega)];rfl
 rw[e];have d:=yL (Gf.lg x+Gf.lg y) (show 255>0 by decide);refine⟨⟨by omega,by omega⟩,_,?_,by rw[Gf.mul,if_neg (by simp[b,c])],rfl⟩;rw[show((((Gf.lg x+Gf.lg y)%255:Nat):Int).toNat*1)=(Gf.lg x+Gf.lg y)%255 by omega];exact GB f _ d
theorem aaP(a:Addr)(x:UInt8)(h:Heap)(d:gN h a):ac xx 357 #[xo (some a),xl xu x.toNat] h fun v h'=>v=xl xu (Gf.inv x).toNat/\h'=h:=by
 refine Jq (some a) _ ?_;unfold Cl;refine cI (fun h0=>⟨by rw[Gf.inv,if_pos (DD.1 h0)];rfl,rfl⟩) (fun f=>?_);have b:x≠0:=fun h0=>f (DD.2 h0);refine(ry a h).mono ?_;rintro v i ⟨rfl,rfl⟩;have g:=wP x;have l1:=Gf.Kd x;refine⟨some a,rfl,a,rfl,⟨by omega,by omega⟩,(Gf.lg x:Int),?_,by decide,a,rfl,?_⟩
 ·rw[show((x.toNat:Int).toNat*1)=x.toNat by omega];exact GC d x b
 rw[ak _];have e:z7 (255-(Gf.lg x:Int)) 255=(((255-Gf.lg x)%255:Nat):Int):=by
  rw[yC (by omega)];omega
 rw[e];have c:=yL (255-Gf.lg x) (show 255>0 by decide);refine⟨⟨by omega,by omega⟩,_,?_,by rw[Gf.inv,if_neg b],rfl⟩;rw[show((((255-Gf.lg x)%255:Nat):Int).toNat*1)=(255-Gf.lg x)%255 by omega];exact GB d _ c
theorem aaQ(a:Addr)(n:Int)(h:Heap)(i:gN h a):ac xx 363 #[xo (some a),xl xt n] h fun v h'=>v=xl xu (Gf.pw (n%255).toNat).toNat/\h'=h:=by
 refine Jr (some a) n ?_;unfold Cm;have j:=vu n (show(0:Int)<255 by decide);have g:-255<n.tmod 255:=Int.lt_tmod_of_pos n (by decide);have b:=PR n 255 (by decide);have c:=Int.emod_nonneg n (show(255:Int)≠0 by decide);have e:=Int.emod_lt_of_pos n (show(0:Int)<255 by decide);refine⟨by decide,cl (fun s h'=>s=n%255/\h'=h) ?_ ?_⟩
 ·refine al (fun d=>?_) (fun f=>?_)
  ·rw[if_pos d]at b;exact⟨by rw[ak _,b],rfl⟩
  ·rw[if_neg f]at b;exact⟨b.symm,rfl⟩
 ·rintro s h' ⟨rfl,rfl⟩;refine(ry a h').mono ?_;rintro v g ⟨rfl,rfl⟩;refine⟨some a,rfl,a,rfl,⟨c,e⟩,_,?_,rfl,rfl⟩;rw[zT];exact GB i _ (by omega)
theorem ly(p:Pm)(h:Heap):ac xx 232 #[kh p] h fun v h'=>v=xl xt (cg p)/\Sp h h' []:=by
 refine QR p ?_;unfold KV;refine(Sp.refl h).boxed fun a f d=>?_;refine⟨p,(d.box 0 rfl).aL _ rfl,?_⟩;refine(ey p f).mono ?_;rintro v i ⟨rfl,g⟩;have b:=d.comp g;have c:=b.box 0 rfl;refine⟨_,rfl,bh (fun e=>⟨by simp[cg,e],.zip b.ai⟩) (fun e=>?_)⟩;refine⟨_,c.cell0 rfl,_,c.cell rfl,?_,.zip b.ai⟩;have:=(bM p).1 e;rw[ak _,cg,if_pos e]
theorem Yt(n i:Int)(h:Heap):ac xx 362 #[xl xt n,xl xt i] h fun v h'=>∃s:Sl,v=s/\
  Sp h h' [ar 5 s 1 aE (if 1<=n/\n<=64/\0<=i/\i<n then(qg n.toNat (0:UInt8)).set i.toNat 1 else[])]:=by
 refine Rb n i ?_;unfold Lh;have a:∀c:Prop,¬c->[Decidable c]->Sp h h [ar 5 ⟨none,0,0⟩ 1 aE (if c then(qg n.toNat (0:UInt8)).set i.toNat 1 else[])]:=fun c b _=>by
  rw[if_neg b];exact(Sp.refl h).nil 5 1 aE
 refine be ?_;refine al (fun e=>⟨⟨none,0,0⟩,rfl,a _ (by omega)⟩) (fun l=>?_);refine al (fun e=>⟨⟨none,0,0⟩,rfl,a _ (by omega)⟩) (fun e2=>?_);refine al (fun e=>⟨⟨none,0,0⟩,rfl,a _ (by omega)⟩) (fun k=>?_);refine al (fun e=>⟨⟨none,0,0⟩,rfl,a _ (by omega)⟩) (fun m=>?_);refine(Sp.refl h).make ae aE ⟨_,_,rfl,rfl,rfl,rfl,rfl,rfl⟩ (by decide) 0 rfl rfl n.toNat n.toNat (by omega) (by omega) (ql _) (by omega) fun s o j b f=>?_;refine f.set ae 0 rfl (fun _=>rfl) rfl i.toNat (by omega) (by simp;omega) 1 rfl rfl rfl fun g d=>?_;refine⟨s,rfl,?_⟩;rw[if_pos (by omega)];exact d
theorem Pc(s:Int)(h:Heap):ac xx 240 #[xl xv s] h fun v h'=>∃a:Addr,v=xo (some a)/\Sp h h' [aq a 359 [xl xw (qc xw s)]]:=by
 refine QS s ?_;unfold KW;exact(Sp.refl h).boxed fun a c b=>⟨a,rfl,b⟩
theorem Cw(a:Addr)(s:Int)(h:Heap)(d:bX h a 359 [xl xw s]):ac xx 241 #[xo (some a)] h fun v h'=>v=xl xv (told s)/\bX h' a 359 [xl xw (DS s)]/\aU (·≠a.block) h h':=by
 refine Ge (some a) ?_;unfold xA;refine CM rfl ⟨a,rfl,s,d.cell0 rfl,a,rfl,?_⟩;refine CO ae d rfl _ rfl rfl rfl (ql _) fun e b c _=>?_;exact⟨a,rfl,_,b.cell0 rfl,by decide,rfl,b,c⟩
theorem Ls(a:Addr)(s n:Int)(h:Heap)(d:bX h a 359 [xl xw s])(g:0<n:=by omega)(f:n<=2^62:=by omega):ac xx 322 #[xo (some a),xl xt n] h fun v h'=>v=xl xt (lp s n)/\bX h' a 359 [xl xw (DS s)]/\aU (·≠a.block) h h':=by
 refine EP (some a) n ?_;unfold tJ;refine be (CM rfl (al (fun e=>by omega) fun _=>?_));refine(Cw a s h d).mono ?_;rintro v i ⟨rfl,c,b⟩;exact⟨_,rfl,by rw[wrap_u64];omega,rfl,c,b⟩
theorem UA(a b:Nat)(d:a<=2^40)(c:b<=2^40):qc xt ((a:Int)+(b:Int))=((a+b:Nat):Int):=by
 rw[ak _];rfl
theorem Yu(l:Nat)(h:Heap)(f:l<=20):ac xx 390 #[xl xt l] h fun v h'=>v=xl xt (fg l)/\h'=h:=by
 have g:∀l:Nat,l<=20->∀r:Nat,r<=5->(∀j,j<r->j*j<l)->r*r<l->r<5:=by decide
 have m:∀l:Nat,l<=20->∀r:Nat,r<=5->(∀j,j<r->j*j<l)->¬r*r<l->r=fg l:=by decide
 refine Jt l ?_;unfold Co;refine aw (fun r:Nat=>(r:Int)) (fun r h'=>h'=h/\r<=5/\∀j,j<r->j*j<l) (fun r=>5-r) 0 rfl ⟨rfl,by omega,fun j d=>by omega⟩ ?_;rintro r h' ⟨rfl,c,d⟩;have k:r*r<=25:=wh c c;have e:qc xt ((r:Int)*(r:Int))=((r*r:Nat):Int):=by rw[<-wj];exact tR _
 rw[e];refine al (fun n=>?_) (fun i=>?_)
 ·have a:r*r<l:=by omega
  have o:=g l f r c d a;refine⟨r+1,by rw[ak _];rfl,⟨rfl,by omega,fun j b=>?_⟩,by omega⟩;rcases zk.1 b with b|rfl
  ·exact d j b
  ·exact a
 ·exact⟨by rw[m l f r c d (by omega)],rfl⟩
theorem Yv(r:Nat)(h:Heap)(a:r<=5):ac xx 225 #[xl xw r] h fun v h'=>v=xl xt (Ho r)/\h'=h:=by
 intro w b;refine(Tryz.bits_Len (r:Int) w (by omega) (by omega)).mono ?_;rintro e w' ⟨rfl,rfl⟩;have k:∀r:Nat,r<=5->Lib.bitLen r=Ho r:=by decide+kernel
 exact⟨_,rfl,cV.refl _,by rw[qo,k r a],b⟩
theorem Tl(l k:Nat)(h:Heap)(b:l<=20)(a:1<=l)(d:k<=20)(g:1<=k):ac xx 323 #[xl xt l,xl xt k] h fun v h'=>v=xl xt (rc l k)/\h'=h:=by
 have w:∀k:Nat,k<=20->1<k->qc xt ((k:Int)*qc xt ((k:Int)-1))=((k*(k-1):Nat):Int)/\k*(k-1)≠0:=by decide
 have m:∀l:Nat,l<=20->1<=l->1<=fg l/\fg l<=5:=by decide
 have c3:∀l:Nat,l<=20->1<=l->qc xt (wI (l:Int) (fg l))=((l/fg l:Nat):Int):=by decide
 have u:∀l:Nat,l<=20->1<=l->∀k:Nat,k<=20->1<=k->qc xt ((l:Int)*k)≠0:=by decide+kernel
 have j:∀k:Nat,k<=20->1<k->qc xt (wI (1048576:Int) (qc xt ((k:Int)*qc xt ((k:Int)-1))))=((1048576/(k*(k-1)):Nat):Int):=by decide+kernel
 have p:∀l:Nat,l<=20->1<=l->qc xt (wI (1048576:Int) (l:Int))=((1048576/l:Nat):Int):=by decide+kernel
 have t:∀l:Nat,l<=20->1<=l->∀k:Nat,k<=20->1<=k->qc xt (wI (qc xt ((1048576:Int)*fg l)) (qc xt ((l:Int)*k)))=((1048576*fg l/(l*k):Nat):Int):=by decide+kernel
 have x:∀l:Nat,l<=20->1<=l->qc xt (wI (qc xt ((qc xt ((1048576:Int)*fg l))*Ho (fg l))) (l:Int))=((1048576*fg l*Ho (fg l)/l:Nat):Int):=by decide+kernel
 have r:∀l:Nat,l<=20->∀k:Nat,k<=20->1048576*fg l/(l*k)<=2^30/\1048576*fg l*Ho (fg l)/l<=2^30/\1048576/(k*(k-1))<=2^30/\1048576/l<=2^30:=by decide+kernel
 refine Gl l k ?_;unfold xC;have i:=r l b k d;refine(Yu l h b).mono ?_;rintro v y ⟨rfl,rfl⟩;have o:=m l b a;refine⟨_,rfl,by omega,cl (fun s h'=>s=(((if k>1 then 1048576/(k*(k-1))else 1048576/l):Nat):Int)/\h'=y) ?_ ?_⟩
 ·refine al (fun e=>?_) (fun e=>?_)
  ·have:=w k d (by omega);refine⟨by rw[this.1];omega,by rw[j k d (by omega),if_pos (by omega)],rfl⟩
  ·refine⟨by rw[p l b a,if_neg (by omega)],rfl⟩
 ·rintro s n ⟨rfl,rfl⟩;have z:(if k>1 then 1048576/(k*(k-1))else 1048576/l)<=2^30:=by split<;>first|exact i.2.2.1|exact i.2.2.2
  refine be ?_;dsimp only;refine⟨show((fg l:Nat):Int)≠0 by omega,?_⟩;rw[c3 l b a];refine al (fun e=>⟨u l b a k d g,?_,rfl⟩) (fun e=>?_)
  ·rw[t l b a k d g,UA _ _ (by omega) (q7 i.1 (by decide)),rc,if_pos (c:=k<l/fg l) (Int.ofNat_lt.1 e)]
  ·refine cI (fun e2=>?_) (fun e2=>?_)
   ·have q:qc xw (fg l:Int)=(fg l:Int):=by rw[wrap_u64];omega
    rw[q];refine(Yv (fg l) n o.2).mono ?_;rintro v h3 ⟨rfl,rfl⟩;refine⟨_,rfl,by omega,?_,rfl⟩;rw[x l b a,UA _ _ (by omega) (q7 i.2.1 (by decide)),rc,if_neg (c:=k<l/fg l) (fun f=>e (Int.ofNat_lt.2 f)),if_pos (c:=k=l/fg l) (xc.1 e2)]
   ·exact⟨by rw[rc,if_neg (c:=k<l/fg l) (fun f=>e (Int.ofNat_lt.2 f)),if_neg (c:=k=l/fg l) (fun f=>e2 (xc.2 f)),yu],rfl⟩
theorem VZ(l:Nat)(h:Heap)(b:l<=20)(a:1<=l):ac xx 243 #[xl xt l] h fun v h'=>∃s:Sl,v=s/\Sp h h' [ar 3 s 1 aD (jk l)]:=by
 refine HT l ?_;unfold AI;refine be (al (fun e=>by omega) fun _=>al (fun e=>by omega) fun _=>?_);refine(Sp.refl h).make ae aD lL (by decide) 0 rfl rfl 0 l rfl rfl (by omega) (by omega) fun s u m o i=>?_;refine aw (fun t:Sl×Nat=>(t.1,((lZ l t.2:Nat):Int),((t.2+1:Nat):Int))) (fun t h'=>t.2<=l/\Sp h h' [ar 3 t.1 1 aD ((jk l).take t.2)]) (fun t=>l-t.2) (s,0) rfl ⟨by simp,by simpa using i⟩ ?_;rintro⟨s,k⟩ f ⟨q,c⟩;dsimp only at*;refine al (fun e=>?_) (fun e=>?_)
 ·refine(Tl l (k+1) f b a (by omega) (by omega)).mono ?_;rintro v h3 ⟨rfl,rfl⟩;refine⟨_,rfl,?_⟩;have r:=Hp l b k (by omega);have p:=Ke l b (k+1) (by omega);have e2:qc xt ((lZ l k:Int)+(rc l (k+1):Int))=((lZ l (k+1):Nat):Int):=by rw[ak _,lZ];rfl
  dsimp only;rw[e2];refine c.push ae 0 rfl lL rfl (by decide) (fun _=>rfl) jf _ rfl (by decide) (by rw[zd];omega) fun j n d=>?_;refine⟨(j,k+1),by dsimp only;rw[ak _];rfl,⟨by dsimp only;omega,?_⟩,by dsimp only;omega⟩;have g:(jk l).take (k+1)=(jk l).take k++[((lZ l (k+1):Nat):Int)]:=by
   rw[aI _ _ (by rw[kR];omega)];simp[jk]
  dsimp only;rw[g];exact d
 ·refine⟨s,rfl,?_⟩;rw[qi (by rw[kR];omega)]at c;exact c
theorem Tm{p:aB}(t:Sl)(lt:aC)(x b:Int)(h:Heap)(f:Seq h p t 1 aD lt)(q:0<=x)(a:lt.getLast?=some b)(c:x<b)(s:lt.length<=2^40):
  ac xx 321 #[t,xl xt x] h fun v h'=>v=xl xt (Vg lt x)/\h'=h:=by
 refine Gk t x ?_;unfold xB;have r:=f.len;have l:lt≠[]:=fun e=>by rw[e]at a;cases a
 have n:0<lt.length:=List.length_pos_iff.2 l;have g:lt[lt.length-1]=b:=by rw[List.getLast?_eq_getElem?,qd (by omega)]at a;simpa using a
 refine be (cI (fun e=>by omega) fun _=>al (fun e=>by omega) fun _=>?_);rw[ak _];refine f.bx (lt.length-1) (by omega) (by omega) _ rfl ?_;rw[g];refine al (fun e=>by omega) fun _=>?_;have i:(lt.findIdx fun y=>decide (y>x))<lt.length:=List.findIdx_lt_length_of_exists ⟨b,List.mem_of_getLast? a,by simpa using c⟩;refine aw (fun k:Nat=>(k:Int)) (fun k h'=>h'=h/\k<=(lt.findIdx fun y=>decide (y>x))) (fun k=>lt.length-k) 0 rfl ⟨rfl,by omega⟩ ?_;rintro k h' ⟨rfl,m⟩;refine al (fun e=>?_) (fun e=>by omega);have d:k<lt.length:=by omega
 refine f.bx k rfl d _ rfl ?_;rw[ak _];refine al (fun e2=>?_) (fun e2=>?_)
 ·have:(lt.findIdx fun y=>decide (y>x))=k:=Nat.le_antisymm (Nat.le_of_not_lt fun j=>by have:=List.not_of_lt_findIdx j;simp at this;omega) m;exact⟨by rw[Vg,this];rfl,rfl⟩
 ·refine⟨k+1,rfl,⟨rfl,?_⟩,by omega⟩;refine Nat.lt_of_le_of_ne m fun o=>?_;have:=List.findIdx_getElem (xs:=lt) (p:=fun y=>decide (y>x)) (w:=i);simp only[<-o]at this;simp at this;omega
theorem HV(t:Sl)(n:Nat)(a:Addr)(s:Int)(h:Heap)(g:Seq h (·≠a.block) t 1 aD (jk n))(l:bX h a 359 [xl xw s])(c:1<=n)(f:n<=20):
  ac xx 242 #[t,xo (some a)] h fun v h'=>v=xl xt (Hq s n)/\bX h' a 359 [xl xw (DS s)]/\aU (·≠a.block) h h':=by
 refine Jn t (some a) ?_;unfold Cg;have k:=g.len;rw[kR]at k;refine cI (fun e=>by omega) fun _=>?_;rw[ak _];refine g.bx (n-1) (by omega) (by rw[kR];omega) _ rfl ?_;have m:(jk n)[n-1]'(by rw[kR];omega)=((lZ n n:Nat):Int):=by simp only[jk,List.getElem_map,List.getElem_range];rw[show n-1+1=n by omega]
 rw[m];have q:=Qc n f c;have j:=Hp n f n f;refine(Ls a s _ h l).mono ?_;rintro v o ⟨rfl,i,d⟩;have b:=uN s (lZ n n);refine⟨_,rfl,(Tm t (jk n) _ _ o (g.ai d) b.1 (Kf n c) b.2 (by rw[kR];omega)).mono ?_⟩;rintro v p ⟨rfl,rfl⟩;exact⟨_,rfl,rfl,i,d⟩
theorem Yw(a:Addr)(s:Int)(n k:Nat)(h:Heap)(F:bX h a 359 [xl xw s])(N:n<=64)(R:k<=n):
  ac xx 244 #[xo (some a),xl xt n,xl xt k] h fun v h'=>∃r:Sl,v=r/\aa (fun b=>b<h.size/\¬b=a.block) h h' [aq a 359 [xl xw (gd n s (upto n) k).1],ar 3 r 1 aD (Hn s n k)]:=by
 refine KX (some a) n k ?_;unfold Et;refine be (al (fun e=>by omega) fun _=>al (fun e=>by omega) fun _=>al (fun e=>by omega) fun _=>al (fun e=>by omega) fun _=>?_);have M:aa (fun b=>b<h.size/\¬b=a.block) h h [aq a 359 [xl xw s]]:=.Xm (fun b=>b=a.block) (fun b q=>by rw[q];exact F.lt) ⟨F,rfl⟩;refine M.make ae aD lL (by decide) 0 rfl rfl n n rfl rfl (ql _) (by omega) fun v V Q P L=>?_;refine aw (fun i:Nat=>(i:Int)) (fun i h'=>i<=n/\aa (fun b=>b<h.size/\¬b=a.block) h h' [aq a 359 [xl xw s],ar 3 v 1 aD ((upto n).take i++qg (n-i) 0)]) (fun i=>n-i) 0 rfl ⟨by omega,by simpa using L⟩ ?_;rintro i O ⟨S,u⟩;refine al (fun e=>?_) (fun e=>?_)
 ·have l:i<n:=by omega
  refine u.set ae 1 rfl (fun _=>rfl) rfl i rfl (by simp[gy];omega) (i:Int) rfl rfl rfl fun h3 f=>?_;refine⟨i+1,by rw[ak _];rfl,⟨by omega,?_⟩,by omega⟩;have e2:((upto n).take i++qg (n-i) 0).set i (i:Int)=(upto n).take (i+1)++qg (n-(i+1)) 0:=by
   have o:((upto n).take i).length=i:=by rw[zd,gy];omega
   rw[aI _ _ (by rw[gy];omega),zc _ _ (by omega),o,zi,show n-i=n-(i+1)+1 by omega,yO,zC];simp[upto]
  rw[<-e2];exact f
 ·have l:i=n:=by omega
  subst l;have e2:(upto i).take i++qg (i-i) 0=upto i:=by rw[qi (by rw[gy];omega)];simp
  rw[e2]at u;refine aw (fun j:Nat=>(j:Int)) (fun j h'=>j<=k/\aa (fun b=>b<h.size/\¬b=a.block) h h' [aq a 359 [xl xw (gd i s (upto i) j).1],ar 3 v 1 aD (gd i s (upto i) j).2]) (fun j=>k-j) 0 rfl ⟨by omega,u⟩ ?_;rintro j h3 ⟨T,f⟩;have B:=uO i s (upto i) j;rw[gy]at B;refine al (fun J=>?_) (fun J=>?_)
  ·rw[ak _];have c:((i:Int)-(j:Int))=((i-j:Nat):Int):=by omega
   rw[c];refine(Ls a _ _ h3 (f.box 0 rfl)).mono ?_;rintro w E ⟨rfl,p,z⟩;have g:=f.BG 0 rfl z p;have G:=uN (gd i s (upto i) j).1 ((i-j:Nat):Int);refine⟨_,rfl,?_⟩;dsimp only;rw[ak _,ak _];have H:(j:Int)+lp (gd i s (upto i) j).1 ((i-j:Nat):Int)=((j+(lp (gd i s (upto i) j).1 ((i-j:Nat):Int)).toNat:Nat):Int):=by omega
   have d:j+(lp (gd i s (upto i) j).1 ((i-j:Nat):Int)).toNat<(gd i s (upto i) j).2.length:=by omega
   rw[H];have m:=g.seq 1 rfl (fun _=>rfl);refine m.bx _ rfl d _ rfl ?_;refine m.bx j rfl (by omega) _ rfl ?_;refine g.set ae 1 rfl (fun _=>rfl) rfl j rfl (by omega) _ rfl rfl rfl fun K y=>⟨trivial,?_⟩
   refine y.set ae 1 rfl (fun _=>rfl) rfl _ rfl (by simpa using d) _ rfl rfl rfl fun U I=>⟨trivial,?_⟩
   refine⟨j+1,rfl,⟨by omega,?_⟩,by omega⟩;rw[gd,rL,kw,kw,Go.Vc.getD_lt d,Go.Vc.getD_lt (show j<(gd i s (upto i) j).2.length by omega)];exact I
  ·have t:j=k:=by omega
   subst t;refine⟨⟨by omega,by omega⟩,?_⟩;have x:=f.seq 1 rfl (fun _=>rfl);refine(jg ⟨v.ptr,j,v.cap⟩ ((gd i s (upto i) j).2.take j) h3 (x.take j (by omega)) (by rw[zd];omega)).mono ?_;rintro w E ⟨r,rfl,g⟩;refine⟨r,rfl,?_⟩;refine(NZ r _ E (g.own 0 rfl) (by rw[zd];omega)).mono ?_;rintro w K ⟨rfl,A,D⟩;have y:=(f.comp g).nU 2 rfl D A;exact⟨(),rfl,r,rfl,y.del 1⟩
theorem AO(p:Pm)(seed id:Int)(h:Heap):ac xx 148 #[kh p,xl xv seed,xl xt id] h fun v h'=>∃r:Sl,v=r/\Sp h h' [ar 3 r 1 aD (if bL p&&bS id then dj (cg p).toNat seed id else[])]:=by
 refine SO p seed id ?_;unfold NT;refine(Sp.refl h).boxed fun a F E=>?_;refine be ?_;refine⟨p,(E.box 0 rfl).aL _ rfl,(ey p F).mono ?_⟩;rintro v j ⟨rfl,Q⟩;have m:=E.comp Q;have s:(bL p&&bS id)=false->Sp h j [ar 3 ⟨none,0,0⟩ 1 aD (if bL p&&bS id then dj (cg p).toNat seed id else[])]:=fun P=>by
  rw[P];exact(m.nil 3 1 aD).take 1 (fun i A f=>by cases i with|zero=>exact f|succ i=>simp at f)
 refine⟨_,rfl,bh (fun e=>⟨⟨none,0,0⟩,rfl,s (by rw[e];rfl)⟩) fun o=>?_⟩;refine al (fun e=>⟨⟨none,0,0⟩,rfl,s (by simp[bS];omega)⟩) fun U=>?_;refine al (fun e=>⟨⟨none,0,0⟩,rfl,s (by simp[bS];omega)⟩) fun e2=>?_;have hid:bS id=true:=by simp[bS];omega
 rw[o,hid];refine⟨p,(m.box 0 rfl).aL _ rfl,(ly p j).mono ?_⟩;rintro v h3 ⟨rfl,K⟩;have I:=m.comp K;have J:=(bM p).1 o;have T:cg p=p.1+p.2.1:=by rw[cg,if_pos o]
 obtain⟨n,G⟩:∃n:Nat,cg p=n:=⟨(cg p).toNat,by omega⟩
 refine⟨_,rfl,?_⟩;dsimp only;rw[G,qo];refine(Pc _ h3).mono ?_;rintro v H ⟨d,rfl,B⟩;refine⟨some d,rfl,?_⟩;refine(Cw d _ H (B.box 0 rfl)).mono ?_;rintro v M ⟨rfl,l,u⟩;have D:=B.BG 0 rfl u l;refine⟨_,rfl,?_⟩;refine(VZ n M (by omega) (by omega)).mono ?_;rintro v S ⟨t,rfl,x⟩;have c:=D.comp x;refine⟨t,rfl,?_⟩;have w:∀b,t.on b->b≠d.block:=fun b k V=>by
  have F:=(x.fresh 0 rfl).2 b k;have j:=(D.box 0 rfl).lt;omega
 refine(HV t n d _ S ((x.own 0 rfl).seq (fun _=>rfl) w) (c.box 0 rfl) (by omega) (by omega)).mono ?_;rintro v L ⟨rfl,y,g⟩;have z:=c.BG 0 rfl g y;refine⟨_,rfl,?_⟩;refine(Yw d _ n _ L (z.box 0 rfl) (by omega) (uP _ n (by omega) (by omega))).mono ?_;rintro v h8 ⟨r,rfl,N⟩;have R:=z.call 0 rfl (fun b=>b=d.block) (fun q O b k=>by rw[k];exact O.2) N;exact⟨r,rfl,r,rfl,((I.comp R).take 3 (fun i A f=>by cases i with|zero=>exact f|succ i=>simp at f))⟩
theorem aaR{α:Type}{h:Heap}{e:TypeId}{s:Sl}{k:Nat}{f:α->aW}{l:List α}(a:Own h e s k f l)(c:l≠[]):s.ptr.isNone=false:=by
 rcases a.head with⟨_,_,h3⟩|⟨b,rest,h1,_⟩
 ·exact absurd h3 c
 ·rw[h1];rfl
theorem aaS(p:Pm)(seed id:Int)(h:Heap):ac xx 286 #[kh p,xl xv seed,xl xt id] h fun v h'=>∃r:Sl,v=r/\
  Sp h h' [ar 5 r 1 aE (if bL p&&bS id then rf (cg p).toNat seed id else[])]/\r.ptr.isNone=!(bL p&&bS id):=by
 refine VN p seed id ?_;unfold QY;refine(Sp.refl h).boxed fun a R F=>?_;refine be ?_;refine⟨p,(F.box 0 rfl).aL _ rfl,(ey p R).mono ?_⟩;rintro v D ⟨rfl,P⟩;have s:=F.comp P;have y:(bL p&&bS id)=false->Sp h D [ar 5 ⟨none,0,0⟩ 1 aE (if bL p&&bS id then rf (cg p).toNat seed id else[])]/\Option.isNone (none:aO)=!(bL p&&bS id):=fun O=>by
  rw[O];exact⟨(s.nil 5 1 aE).take 1 (fun i A g=>by cases i with|zero=>exact g|succ i=>simp at g),rfl⟩
 refine⟨_,rfl,bh (fun e=>⟨⟨none,0,0⟩,rfl,y (by rw[e];rfl)⟩) fun l=>?_⟩;refine al (fun e=>⟨⟨none,0,0⟩,rfl,y (by simp[bS];omega)⟩) fun V=>?_;refine al (fun e=>⟨⟨none,0,0⟩,rfl,y (by simp[bS];omega)⟩) fun e2=>?_;have hid:bS id=true:=by simp[bS];omega
 refine⟨p,(s.box 0 rfl).aL _ rfl,(ly p D).mono ?_⟩;rintro v h3 ⟨rfl,L⟩;have J:=s.comp L;have K:=(bM p).1 l;have S:cg p=p.1+p.2.1:=by rw[cg,if_pos l]
 obtain⟨n,z⟩:∃n:Nat,cg p=n:=⟨(cg p).toNat,by omega⟩
 refine⟨_,rfl,?_⟩;dsimp only;rw[z];refine J.make ae aE ga (by decide) 0 rfl rfl n n rfl rfl (ql _) (by omega) fun v H T I B=>?_;refine⟨p,(B.box 0 rfl).aL _ rfl,(AO p seed id H).mono ?_⟩;rintro w W ⟨c,rfl,m⟩;rw[l,hid,z,qo]at m;rw[l,hid,qo];have t:=B.comp m;have j:=t.seq 2 rfl (fun _=>rfl);have u:=j.len;obtain⟨b,d⟩:∃b,b=dj n seed id:=⟨_,rfl⟩
 have o:∀x∈b,0<=x/\x<(n:Int):=fun x E=>ma (by omega) (by omega) (by rw[<-d];exact E);have G:b.length<=n:=by rw[d];exact Ao (by omega) (by omega) _ _
 simp only[Bool.and_self,if_true,<-d]at t j u m;refine⟨c,rfl,?_⟩;refine aw (fun i:Nat=>(i:Int)) (fun i h'=>i<=b.length/\Sp h h' [aq a 24 [xl xt p.1,xl xt p.2.1,xl xt p.2.2],ar 5 v 1 aE (fL n (b.take i)),ar 3 c 1 aD b]) (fun i=>b.length-i) 0 rfl ⟨by omega,t⟩ ?_;rintro i Q ⟨g,k⟩;refine al (fun e=>?_) (fun e=>?_)
 ·have f:i<b.length:=by omega
  have E:=o _ (qh f);refine(k.seq 2 rfl (fun _=>rfl)).bx i rfl f _ rfl ?_;refine k.set ae 1 rfl (fun _=>rfl) rfl b[i].toNat (by omega) (by rw[re];omega) 1 rfl rfl rfl fun U M=>?_;refine⟨i+1,by rw[ak _];rfl,⟨by omega,?_⟩,by omega⟩;have e2:fL n (b.take (i+1))=(fL n (b.take i)).set b[i].toNat 1:=by rw[aI _ _ f,fL,wN];rfl
  rw[e2];exact M
 ·rw[qi (by omega)]at k;have q:Sp h Q [ar 5 v 1 aE (fL n b)]:=(k.del 2).take 1 (fun i A g=>by cases i with|zero=>exact g|succ i=>simp at g);refine⟨v,rfl,?_,aaR (q.own 0 rfl) (fun N=>?_)⟩
  ·rw[d]at q;exact q
  ·have:=re n b;rw[N]at this;simp at this;omega
theorem EC(p:Pm)(h:Heap):ac xx 285 #[kh p] h fun v h'=>∃r:Sl,v=r/\Sp h h' [fS 35 r 1 aE (if bL p then bz p.1.toNat p.2.1.toNat else[])]:=by
 refine QX p ?_;unfold Lc;refine(Sp.refl h).boxed fun a h1 F=>?_;refine⟨p,(F.box 0 rfl).aL _ rfl,(ey p h1).mono ?_⟩;rintro v L ⟨rfl,R2⟩;have B:=F.comp R2;refine⟨_,rfl,bh (fun e=>⟨⟨none,0,0⟩,rfl,?_⟩) fun w=>?_⟩
 ·rw[e];exact(B.Kb 35 1 aE).take 1 (fun i A c=>by cases i with|zero=>exact c|succ i=>simp at c)
 have J:=(bM p).1 w;have M:cg p=p.1+p.2.1:=by rw[cg,if_pos w]
 obtain⟨K,Z⟩:∃K:Nat,p.1=K:=⟨p.1.toNat,by omega⟩
 obtain⟨b,Q⟩:∃H:Nat,p.2.1=H:=⟨p.2.1.toNat,by omega⟩
 refine(un L).mono ?_;rintro v h3 ⟨f,rfl,O⟩;have z:=(B.comp O).Kb 35 1 aE;refine⟨some f,rfl,_,(z.box 0 rfl).cell rfl,?_⟩;refine aw (fun t:Sl×Nat=>(t.1,(t.2:Int))) (fun t h'=>t.2<=b/\Sp h h' [aq a 24 [xl xt p.1,xl xt p.2.1,xl xt p.2.2],aq f 319 dD,fS 35 t.1 1 aE ((bz K b).take t.2)]) (fun t=>b-t.2) (⟨none,0,0⟩,0) rfl ⟨by simp,z⟩ ?_;rintro⟨s,k⟩ I ⟨hk,d⟩;dsimp only at*;refine al (fun e=>?_) (fun e=>?_)
 ·have P:k<b:=by omega
  refine be ⟨p,(d.box 0 rfl).aL _ rfl,p.1,(d.box 0 rfl).cell0 rfl,?_⟩;refine(ly p I).mono ?_;rintro v W ⟨rfl,G⟩;have E:=d.comp G;refine⟨_,rfl,⟨(E.box 0 rfl).cell0 rfl,trivial⟩,?_⟩;dsimp only;rw[ak (p.1+k),M];refine(Yt _ _ W).mono ?_;rintro v h6 ⟨u,rfl,y⟩;rw[if_pos (by omega)]at y;have U:(p.1+p.2.1).toNat=K+b:=by omega
  have e2:(p.1+(k:Int)).toNat=K+k:=by omega
  rw[U,e2]at y;have o:=E.comp y;refine⟨u,rfl,⟨(o.box 0 rfl).cell0 rfl,trivial⟩,p.1,(o.box 0 rfl).cell0 rfl,?_⟩;let rowAt:Nat->aX:=fun j=>(qE j).map (fun i=>Gf.pw ((k+1)*(i+1)%255))++((qg (K+b) (0:UInt8)).set (K+k) 1).drop j;refine aw (fun j:Nat=>(j:Int)) (fun j h'=>j<=K/\Sp h h' [aq a 24 [xl xt p.1,xl xt p.2.1,xl xt p.2.2],aq f 319 dD,fS 35 s 1 aE ((bz K b).take k),ar 5 u 1 aE (rowAt j)]) (fun j=>K-j) 0 rfl ⟨by omega,o⟩ ?_;rintro j S ⟨hj,n⟩;refine al (fun T=>?_) (fun T=>?_)
  ·have g:j<K:=by omega
   have hm:(k+1)*(j+1)<=4*16:=wh (by omega) (by omega);have e4:qc xt (qc xt ((k:Int)+1)*qc xt ((j:Int)+1))=(((k+1)*(j+1):Nat):Int):=by
    rw[ak ((k:Int)+1),ak ((j:Int)+1),show((k:Int)+1)*((j:Int)+1)=(((k+1)*(j+1):Nat):Int)by rw[wj];rfl];exact tR _
   rw[e4];refine(aaQ f _ S (n.box 1 rfl)).mono ?_;rintro v h8 ⟨rfl,rfl⟩;refine⟨_,rfl,?_⟩;have D:(rowAt j).length=K+b:=by simp[rowAt];omega
   refine n.set ae 3 rfl (fun _=>rfl) rfl j rfl (by omega) _ rfl rfl rfl fun N x=>?_;refine⟨j+1,by rw[ak _];rfl,⟨by omega,?_⟩,by omega⟩;have q:(rowAt j).set j (Gf.pw ((((k+1)*(j+1):Nat):Int)%255).toNat)=rowAt (j+1):=by
    have e6:((((k+1)*(j+1):Nat):Int)%255).toNat=(k+1)*(j+1)%255:=by omega
    rw[e6];simp only[rowAt];rw[zc _ _ (by simp),qu,zx,zi,qV (by simp;omega),zC,zI,qT,qp];rfl
   rw[<-q];exact x
  ·have g:j=K:=by omega
   subst g;have q:rowAt j=kS j b k:=by
    simp only[rowAt,kS];congr 1;apply zD;intro i;rw[wC,qX,qO];by_cases c:i<b
    ·rw[zw c,qL,zK];by_cases m:i=k
     ·subst m;simp[c]
     ·rw[if_neg (by omega),if_pos (by omega),if_neg m]
    ·rw[zg (l:=qE b) (by simp;omega),if_neg (by omega),zK,if_neg (by omega)];rfl
   rw[q]at n;have R:=n.freeze 3 rfl (fun _=>rfl);have X:((bz j b).take k).length=k:=by simp[bz];omega
   refine R.uw ae 2 3 (by decide) rfl rfl fG (by omega) fun Y N x=>?_;refine⟨(Y,k+1),by dsimp only;rw[ak _];rfl,⟨by dsimp only;omega,?_⟩,by dsimp only;omega⟩;have V:(bz j b).take (k+1)=(bz j b).take k++[kS j b k]:=by
    rw[aI _ _ (by simp[bz];omega)];simp[bz]
   dsimp only;rw[V];exact x.del 3
 ·refine⟨s,rfl,?_⟩;rw[if_pos w,Z,Q,qo,qo];rw[qi (by simp[bz];omega)]at d;exact d.take 2 (fun i A c=>by cases i with|zero=>exact c|succ i=>simp at c)
theorem Lt(p:Pm)(h:Heap):ac xx 214 #[kh p] h fun v h'=>∃r:Sl,v=r/\Sp h h' [ar 3 r 1 aD (upto (max 0 (min p.1 16)).toNat)]:=by
 refine Jl p ?_;unfold Cc;refine(Sp.refl h).boxed fun a o c=>?_;refine⟨p.1,(c.box 0 rfl).cell0 rfl,?_⟩;have em:(if(if(16:Int)<p.1 then(16:Int)else p.1)>(0:Int)then(if(16:Int)<p.1 then(16:Int)else p.1)else(0:Int))=((max 0 (min p.1 16)).toNat:Int):=by
  split<;>split<;>omega
 rw[em];generalize l:(max 0 (min p.1 16)).toNat=N;have f:N<=16:=by omega
 refine aw (fun t:Sl×Nat=>(t.1,(t.2:Int))) (fun t h'=>t.2<=N/\Sp h h' [emp,ar 3 t.1 1 aD (upto t.2)]) (fun t=>N-t.2) (⟨none,0,0⟩,0) rfl ⟨by simp,(c.fO 0 rfl fun _ _=>trivial).nil 3 1 aD⟩ ?_;rintro⟨s,k⟩ m ⟨n,b⟩;dsimp only at*;refine al (fun e=>?_) (fun e=>?_)
 ·refine b.push ae 1 rfl lL rfl (by decide) (fun _=>rfl) jf (k:Int) rfl (by decide) (by rw[gy];omega) fun j h3 g=>?_;refine⟨(j,k+1),by dsimp only;rw[ak _];rfl,⟨by dsimp only;omega,?_⟩,by dsimp only;omega⟩;have e2:upto (k+1)=upto k++[(k:Int)]:=by simp[upto,zI]
  dsimp only;rw[e2];exact g
 ·have:k=N:=by omega
  subst this;exact⟨s,rfl,b.take 1 (fun i A d=>by cases i with|zero=>exact d|succ i=>simp at d)⟩
theorem ID(p:Pm)(seed:Int)(ids:Sl)(l:aC)(h:Heap)(q:Rd h ids 1 aD l)(I:l.length<=2^30):ac xx 213 #[kh p,xl xv seed,ids] h fun v h'=>∃r:Sl,v=r/\Sp h h' [fS 35 r 1 aE (dW p seed l)]:=by
 refine HQ p seed ids ?_;unfold AF;refine(Sp.refl h).boxed fun a B y=>?_;refine⟨p,(y.box 0 rfl).aL _ rfl,(EC p B).mono ?_⟩;rintro v E ⟨r,rfl,J⟩;have u:=y.comp J;refine⟨r,rfl,?_⟩;have x:=q.len;let at_:Nat->cD:=fun k=>dW p seed (l.take k);have h0:(if bL p then bz p.1.toNat p.2.1.toNat else[])=at_ 0:=by simp[at_,dW]
 rw[h0]at u;refine aw (fun t:Sl×Nat=>(t.1,(t.2:Int))) (fun t h'=>t.2<=l.length/\Sp h h' [aq a 24 [xl xt p.1,xl xt p.2.1,xl xt p.2.2],fS 35 t.1 1 aE (at_ t.2)]) (fun t=>l.length-t.2) (r,0) rfl ⟨by simp,u⟩ ?_;rintro⟨s,k⟩ h3 ⟨L,f⟩;dsimp only at*;refine al (fun e=>?_) (fun e=>?_)
 ·have d:k<l.length:=by omega
  refine(Seq.up q f.ai).bx k rfl d _ rfl ?_;refine⟨p,(f.box 0 rfl).aL _ rfl,(aaS p seed l[k] h3).mono ?_⟩;rintro v K ⟨w,rfl,D,c⟩;have m:=(f.comp D).freeze 2 rfl (fun _=>rfl);refine⟨w,rfl,?_⟩;have n:(at_ k).length<=4+k∨at_ k=[]:=by
   by_cases o:bL p
   ·left;have:=(bM p).1 o;have B:=qP bS (l.take k);have E:=List.length_take_le k l;simp only[at_,dW,o,if_true,qx,qu,bz,zx];omega
   ·right;simp[at_,dW,o]
  have j:(at_ k).length+1<=2^32:=by
   rcases n with h|h
   ·omega
   ·rw[h];simp
  dsimp only;refine bh (fun e2=>?_) (fun e2=>?_)
  ·rw[c]at e2;have b:(bL p&&bS l[k])=true:=by simpa using e2
   rw[b,if_pos rfl]at m;refine m.uw ae 1 2 (by decide) rfl rfl fG j fun G M F=>?_;refine⟨(G,k+1),by dsimp only;rw[ak _];rfl,⟨by dsimp only;omega,?_⟩,by dsimp only;omega⟩;rw[qz]at b;have g:at_ (k+1)=at_ k++[rf (cg p).toNat seed l[k]]:=by
    simp only[at_,dW,b.1,if_true];rw[uQ d,if_pos b.2,qT,qp];rfl
   dsimp only;rw[g];exact F.del 2
  ·rw[c]at e2;have b:(bL p&&bS l[k])=false:=by
    cases hh:(bL p&&bS l[k])with
    |false=>rfl
    |true=>rw[hh]at e2;cases e2
   refine⟨(s,k+1),by dsimp only;rw[ak _];rfl,⟨by dsimp only;omega,?_⟩,by dsimp only;omega⟩;have g:at_ (k+1)=at_ k:=by
    simp only[at_,dW];rw[Bool.and_eq_false_iff]at b;rcases b with h|h
    ·simp[h]
    ·have H:(l.take (k+1)).filter bS=(l.take k).filter bS:=by rw[uQ d,if_neg (by simp[h])]
     rw[H]
   dsimp only;rw[g];exact m.del 2
 ·refine⟨s,rfl,?_⟩;have g:at_ k=dW p seed l:=by simp only[at_];rw[qi (by omega)]
  rw[g]at f;exact f.take 1 (fun i A z=>by cases i with|zero=>exact z|succ i=>simp at z)
theorem my(a:Sl)(m:aS)(n:Nat)(h:Heap)(c:gx h a 1 aE m)(i:bg n m)(l:n<=64:=by omega)(s:m.length<=2^30:=by omega):ac xx 277 #[a] h fun v h'=>v=xq true/\h'=h:=by
 refine SQ a ?_;unfold NV;have o:=c.len;refine aw (fun k:Nat=>(k:Int)) (fun k h'=>h'=h/\k<=m.length) (fun k=>m.length-k) 0 rfl ⟨rfl,by omega⟩ ?_;rintro k h' ⟨rfl,q⟩;refine al (fun e=>?_) (fun e=>⟨rfl,rfl⟩);have b:k<m.length:=by omega
 refine c.get k rfl b fun r g=>?_;refine c.get 0 rfl (by omega) fun p d=>?_;have j:=g.len;have f:=d.len;rw[i _ (qh _)]at j f;refine ca (fun e=>by omega) fun _=>al (fun e=>by omega) fun _=>?_;exact⟨k+1,by rw[ak _];rfl,⟨rfl,by omega⟩,by omega⟩
theorem xK(a:Sl)(m:aS)(n:Nat)(h:Heap)(d:gx h a 1 aE m)(u:bg n m)(x:n<=64:=by omega)(D:m.length<=2^30:=by omega):ac xx 279 #[a] h fun v h'=>∃(r:Sl) (rs:List Sl),v=r/\rs.length=m.length/\Sp h h' (ar 35 r 1 bJ rs::bR 5 1 aE rs m):=by
 refine SS a ?_;unfold NW;have A:=d.len;refine(Sp.refl h).make ae bJ fG (by decide) ⟨none,0,0⟩ rfl rfl 0 m.length rfl (by omega) (by omega) (by omega) fun s E q z o=>?_;refine aw (fun t:Sl×List Sl=>(t.1,(t.2.length:Int))) (fun t h'=>t.2.length<=m.length/\Sp h h' (ar 35 t.1 1 bJ t.2::bR 5 1 aE t.2 (m.take t.2.length))) (fun t=>m.length-t.2.length) (s,[]) rfl ⟨by simp,by simpa[bR]using o⟩ ?_;rintro⟨s,rs⟩ i ⟨B,c⟩;dsimp only at*;refine al (fun e=>?_) (fun e=>?_)
 ·have b:rs.length<m.length:=by omega
  refine(d.up c.ai).get rs.length rfl b fun r j=>?_;have k:m[rs.length].length=n:=u _ (qh _);refine(fR r _ i j).mono ?_;rintro v h3 ⟨w,rfl,l⟩;have g:=c.comp l;refine⟨w,rfl,?_⟩;refine g.push ae 0 rfl fG rfl (by decide) (fun _=>rfl) lY w rfl (by decide) (by omega) fun p y f=>?_;refine⟨(p,rs++[w]),by dsimp only;rw[ak _];simp,⟨by simp;omega,?_⟩,by simp;omega⟩;dsimp only;rw[show(rs++[w]).length=rs.length+1 by simp,aI _ _ b,uL (by rw[zd];omega)];exact f
 ·have e2:m.take rs.length=m:=qi (by omega);rw[e2]at c;exact⟨s,rs,rfl,by omega,c⟩
theorem rz(a:Sl)(m:aS)(h:Heap)(b:gx h a 1 aE m):ac xx 278 #[a] h fun v h'=>v=xl xt (fP m)/\h'=h:=by
 refine OY a ?_;unfold Ix;have d:=b.len;refine cI (fun e=>?_) (fun e=>?_)
 ·have:m=[]:=qZ (by omega);subst this;exact⟨rfl,rfl⟩
 ·refine b.get 0 rfl (by omega) fun r c=>⟨?_,rfl⟩
  rw[c.len,fP,bv (by omega)]
theorem Rq{r:Row}{c:Nat}(h:c<r.length:=by omega):aQ r c=r[c]:=by rw[aQ,qe,qd h];rfl
theorem Tn(a:Sl)(m:aS)(n b bs:Nat)(h:Heap)(p:gx h a 1 aE m)(u:bg n m)(w:bs<n)(y:m.length<=2^30):
  ac xx 355 #[a,xl xt b,xl xt bs] h fun v h'=>v=xl xt (match iC m b bs with|some i=>(i:Int)|none=>-1)/\h'=h:=by
 refine Na a b bs ?_;unfold Gm;have x:=p.len;refine aw (fun k:Nat=>(k:Int)) (fun k h'=>h'=h/\b<=k/\k<=max b m.length/\∀j,j<k->(decide (b<=j)&&(aQ (aA m j) bs !=0))=false) (fun k=>m.length-k) b rfl ⟨rfl,by omega,by omega,fun j g=>by rw[decide_eq_false (by omega)];rfl⟩ ?_;rintro k h' ⟨rfl,l,t,g⟩;refine al (fun e=>?_) (fun e=>?_)
 ·rw[iC,Vh (fun j f=>g j (by omega))];exact⟨rfl,rfl⟩
 ·have d:k<m.length:=by omega
  have s:m[k].length=n:=u _ (qh _);refine p.get k rfl d fun r q=>?_;refine q.bx bs rfl (by omega) _ rfl ?_;have c:aQ (aA m k) bs=m[k][bs]'(by omega):=by rw[bv d,Rq]
  refine ca (fun e2=>?_) (fun e2=>?_)
  ·have o:(decide (b<=k)&&(aQ (aA m k) bs !=0))=true:=by
    rw[decide_eq_true l,c];simp;exact fun h0=>e2 (by rw[h0];rfl)
   rw[iC,Vi d g o];exact⟨rfl,rfl⟩
  ·refine⟨k+1,by rw[ak _];rfl,⟨rfl,by omega,by omega,fun j f=>?_⟩,by omega⟩;rcases zk.1 f with h1|rfl
   ·exact g j h1
   ·rw[c,DD.1 e2];simp
theorem Wa(f:Addr)(c:UInt8)(a:Sl)(l:Row)(h:Heap)(j:gN h f)(i:Rd h a 1 aE l)(z:l.length<=2^30):ac xx 356 #[xo (some f),xl xu c.toNat,a] h fun v h'=>∃r:Sl,v=r/\Sp h h' [ar 5 r 1 aE (scaleB c l)]:=by
 refine Pa (some f) _ a ?_;unfold Iz;have w:=i.len;refine(Pb f h).mono ?_;rintro v m ⟨rfl,rfl⟩;refine⟨some f,rfl,?_⟩;refine(Sp.refl m).make ae aE ga (by decide) 0 rfl rfl l.length l.length (by omega) (by omega) (ql _) (by omega) fun s t p u n=>?_;refine aw (fun k:Nat=>(k:Int)) (fun k h'=>k<=l.length/\Sp m h' [ar 5 s 1 aE ((l.take k).map (Gf.mul c)++qg (l.length-k) 0)]) (fun k=>l.length-k) 0 rfl ⟨by omega,by simpa using n⟩ ?_;rintro k h3 ⟨x,b⟩;refine al (fun e=>?_) (fun e=>?_)
 ·have d:k<l.length:=by omega
  refine(Seq.up i b.ai).bx k rfl d _ rfl ?_;refine(JB f c l[k] h3 (j.ai b.ai j.lt)).mono ?_;rintro v q ⟨rfl,rfl⟩;refine⟨_,rfl,?_⟩;refine b.set ae 0 rfl (fun _=>rfl) rfl k rfl (by simp;omega) _ rfl rfl rfl fun y o=>?_;refine⟨k+1,by rw[ak _];rfl,⟨by omega,?_⟩,by omega⟩;have g:((l.take k).map (Gf.mul c)).length=k:=by simp;omega
  have e2:((l.take k).map (Gf.mul c)++qg (l.length-k) 0).set k (Gf.mul c l[k])=(l.take (k+1)).map (Gf.mul c)++qg (l.length-(k+1)) 0:=by
   rw[zc _ _ (by omega),g,zi,show l.length-k=l.length-(k+1)+1 by omega,yO,zC,aI _ _ d,qT,qp];rfl
  rw[<-e2];exact o
 ·have:k=l.length:=by omega
  subst this;refine⟨s,rfl,?_⟩;rw[qi (ql _),zi,List.replicate_zero,qS]at b;exact b
theorem xL{c:UInt8}{a t:Row}(e:a.length=t.length){k:Nat}(b:k<t.length):(zo (fun x y=>y^^^Gf.mul c x) (a.take k) (t.take k)++t.drop k).set k (t[k]^^^Gf.mul c (a[k]'(by omega)))=zo (fun x y=>y^^^Gf.mul c x) (a.take (k+1)) (t.take (k+1))++t.drop (k+1):=by
 have d:(zo (fun x y=>y^^^Gf.mul c x) (a.take k) (t.take k)).length=k:=by simp;omega
 rw[zc _ _ (by omega),d,zi,qV b,zC,aI _ _ b,aI _ _ (show k<a.length by omega),List.zipWith_append (by simp;omega)];simp
theorem aaT(f:Addr)(c:UInt8)(a to:Sl)(d lt:Row)(h:Heap)(G:gN h f)(u:¬to.on f.block)(z:Seq h (fun b=>¬to.on b) a 1 aE d)(t:Own h 5 to 1 aE lt)(m:d.length=lt.length)(J:d.length<=2^30):
  ac xx 358 #[xo (some f),xl xu c.toNat,a,to] h fun v h'=>v=.tuple #[]/\Own h' 5 to 1 aE (dl c d lt)/\aU (fun b=>¬to.on b) h h':=by
 refine SV (some f) _ a to ?_;unfold NY;have H:=z.len;have E:=t.len;refine cI (fun e=>?_) (fun _=>?_)
 ·have D:c=0:=DD.1 e;subst D;have:dl 0 d lt=lt:=by
   apply List.ext_getElem (by rw[ci m]);intro i A B;simp[dl,Gf.zero_mul]
  exact⟨rfl,by rw[this];exact t,aU.refl _ _⟩
 ·refine aw (fun k:Nat=>(k:Int)) (fun k h'=>k<=d.length/\Own h' 5 to 1 aE (zo (fun x y=>y^^^Gf.mul c x) (d.take k) (lt.take k)++lt.drop k)/\aU (fun b=>¬to.on b) h h') (fun k=>d.length-k) 0 rfl ⟨by omega,by simpa using t,aU.refl _ _⟩ ?_;rintro k A ⟨I,g,j⟩;refine al (fun e=>?_) (fun e=>?_)
  ·have r:k<d.length:=by omega
   have s:k<lt.length:=by omega
   have o:(zo (fun x y=>y^^^Gf.mul c x) (d.take k) (lt.take k)).length=k:=by simp;omega
   have F:(zo (fun x y=>y^^^Gf.mul c x) (d.take k) (lt.take k)++lt.drop k).length=lt.length:=by rw[qx,o,za];omega
   refine(z.ai j).bx k rfl r _ rfl ?_;have n:(zo (fun x y=>y^^^Gf.mul c x) (d.take k) (lt.take k)++lt.drop k)[k]'(by omega)=lt[k]:=by
    rw[List.getElem_append_right (by omega)];simp[o]
   refine(g.seq (p:=fun _=>True) (fun _=>rfl) fun _ _=>trivial).Ps k rfl (by omega) _ rfl fun ax l=>?_;rw[n]at l⊢;refine(JB f c d[k] A (G.ai j u)).mono ?_;rintro v B ⟨rfl,rfl⟩;refine⟨_,rfl,⟨l,trivial⟩,?_⟩;dsimp only;rw[pC];refine g.set ae (fun _=>rfl) rfl k rfl (by omega) _ rfl rfl rfl fun h3 w q _=>⟨trivial,?_⟩
   refine⟨k+1,by rw[ak _];rfl,⟨by omega,?_,j.trans q⟩,by omega⟩;rw[<-xL m s];exact w
  ·have:k=d.length:=by omega
   subst this;rw[qi (ql _),qi (by omega),zb (by omega),qS]at g;exact⟨rfl,g,j⟩
abbrev ne(a:Sl)(rs:List Sl)(m:aS):List HP:=ar 35 a 1 bJ rs::bR 5 1 aE rs m
theorem oz{a:Sl}{rs:List Sl}{m:aS}(b:rs.length=m.length)(i:Nat)(c:i<m.length):(ne a rs m)[i+1]?=some (ar 5 (rs[i]'(by omega)) 1 aE m[i]):=by
 rw[qy];exact jX b i c
theorem rC{h h':Heap}{a:Addr}{v:Value}(c:cellOf h a=some v)(d:aU (fun b=>b<h.size) h h'):cellOf h' a=some v:=d.cell (tO c) c
theorem Yx{B:aB}{h0:Heap}{f:Addr}(P:gN h0 f)(I:B f.block){a:Sl}{n c bs:Nat}{rs:List Sl}{m:aS}(U:rs.length=m.length)(Y:bg n m)(hc:bs<n)(hn:n<=64)(V:c<m.length)(hs:m.length<=2^30)
  {h:Heap} (H:aa B h0 h (ne a rs m)) {K:Heap->Prop} (hk:∀h',aa B h0 h' (ne a rs (eP c bs m m.length))->K h'):
 aJ (σ:=Int) (fun d T i=>
 Br (decide (d<((a.len:Nat):Int)))
 (Br (d !=(c:Int))
 (∃x:Addr,(a.ptr=some x/\0<=d/\d<((a.len:Nat):Int))/\
 ∃g:Sl,cellOf i (x.add (d.toNat*1))=some (xn g.ptr g.len g.cap)/\
 ∃z:Addr,(g.ptr=some z/\0<=(bs:Int)/\(bs:Int)<((g.len:Nat):Int))/\
 ∃F:Int,cellOf i (z.add ((bs:Int).toNat*1))=some (xl xu F)/\
 ∃a25:Addr,(a.ptr=some a25/\0<=(c:Int)/\(c:Int)<((a.len:Nat):Int))/\
 ∃j:Sl,cellOf i (a25.add ((c:Int).toNat*1))=some (xn j.ptr j.len j.cap)/\
 ∃A:Addr,(a.ptr=some A/\0<=d/\d<((a.len:Nat):Int))/\
 ∃l:Sl,cellOf i (A.add (d.toNat*1))=some (xn l.ptr l.len l.cap)/\
 af xx 358 #[(xo (some f)),(xl xu F),(xn j.ptr j.len j.cap),(xn l.ptr l.len l.cap)] (.many []) i fun _ G=>
 (av.ok [(x.add (d.toNat*1),(xn g.ptr g.len g.cap))] G)/\
 T (qc xt (d+(1:Int))) G)
 (T (qc xt (d+(1:Int))) i))
 (K i)) (0:Int) h:=by
 have ad:a.len=m.length:=by rw[(H.own 0 rfl).len,U]
 refine aw (fun k:Nat=>(k:Int)) (fun k h'=>k<=m.length/\aa B h0 h' (ne a rs (eP c bs m k))) (fun k=>m.length-k) 0 rfl ⟨by omega,by rw[Xr];exact H⟩ ?_;rintro k Z ⟨ab,o⟩;have L:=nK c bs m k;have t:rs.length=(eP c bs m k).length:=by rw[L];exact U
 refine al (fun e=>?_) (fun e=>?_)
 ·have r:k<m.length:=by omega
  refine ca (fun e2=>?_) (fun e2=>?_)
  ·have s:k≠c:=fun hh=>e2 (by rw[hh]);have R:aA (eP c bs m k) k=aA m k:=by rw[rg r,if_neg (by omega)]
   have N:aA (eP c bs m k) c=aA m c:=by rw[rg V,if_neg (by omega)]
   have e4:(eP c bs m k)[k]'(by omega)=aA m k:=by rw[<-R,bv]
   have e5:(eP c bs m k)[c]'(by omega)=aA m c:=by rw[<-N,bv]
   have u:=oz (a:=a) t k (by omega);have X:=oz (a:=a) t c (by omega);rw[e4]at u;rw[e5]at X;have lk:=cj Y r;have lt:=cj Y V;have q:=o.off (k+1) 0 (by omega) u rfl;have w:=q.1.seq (fun _=>rfl) q.2;refine w.oJ k rfl (by omega) fun a1 J S=>?_;have O:=o.seq (k+1) u (fun _=>rfl);refine O.bx bs rfl (by omega) _ rfl ?_;refine w.oJ c rfl (by omega) fun _ _ _=>?_;refine w.oJ k rfl (by omega) fun _ _ _=>?_;have E:(sV (rs[c]'(by omega)) 1 aE (aA m c)).p Z (fun b=>¬(rs[k]'(by omega)).on b):=by
    have:=o.off (k+1) (c+1) (by omega) u X;exact(this.1.seq (fun _=>rfl) this.2).mono fun b hb=>hb.2
   refine(aaT f _ _ _ (aA m c) (aA m k) Z (P.ai o.ai I) (o.base (k+1) u I) E (o.own (k+1) u) (by omega) (by omega)).mono ?_;rintro v h2 ⟨rfl,Q,D⟩;have W:=o.nU (k+1) u D Q;have M:=D.cell S.2 J;refine⟨(),rfl,⟨M,trivial⟩,?_⟩;refine⟨k+1,by rw[ak _];rfl,⟨by omega,?_⟩,by omega⟩;rw[Xs r s];show aa B h0 h2 (ar 35 a 1 bJ rs::bR 5 1 aE rs ((eP c bs m k).set k _));rw[<-PT t k (by omega)];have y:(aA m k)[bs]'(by omega)=aQ (aA m k) bs:=(Rq).symm;rw[y]at W;exact W
  ·have s:k=c:=by omega
   subst s;exact⟨k+1,by rw[ak _];rfl,⟨by omega,by rw[Xt];exact o⟩,by omega⟩
 ·have:k=m.length:=by omega
  subst this;exact hk _ o
theorem Rr{rs:List Sl}{m:aS}(a:rs.length=m.length)(i j:Nat)(b:i<m.length)(c:j<m.length):
  ((bR 5 1 aE rs m).set i (ar 5 (rs[j]'(by omega)) 1 aE m[j])).set j (ar 5 (rs[i]'(by omega)) 1 aE m[i])=bR 5 1 aE ((rs.set i (rs[j]'(by omega))).set j (rs[i]'(by omega))) (iN m i j):=by
 rw[lC a,lC (by simpa using a),iN,bv b,bv c]
theorem Bw{B:aB}{h0:Heap}{f:Addr}(O:gN h0 f)(P:B f.block){a:Sl}{n cP:Nat}{rs:List Sl}{m:aS}(hl:rs.length=m.length)(hm:bg n m)(hc:cP<=n)(hn:n<=64)(hs:m.length<=2^30)
  {h:Heap} (H:aa B h0 h (ne a rs m)):ac xx 280 #[xo (some f),a,xl xt cP] h fun v h'=>
   ∃S:List Sl,v=xl xt (bG m cP).1/\S.length=m.length/\aa B h0 h' (ne a S (bG m cP).2):=by
 have am:a.len=m.length:=by rw[(H.own 0 rfl).len,hl]
 refine MX (some f) a cP ?_;unfold Gh;refine aw (fun t:List Sl×Nat=>(((bG m t.2).1:Int),(t.2:Int))) (fun t h'=>t.2<=cP/\t.1.length=m.length/\aa B h0 h' (ne a t.1 (bG m t.2).2)) (fun t=>cP-t.2) (rs,0) rfl ⟨by simp,hl,H⟩ ?_;rintro⟨c,bs⟩ h1 ⟨hk,Q,I⟩;dsimp only at*;have u:=il hm bs;have F:=CQ m bs;obtain⟨st,w⟩:∃st,st=bG m bs:=⟨_,rfl⟩
 rw[<-w]at u F I⊢;obtain⟨b,l⟩:=st;dsimp only at u F I⊢;have s:c.length=l.length:=by omega
 have g:bG m (bs+1)=iO (b,l) bs:=by rw[bG,<-w]
 refine al (fun e=>?_) (fun e=>?_)
 ·have M:bs<n:=by omega
  have L:gx h1 a 1 aE l:=I.PU s (fun _=>rfl);refine(Tn a l n b bs h1 L u.1 M (by omega)).mono ?_;rintro v h2 ⟨rfl,rfl⟩;refine⟨_,rfl,?_⟩;dsimp only;cases hb:iC l b bs with
  |none=>
   refine al (fun _=>?_) (fun e2=>absurd (by decide) e2);refine⟨(c,bs+1),?_,⟨by dsimp only;omega,Q,?_⟩,by dsimp only;omega⟩
   ·dsimp only;rw[g,iO,hb,ak _];rfl
   ·dsimp only;rw[g,iO,hb];exact I
  |some i=>
   have hh:=rN hb;refine al (fun e2=>absurd (show((i:Nat):Int)<0 from e2) (by omega)) (fun _=>?_);dsimp only;have G:b<l.length:=by omega
   have hi:=hh.2.1;have N:=I.seq 0 rfl (fun _=>rfl);refine be ?_;refine N.oJ i rfl (by omega) fun _ _ _=>?_;refine N.oJ b rfl (by omega) fun _ _ _=>?_;refine I.set ae 0 rfl (fun _=>rfl) rfl b rfl (by omega) (c[i]'(by omega)) rfl rfl rfl fun h3 H3=>⟨trivial,?_⟩
   refine H3.set ae 0 rfl (fun _=>rfl) rfl i rfl (by simp;omega) (c[b]'(by omega)) rfl rfl rfl fun V H4=>⟨trivial,?_⟩
   have o:aa B h0 V (ne a ((c.set b (c[i]'(by omega))).set i (c[b]'(by omega))) (iN l b i)):=by
    have:=H4.abU (b+1) (i+1) (A:=ar 5 (c[b]'(by omega)) 1 aE l[b]) (A2:=ar 5 (c[i]'(by omega)) 1 aE l[i]) (jX s b G) (jX s i hi);show aa B h0 V (ar 35 a 1 bJ _::bR 5 1 aE _ _);rw[<-Rr s b i G hi];exact this
   obtain⟨k,y⟩:∃k,k=(c.set b (c[i]'(by omega))).set i (c[b]'(by omega)):=⟨_,rfl⟩
   rw[<-y]at o;have ad:k.length=l.length:=by rw[y];simp;omega
   obtain⟨d,x⟩:∃d,d=iN l b i:=⟨_,rfl⟩
   have D:bg n d:=by rw[x];exact Fg u.1 G hi
   have T:d.length=l.length:=by rw[x];exact kK _ _ _
   rw[<-x]at o;have q:k.length=d.length:=by omega
   have j:b<d.length:=by omega
   refine be ?_;have gt:=oz (a:=a) q b j;have lt:d[b].length=n:=D _ (qh _);have R:=o.seq 0 rfl (fun _=>rfl);refine R.oJ b rfl (by omega) fun ab E _=>?_;have z:=o.seq (b+1) gt (fun _=>rfl);refine z.bx bs rfl (by omega) _ rfl ?_;refine R.oJ b rfl (by omega) fun ah K _=>?_;have U:gN V f:=O.ai o.ai P;refine(aaP f _ V U).mono ?_;rintro v h5 ⟨rfl,rfl⟩;refine⟨_,rfl,⟨K,E,trivial⟩,?_⟩;refine(Wa f _ _ _ h5 U z (by omega)).mono ?_;rintro v h6 ⟨r,rfl,R6⟩;refine⟨r,rfl,⟨rC E R6.ai,trivial⟩,?_⟩;have H6:=o.comp R6;dsimp only;refine H6.set ae 0 rfl (fun _=>rfl) rfl b rfl (by omega) r rfl rfl rfl fun Z H7=>⟨trivial,?_⟩
   have X:d[b]=aA d b:=(bv j).symm;have W:(d[b])[bs]'(by omega)=aQ (aA d b) bs:=by rw[Rq (by rw[bv j];omega)];simp only[bv j]
   have Y:aa B h0 Z (ne a (k.set b r) (ju b bs d)):=by
    have h8:aa B h0 Z ((ar 35 a 1 bJ (k.set b r)::bR 5 1 aE k d)++[ar 5 r 1 aE (scaleB (Gf.inv ((d[b])[bs]'(by omega))) d[b])]):=H7;have h9:=h8.adZ (b+1) (by simp[Sx q];omega);rw[W,X]at h9;show aa B h0 Z (ar 35 a 1 bJ _::bR 5 1 aE _ (d.set b _));rw[<-lC q];exact h9
   have J:(ju b bs d).length=d.length:=nJ _ _ _;refine Yx O P (by simp;omega) (Aq D j) M hn (by omega) (by omega) Y fun h8 H8=>?_;have p:iO (b,l) bs=(b+1,eP b bs (ju b bs d) l.length):=by
    rw[iO];dsimp only;rw[hb,x]
   refine⟨(k.set b r,bs+1),?_,⟨by dsimp only;omega,by simp;omega,?_⟩,by dsimp only;omega⟩
   ·dsimp only;rw[g,p,ak _,ak _];rfl
   ·dsimp only;rw[g,p];rw[J,T]at H8;exact H8
 ·have:bs=cP:=by omega
  subst this;exact⟨c,by rw[<-w],Q,by rw[<-w];exact I⟩
theorem To(f:Addr)(a:Sl)(m:aS)(n:Nat)(h:Heap)(y:gN h f)(u:gx h a 1 aE m)(i:bg n m)(k:n<=64)(q:m.length<=2^30):
  ac xx 378 #[xo (some f),a] h fun v h'=>∃(r:Sl) (rs:List Sl),v=r/\r.len=cR m/\rs.length=m.length/\r.len<=m.length/\Sp h h' (ne ⟨r.ptr,m.length,r.cap⟩ rs (bG m (fP m)).2):=by
 refine Nd (some f) a ?_;unfold Gq;refine(my a m n h u i k q).mono ?_;rintro v D ⟨rfl,rfl⟩;refine⟨_,rfl,bh (fun e=>by cases e) fun _=>?_⟩;refine(xK a m n D u i k q).mono ?_;rintro v A ⟨r,rs,rfl,s,z⟩;refine⟨r,rfl,(tg f A).mono ?_⟩;rintro v h3 ⟨rfl,rfl⟩;refine⟨some f,rfl,(rz r m h3 (z.PU s (fun _=>rfl))).mono ?_⟩;rintro v E ⟨rfl,rfl⟩;have B:fP m<=n:=by
  cases m with
  |nil=>simp[fP,aA]
  |cons x t=>rw[fP,bv (by simp)];exact Nat.le_of_eq (i _ (by simp))
 refine⟨_,rfl,(Bw y y.lt s i B k q z).mono ?_⟩;rintro v F ⟨o,rfl,g,j⟩;have d:=CQ m (fP m);rw[(il i _).2]at d;have w:=(j.own 0 rfl).cap;have b:=(j.own 0 rfl).len;refine⟨_,rfl,⟨Int.natCast_nonneg _,Int.ofNat_le.2 (show(bG m (fP m)).1<=r.cap by omega)⟩,⟨r.ptr,(bG m (fP m)).1,r.cap⟩,o,by simp,rfl,g,d,?_⟩;have:r=⟨r.ptr,m.length,r.cap⟩:=by
  obtain⟨p,l,c⟩:=r;simp only at b⊢;rw[<-g,<-b]
 rw[<-this];exact j
theorem Yy(f:Addr)(a:Sl)(m:aS)(n:Nat)(h:Heap)(j:gN h f)(d:gx h a 1 aE m)(g:bg n m)(b:n<=64)(i:m.length<=2^30):
  ac xx 303 #[xo (some f),a] h fun v h'=>v=xl xt (cR m)/\Sp h h' []:=by
 refine QZ (some f) a ?_;unfold Le;refine(To f a m n h j d g b i).mono ?_;rintro v k ⟨r,rs,rfl,c,_,_,e⟩;exact⟨r,rfl,by rw[c],.zip e.ai⟩
theorem JC(p:Pm)(seed:Int)(ids:Sl)(l:aC)(h:Heap)(n:Rd h ids 1 aD l)(q:l.length<=2^29):ac xx 231 #[kh p,xl xv seed,ids] h fun v h'=>v=xl xt (Kq p seed l)/\Sp h h' []:=by
 refine KU p seed ids ?_;unfold Es;refine(Sp.refl h).boxed fun a t g=>?_;refine⟨p,(g.box 0 rfl).aL _ rfl,(un t).mono ?_⟩;rintro v j ⟨f,rfl,s⟩;have e:=g.comp s;have d:=e.box 0 rfl;refine⟨some f,rfl,⟨d.cell0 rfl,d.cell rfl,d.cell rfl,trivial⟩,?_⟩;refine(ID p seed ids l j (Seq.up n e.ai) (by omega)).mono ?_;rintro v h3 ⟨r,rfl,k⟩;have b:=e.comp k;refine⟨r,rfl,trivial,?_⟩;have m:=aak p seed l;have c:(cg p).toNat<=64:=by
  unfold cg;split
  ·rename_i o;have:=(bM p).1 o;omega
  ·omega
 refine(Yy f r _ _ h3 (b.box 1 rfl) (b.Ie 2 rfl) (me p seed l) c (by omega)).mono ?_;rintro v u ⟨rfl,i⟩;exact⟨_,rfl,trivial,rfl,.zip (b.comp i).ai⟩
theorem Of(p:Pm)(seed:Int)(ids:Sl)(l:aC)(h:Heap)(n:Rd h ids 1 aD l)(d:l.length<=2^29):ac xx 145 #[kh p,xl xv seed,ids] h fun v h'=>v=xq (fT p seed l)/\Sp h h' []:=by
 refine KJ p seed ids ?_;unfold Eh;refine(Sp.refl h).boxed fun a q i=>?_;refine⟨p,(i.box 0 rfl).aL _ rfl,(ey p q).mono ?_⟩;rintro v k ⟨rfl,o⟩;have c:=i.comp o;refine⟨_,rfl,trivial,bw (fun e=>?_) (fun e=>⟨trivial,trivial,by rw[fT,e];rfl,.zip c.ai⟩)⟩;have g:=c.box 0 rfl;refine⟨p,g.aL _ rfl,p,g.aL _ rfl,(JC p seed ids l k (Seq.up n c.ai) d).mono ?_⟩;rintro v h3 ⟨rfl,m⟩;have f:=c.comp m;have b:=f.box 0 rfl;refine⟨_,rfl,⟨b.cell0 rfl,b.cell rfl,b.cell rfl,trivial⟩,(ly p h3).mono ?_⟩;rintro v r ⟨rfl,j⟩;exact⟨_,rfl,trivial,by rw[fT,e];rfl,.zip (f.comp j).ai⟩
theorem Lu(p:Pm)(seed:Int)(h:Heap):ac xx 210 #[kh p,xl xv seed] h fun v h'=>v=xq (fT p seed (eV p))/\Sp h h' []:=by
 refine Jk p seed ?_;unfold Cb;refine(Sp.refl h).boxed fun a j e=>?_;have d:=e.box 0 rfl;refine⟨p,d.aL _ rfl,p,d.aL _ rfl,(Lt p j).mono ?_⟩;rintro v f ⟨r,rfl,g⟩;have c:=e.comp g;have b:=c.box 0 rfl;refine⟨r,rfl,⟨b.cell0 rfl,b.cell rfl,b.cell rfl,trivial⟩,(Of p seed r _ f (c.seq 1 rfl (fun _=>rfl)) (by rw[gy];omega)).mono ?_⟩;rintro v h3 ⟨rfl,i⟩;exact⟨_,rfl,trivial,rfl,.zip (c.comp i).ai⟩
theorem aaU(p:Pm)(o b:Int)(h:Heap):ac xx 123 #[kh p,xl xt o,xl xt b] h fun v h'=>
  v=.tuple #[xl xt (((pB p o b).getD 0:Nat):Int),xq (pB p o b).isSome]/\Sp h h' []:=by
 refine OR p o b ?_;unfold Iq;refine(Sp.refl h).boxed fun w B r=>?_;have r:Sp h B [aq w 24 [xl xt p.1,xl xt p.2.1,xl xt p.2.2]]:=r;refine aw (fun i:Nat=>(i:Int)) (fun i h'=>i<=16/\(∀k,k<i->Lr p o b k=false)/\Sp h h' [aq w 24 [xl xt p.1,xl xt p.2.1,xl xt p.2.2]]) (fun i=>16-i) 0 rfl ⟨by omega,fun k f=>absurd f (Nat.not_lt_zero k),r⟩ ?_;rintro i y ⟨E,c,q⟩;refine al (fun e=>?_) fun e=>?_
 ·have z:i<16:=by omega
  have a:=q.box 0 rfl;refine⟨p,a.aL _ rfl,(ul _ _ _ y).mono ?_⟩;rintro _ h3 ⟨rfl,rfl⟩;refine⟨_,rfl,⟨a.cell0 rfl,a.cell rfl,a.cell rfl,trivial⟩,(Lu p _ h3).mono ?_⟩;rintro _ D ⟨rfl,x⟩;have t:=q.up x.ai;refine⟨_,rfl,trivial,bw (fun g=>?_) fun g=>?_⟩
  ·have n:pB p o b=some i:=by
    unfold pB;refine wM.2 ⟨g,qE i,(qE (15-i)).map (·+(i+1)),?_,fun k f=>?_⟩
    ·apply zD;intro j;by_cases u:j<i
     ·rw[qm (by simpa using u),zw (by omega),zw u]
     ·rw[qj (by simp;omega),zx];by_cases s:j=i
      ·subst s;rw[zi,zw (by omega)];rfl
      ·obtain⟨d,A⟩:∃d,j=i+(d+1):=⟨j-i-1,by omega⟩
       subst A;rw[zq,qy,qO];by_cases l:d<15-i
       ·rw[zw l,zw (by omega)];simp;omega
       ·rw[zg (by simp;omega),zg (by simp;omega)];rfl
    ·rw[c k (qD.1 f)];rfl
   rw[n];exact⟨rfl,.zip t.ai⟩
  ·refine⟨i+1,by rw[ak _];rfl,⟨by omega,fun k f=>?_,t⟩,by omega⟩;by_cases m:k<i
   ·exact c k m
   ·have:k=i:=by omega
    subst this;exact g
 ·have n:pB p o b=none:=by
   unfold pB;rw[List.find?_eq_none];intro k f;rw[c k (by have:=qD.1 f;omega)];simp
  rw[n];exact⟨rfl,.zip q.ai⟩
theorem Wb(p:Pm)(o:Int)(n:Nat)(h:Heap)(F:n<=2^30):ac xx 55 #[kh p,xl xt o,xl xt n] h fun v h'=>
  (cG p o n=none->v=.tuple #[xn none 0 0,xq false]/\Sp h h' [])/\
  (∀l,cG p o n=some l->∃r:Sl,v=.tuple #[r,xq true]/\Sp h h' [ar 3 r 1 aD l]):=by
 refine Ky p o n ?_;unfold Ea;refine(Sp.refl h).boxed fun w E m=>?_;have m:Sp h E [ar 3 ⟨none,0,0⟩ 1 aD [],aq w 24 [xl xt p.1,xl xt p.2.1,xl xt p.2.2]]:=(m.nil 3 1 aD).bK [1,0];refine aw (fun t:Sl×Nat×aC=>(t.1,(t.2.1:Int))) (fun t h'=>t.2.1<=n/\cG p o t.2.1=some t.2.2/\Sp h h' [ar 3 t.1 1 aD t.2.2,aq w 24 [xl xt p.1,xl xt p.2.1,xl xt p.2.2]]) (fun t=>n-t.2.1) (⟨none,0,0⟩,0,[]) rfl ⟨by simp,rfl,m⟩ ?_;rintro⟨s,i,l⟩ x ⟨H,c,k⟩;dsimp only at*;have B:=iq c;have b:∀j,pB p o i=none->j<=n-(i+1)->cG p o (i+1+j)=none:=fun j d=>by
  induction j with
  |zero=>intro _;show cG p o (i+1)=none;unfold cG;rw[c,d];rfl
  |succ j ih=>intro I;show cG p o ((i+1+j)+1)=none;unfold cG;rw[ih (by omega)];rfl
 refine al (fun e=>?_) fun e=>?_
 ·have y:i<n:=by omega
  refine⟨p,(k.box 1 rfl).aL _ rfl,(aaU p o i x).mono ?_⟩;rintro _ h3 ⟨rfl,z⟩;have q:=k.up z.ai;refine⟨(_,_),rfl,bh (fun g=>?_) fun g=>?_⟩
  ·have a:cG p o n=none:=by
    have:=b (n-(i+1)) (Option.isSome_eq_false_iff.1 g|>Option.isNone_iff_eq_none.1) (ql _);rw[show i+1+(n-(i+1))=n by omega]at this;exact this
   rw[a];exact⟨fun _=>⟨rfl,.zip q.ai⟩,fun l h=>by cases h⟩
  ·obtain⟨t,u⟩:∃t,pB p o i=some t:=vq.1 g;rw[u];refine q.push ae 0 rfl lL rfl (by decide) (fun _=>rfl) jf (t:Int) rfl (by decide) (by omega) fun D G A=>?_;refine⟨(D,i+1,l++[(t:Int)]),by dsimp only;rw[ak _];rfl,⟨by dsimp only;omega,?_,A⟩,by dsimp only;omega⟩;show cG p o (i+1)=_;unfold cG;rw[c,u];rfl
 ·have f:i=n:=by omega
  subst f;rw[c];exact⟨fun h=>(by cases h),fun J h=>(by injection h with h;subst h;exact⟨s,rfl,k.bK [0]⟩)⟩
end Go.Qw
