/- Lemmas for the proof of the law; no condition. -/
import Derived.Test.YtcaonbjibhlkcaaGreatDoorKC
set_option linter.unusedVariables false
set_option maxHeartbeats 4000000
set_option linter.unusedSimpArgs false
open Go.Proofs.Tryz renaming prog -> xv
open Go.Value renaming agg -> xp, bool -> xo, int -> xk, pointer -> xm, slice -> xl, string -> xn
open Go.IntKind renaming bits -> qk, i64 -> xq, signed -> yC, u32 -> xt, u64 -> xu, u8 -> xr, wrap -> qc
open Nat renaming add_zero -> yf, le_refl -> ql, le_trans -> zk, lt_succ_iff_lt_or_eq -> zb, lt_trichotomy -> yq, mul_le_mul -> zJ, mul_le_mul_right -> zp, sub_self -> zd, succ_mul -> zK
open List renaming all_eq_true -> qN, any_eq_false -> wV, any_eq_true -> yb, append_assoc -> qo, append_nil -> qU, drop -> xj, drop_drop -> zB, drop_eq_getElem_cons -> qS, drop_of_length_le -> zh, eq_replicate_iff -> vH, filterMap_append -> vE, filter_append -> zg, filter_cons -> zo, filter_eq_self -> we, find?_eq_none -> w6, findIdx_lt_length -> yx, flatMap_append -> ze, flatMap_cons -> zq, getElem?_append_left -> qm, getElem?_append_right -> qj, getElem?_drop -> wq, getElem?_eq_getElem -> qd, getElem?_eq_some_iff -> qn, getElem?_map -> qO, getElem?_set_self -> zC, getElem?_zip_eq_some -> vn, getElem_append_left -> yl, getElem_append_right -> wo, getElem_drop -> wm, getElem_map -> yc, getElem_mem -> qh, getElem_of_mem -> qE, getElem_range -> vx, getElem_take -> wU, getElem_zip -> yX, length_append -> qw, length_cons -> zi, length_drop -> qZ, length_filter_le -> zc, length_map -> qD, length_take -> qM, map_append -> qW, map_cons -> wj, map_map -> w5, mem_append -> qF, mem_append_left -> yN, mem_append_right -> wW, mem_cons -> q8, mem_cons_of_mem -> qY, mem_cons_self -> q0, mem_filter -> qJ, mem_flatMap -> zQ, mem_iff_getElem? -> yF, mem_map -> qC, mem_of_mem_take -> zP, mem_range -> qI, mem_replicate -> w8, mem_singleton -> qG, not_of_lt_findIdx -> vC, pairwise_iff_getElem -> zj, range -> qy, range_succ -> zt, replicate -> qg, replicate_zero -> vo, set_cons_zero -> zu, set_eq_take_append_cons_drop -> wy, set_set -> vi, take_append_drop -> qx, take_length -> qX, take_of_length_le -> qi, zipWith -> zm
open Option renaming map_some -> qR, some -> zO
open Int renaming emod_lt_of_pos -> w7, fdiv -> qQ, natCast_mul -> zW, natCast_nonneg -> wu, ofNat_inj -> vb, ofNat_le -> yQ, ofNat_lt -> vX, tdiv -> z8, toNat_natCast -> qp
open Prod renaming ext -> yD, fst -> qK, snd -> zE
open Bool renaming and_eq_true -> qA, eq_iff_iff -> y9, true_and -> zU
open BitVec renaming ofInt -> qu
open UInt8 renaming ofNat -> zH, toNat_lt -> zN
set_option maxRecDepth 100000
namespace Go.Qw
open Go Go.Vc Go.Proofs Wl
section
variable {B:aA} {h0 h:Heap} {As:List HP}
theorem GK{α:Type}{g:α->Bool}{l:List α}{i:Nat}(h:i<l.length)(a:∀j (b:j<l.length),j<i->g l[j]=false)(c:g l[i]=true):l.findIdx g=i:=by
 rw[List.findIdx_eq h];exact⟨c,fun j b=>a j (by omega) b⟩
theorem TO(s:Sl)(l:aB)(b:FuncId)(a:Array Value)(g:Int->Bool)(Q:Heap->Prop)(w:C.fns[b]?=some true)(u:St B h0 As Q)(p:∀x h',Q h'->ab xv b ([Value.int .i64 x]++a.toList).toArray h' fun v q=>v=xo (g x)/\Sp h' q [])(H:aa B h0 h (an 3 s 1 aC l::As))(D:l.length<=2^20):
  ab xv 172 #[s,.func (.func b) #[] a] h fun v h'=>v=xk xq (if l.findIdx g<l.length then(l.findIdx g:Int)else-1)/\aa B h0 h' (an 3 s 1 aC l::As):=by
 refine gM s (b,#[],a) ?_;unfold fN;have A:=(H.own 0 rfl).len;refine au (fun i:Nat=>(i:Int)) (fun i h'=>aa B h0 h' (an 3 s 1 aC l::As)/\i<=l.length/\∀j (f:j<l.length),j<i->g l[j]=false) (fun i=>l.length-i) 0 rfl ⟨H,by omega,fun j _ f=>by omega⟩ ?_;rintro i y ⟨m,E,c⟩;refine ai (fun e=>?_) (fun e=>?_)
 ·have d:i<l.length:=by omega
  refine(m.seq 0 rfl fun _=>rfl).bt i rfl d _ rfl ?_;refine eS w ?_;refine(p l[i] y (u.at [_] m)).mono ?_;rintro _ F ⟨rfl,t⟩;refine⟨_,rfl,bF (fun o=>?_) (fun o=>?_)⟩
  ·rw[GK d c o,if_pos d];exact⟨rfl,m.up t.ag⟩
  ·refine⟨i+1,by rw[aj _];rfl,⟨m.up t.ag,by omega,fun j f r=>?_⟩,by omega⟩;rcases zb.1 r with h3|rfl
   ·exact c j f h3
   ·exact o
 ·have k:¬l.findIdx g<l.length:=by
   rw[yx];rintro⟨x,z,n⟩;obtain⟨j,f,rfl⟩:=qE z;rw[c j f (by omega)]at n;cases n
  rw[if_neg k];exact⟨rfl,m⟩
theorem WT{α:Type}{g:α->Bool}{l:List α}{j:Nat}(h:j<l.findIdx g)(a:j<l.length):g l[j]=false:=by
 simpa using vC h
structure lM {α:Type} (g:α->Bool) (l l':List α) (i j:Nat):Prop where
 len:l'.length=l.length
 le:i<=j
 pre:l'.take i=(l.take j).filter fun x=>!g x
 post:l'.drop j=l.drop j
theorem lM.start{α:Type}{g:α->Bool}{l:List α}{i:Nat}(h:i<l.length)(b:l.findIdx g=i):lM g l l i (i+1):=by
 refine⟨rfl,by omega,?_,rfl⟩;have a:g l[i]=true:=by
  have:=List.findIdx_getElem (xs:=l) (p:=g) (w:=by rw[b];exact h);simpa[b]using this
 rw[aH _ _ h,zg,zo,a];have:(l.take i).filter (fun x=>!g x)=l.take i:=we.2 fun x c=>by
  obtain⟨j,d,rfl⟩:=qE c;simp only[qM]at d;rw[wU,WT (g:=g) (l:=l) (j:=j) (by omega) (by omega)];rfl
 rw[this];simp
theorem lM.at_{α:Type}{g:α->Bool}{l b:List α}{i j:Nat}(x:lM g l b i j)(a:j<l.length):b[j]'(by rw[x.len];exact a)=l[j]:=by
 have h:=congrArg (fun m=>m[0]?) x.post;simp only[wq,yf]at h;rw[qd a,qd (by rw[x.len];exact a)]at h;exact zO.inj h
theorem lM.keep{α:Type}{g:α->Bool}{l a:List α}{i j:Nat}(x:lM g l a i j)(d:j<l.length)(c:g l[j]=false):lM g l (a.set i l[j]) (i+1) (j+1):=by
 have b:=x.len;have e:=x.le;refine⟨by simp[b],by omega,?_,?_⟩
 ·rw[aH _ _ (by simp;omega),List.getElem_set_self,List.take_set_of_le (ql _),x.pre,aH _ _ d,zg,zo,c];rfl
 ·rw[List.drop_set_of_lt (by omega)];have f:=congrArg (xj 1) x.post;simpa[zB]using f
theorem lM.skip{α:Type}{g:α->Bool}{l a:List α}{i j:Nat}(x:lM g l a i j)(d:j<l.length)(c:g l[j]=true):lM g l a i (j+1):=by
 have b:=x.len;have e:=x.le;refine⟨b,by omega,?_,?_⟩
 ·rw[x.pre,aH _ _ d,zg,zo,c];simp
 ·have f:=congrArg (xj 1) x.post;simpa[zB]using f
theorem filter_all{α:Type}{g:α->Bool}{l:List α}(h:¬l.findIdx g<l.length):l.filter (fun x=>!g x)=l:=we.2 fun x a=>by
 have:g x=false:=by
  cases hh:g x with
  |false=>rfl
  |true=>exact absurd (yx.2 ⟨x,a,hh⟩) h
 rw[this];rfl
theorem RT(s:Sl)(l:aB)(b:FuncId)(a:Array Value)(g:Int->Bool)(Q:Heap->Prop)(z:C.fns[b]?=some true)(y:St B h0 As Q)(f:∀x h',Q h'->ab xv b ([Value.int .i64 x]++a.toList).toArray h' fun v u=>v=xo (g x)/\Sp h' u [])(H:aa B h0 h (an 3 s 1 aC l::As))(F:l.length<=2^20):
  ab xv 101 #[s,.func (.func b) #[] a] h fun v h'=>∃r:Sl,v=r/\aa B h0 h' (an 3 r 1 aC (l.filter fun x=>!g x)::As):=by
 refine pG s (b,#[],a) ?_;unfold kD;refine(TO s l b a g Q z y f H F).mono ?_;rintro _ O ⟨rfl,A⟩;have L:=(H.own 0 rfl).len;have E:=(H.own 0 rfl).cap;refine⟨_,rfl,cz (fun e=>?_) (fun e=>?_)⟩
 ·have q:¬l.findIdx g<l.length:=fun m=>by rw[if_pos m]at e;omega
  exact⟨s,rfl,by rw[filter_all q];exact A⟩
 ·have c:l.findIdx g<l.length:=by
   by_cases m:l.findIdx g<l.length
   ·exact m
   ·rw[if_neg m]at e;exact absurd rfl e
  rw[if_pos c];refine au (fun t:Nat×Nat×aB=>((t.1:Int),(t.2.1:Int))) (fun t h'=>lM g l t.2.2 t.1 t.2.1/\t.2.1<=l.length/\aa B h0 h' (an 3 s 1 aC t.2.2::As)) (fun t=>l.length-t.2.1) (l.findIdx g,l.findIdx g+1,l) (by rw[aj _];rfl) ⟨lM.start c rfl,by dsimp only;omega,A⟩ ?_;rintro⟨i,j,w⟩ K ⟨M2,N,n⟩;dsimp only at*;have D:=M2.len;have I:=M2.le;refine ai (fun G=>?_) (fun G=>?_)
  ·have d:j<l.length:=by omega
   refine(n.seq 0 rfl fun _=>rfl).bt j rfl (by omega) _ rfl ?_;rw[M2.at_ d];refine eS z ?_;refine(f l[j] K (y.at [_] n)).mono ?_;rintro _ h3 ⟨rfl,M⟩;have k:=n.up M.ag;refine⟨_,rfl,be (fun p=>?_) (fun p=>?_)⟩
   ·refine k.set ac 0 rfl (fun _=>rfl) rfl i rfl (by omega) l[j] rfl rfl rfl fun P J=>?_;exact⟨(i+1,j+1,w.set i l[j]),by dsimp only;rw[aj _,aj _];rfl,⟨M2.keep d (by simpa using p),by dsimp only;omega,J⟩,by dsimp only;omega⟩
   ·exact⟨(i,j+1,w),by dsimp only;rw[aj _];rfl,⟨M2.skip d (by simpa using p),by dsimp only;omega,k⟩,by dsimp only;omega⟩
  ·have o:j=l.length:=by omega
   subst o;refine⟨⟨by omega,by omega⟩,?_⟩;rw[qp];refine n.rR ac 0 rfl lE (fun _=>rfl) rfl (by decide) i (by omega) fun h3 k=>⟨⟨by omega,by omega⟩,⟨s.ptr,i,s.cap⟩,rfl,?_⟩
   have:=M2.pre;rw[qX]at this;rw[<-this];exact k
end
section
variable {B:aA} {h0 h:Heap} {As:List HP}
abbrev afl:bN C.toBq 185 269 2 [xk xq 0,xk xq 0] 16:=⟨_,_,rfl,rfl,rfl,rfl,rfl,rfl⟩
theorem TP(s:Sl)(l:List (Int×Int))(b:FuncId)(a:Array Value)(g:Int×Int->Bool)(Q:Heap->Prop)(w:C.fns[b]?=some true)(u:St B h0 As Q)(p:∀x h',Q h'->ab xv b ([Value.agg #[xk xq x.1,xk xq x.2]]++a.toList).toArray h' fun v q=>v=xo (g x)/\Sp h' q [])(H:aa B h0 h (an 269 s 2 fe l::As))(D:l.length<=2^20):
  ab xv 276 #[s,.func (.func b) #[] a] h fun v h'=>v=xk xq (if l.findIdx g<l.length then(l.findIdx g:Int)else-1)/\aa B h0 h' (an 269 s 2 fe l::As):=by
 refine lC s (b,#[],a) ?_;unfold ie;have A:=(H.own 0 rfl).len;refine au (fun i:Nat=>(i:Int)) (fun i h'=>aa B h0 h' (an 269 s 2 fe l::As)/\i<=l.length/\∀j (f:j<l.length),j<i->g l[j]=false) (fun i=>l.length-i) 0 rfl ⟨H,by omega,fun j _ f=>by omega⟩ ?_;rintro i y ⟨m,E,c⟩;refine ai (fun e=>?_) (fun e=>?_)
 ·have d:i<l.length:=by omega
  refine(m.seq 0 rfl fun _=>rfl).ea (g:=fe) i rfl d l[i] rfl ?_;refine eS w ?_;refine(p l[i] y (u.at [_] m)).mono ?_;rintro _ F ⟨rfl,t⟩;refine⟨_,rfl,bF (fun o=>?_) (fun o=>?_)⟩
  ·rw[GK d c o,if_pos d];exact⟨rfl,m.up t.ag⟩
  ·refine⟨i+1,by rw[aj _];rfl,⟨m.up t.ag,by omega,fun j f r=>?_⟩,by omega⟩;rcases zb.1 r with h3|rfl
   ·exact c j f h3
   ·exact o
 ·have k:¬l.findIdx g<l.length:=by
   rw[yx];rintro⟨x,z,n⟩;obtain⟨j,f,rfl⟩:=qE z;rw[c j f (by omega)]at n;cases n
  rw[if_neg k];exact⟨rfl,m⟩
theorem RU(s:Sl)(l:List (Int×Int))(b:FuncId)(a:Array Value)(g:Int×Int->Bool)(Q:Heap->Prop)(A:C.fns[b]?=some true)(z:St B h0 As Q)(m:∀x h',Q h'->ab xv b ([Value.agg #[xk xq x.1,xk xq x.2]]++a.toList).toArray h' fun v u=>v=xo (g x)/\Sp h' u [])(H:aa B h0 h (an 269 s 2 fe l::As))(J:l.length<=2^20):
  ab xv 199 #[s,.func (.func b) #[] a] h fun v h'=>∃r:Sl,v=r/\aa B h0 h' (an 269 r 2 fe (l.filter fun x=>!g x)::As):=by
 refine lh s (b,#[],a) ?_;unfold gS;refine(TP s l b a g Q A z m H J).mono ?_;rintro _ P ⟨rfl,D⟩;have N:=(H.own 0 rfl).len;have I:=(H.own 0 rfl).cap;refine⟨_,rfl,cz (fun e=>?_) (fun e=>?_)⟩
 ·have q:¬l.findIdx g<l.length:=fun n=>by rw[if_pos n]at e;omega
  exact⟨s,rfl,by rw[filter_all q];exact D⟩
 ·have c:l.findIdx g<l.length:=by
   by_cases n:l.findIdx g<l.length
   ·exact n
   ·rw[if_neg n]at e;exact absurd rfl e
  rw[if_pos c];refine au (fun t:Nat×Nat×List (Int×Int)=>((t.1:Int),(t.2.1:Int))) (fun t h'=>lM g l t.2.2 t.1 t.2.1/\t.2.1<=l.length/\aa B h0 h' (an 269 s 2 fe t.2.2::As)) (fun t=>l.length-t.2.1) (l.findIdx g,l.findIdx g+1,l) (by rw[aj _];rfl) ⟨lM.start c rfl,by dsimp only;omega,D⟩ ?_;rintro⟨i,j,y⟩ R ⟨M2,O,w⟩;dsimp only at*;have G:=M2.len;have M:=M2.le;refine ai (fun L=>?_) (fun L=>?_)
  ·have f:j<l.length:=by omega
   refine(w.seq 0 rfl fun _=>rfl).ea (g:=fe) j rfl (by omega) l[j] (by rw[M2.at_ f]) ?_;refine w.alloc ac rfl fun a5 h3 d=>?_;have d:=d.bH;refine d.storeAll ac 0 rfl rfl (fe l[j]) rfl rfl rfl rfl fun F k=>?_;refine⟨l[j],(k.box 0 rfl).aF _ rfl,?_⟩;refine eS A ?_;refine(m l[j] F (z.at [_,_] k)).mono ?_;rintro _ S ⟨rfl,K⟩;have E:=k.up K.ag;have d:=E.JD;refine⟨_,rfl,be (fun p=>?_) (fun p=>?_)⟩
   ·refine⟨l[j],(E.box 0 rfl).aF _ rfl,?_⟩;refine d.set ac 0 rfl (fun _=>rfl) rfl i rfl (by omega) l[j] rfl rfl rfl fun F k=>?_;exact⟨(i+1,j+1,y.set i l[j]),by dsimp only;rw[aj _,aj _];rfl,⟨M2.keep f (by simpa using p),by dsimp only;omega,k⟩,by dsimp only;omega⟩
   ·exact⟨(i,j+1,y),by dsimp only;rw[aj _];rfl,⟨M2.skip f (by simpa using p),by dsimp only;omega,d⟩,by dsimp only;omega⟩
  ·have o:j=l.length:=by omega
   subst o;refine⟨⟨by omega,by omega⟩,?_⟩;rw[qp];refine w.rR ac 0 rfl afl (fun _=>rfl) rfl (by decide) i (by omega) fun h3 d=>⟨⟨by omega,by omega⟩,⟨s.ptr,i,s.cap⟩,rfl,?_⟩
   have:=M2.pre;rw[qX]at this;rw[<-this];exact d
end
section
variable {B:aA} {h0 h:Heap} {As:List HP}
def uj(pool:List (Sl×aB)):HP:=⟨fun h q=>∀x∈pool,Seq h q x.1 1 aC x.2,fun a c x b=>(a x b).ag c,fun a d x b=>(a x b).mono d⟩
theorem aa.ZI(H:aa B h0 h As):aa B h0 h (As++[uj []]):=H.comp (.one (aR.refl _ _) fun x a=>by cases a)
theorem aa.acO(H:aa B h0 h As)(i j:Nat)(b:i≠j){pool:List (Sl×aB)}{r:Sl}{l:aB}(f:As[i]?=some (uj pool))(d:As[j]?=some (nL r 1 aC l)):aa B h0 h ((As.set i (uj (pool++[(r,l)]))).set j emp):=
 H.merge i j b f d fun k g _ e c x a=>by
  rcases qF.1 a with a|a
  ·exact(e x a).mono fun _ h=>.inl h
  ·rw[qG]at a;subst a;exact Seq.mono c fun _ h=>.inr h
abbrev afm:bN C.toBq 252 38 1 [xl none 0 0] 24:=⟨_,_,rfl,rfl,rfl,rfl,rfl,rfl⟩
theorem TQ(s c:Addr)(r:Sl)(x:Int×Int)(h':Heap)(e:cellOf h' c=some (xm (some s))/\cellOf h' (s.add 5)=some (xl r.ptr r.len r.cap)):
  ab xv 200 ([Value.agg #[xk xq x.1,xk xq x.2]]++(#[Value.pointer (some c)]:Array Value).toList).toArray h' fun v d=>v=xo (decide (x.1>=(r.len:Int)))/\Sp h' d []:=by
 refine tZ x c ?_;unfold mR;refine(Sp.refl h').boxed fun a f b=>?_;exact⟨x.1,(b.box 0 rfl).cell0 rfl,some s,mH e.1 b.ag,s,rfl,r,mH e.2 b.ag,rfl,.zip b.ag⟩
theorem TR(s b:Addr)(r:Sl)(x:Int)(h':Heap)(c:cellOf h' b=some (xm (some s))/\cellOf h' (s.add 5)=some (xl r.ptr r.len r.cap)):
  ab xv 201 ([Value.int .i64 x]++(#[Value.pointer (some b)]:Array Value).toList).toArray h' fun v a=>v=xo (decide (x>=(r.len:Int)))/\Sp h' a []:=by
 refine ua x b ?_;unfold mS;exact⟨some s,c.1,s,rfl,r,c.2,rfl,Sp.refl _⟩
theorem TS(s f:Addr)(p:Int×Int×Int)(v r m d j G J kn:Sl)(A:List (Sl×Sl))(R:List eI)(known:List Bool)(n:Nat)(H:aa B h0 h (SA s (fP f p v r m d j G J)::As))(hS:St B h0 As fun h=>mY iK 2 qv h r A R/\Rd h kn 1 ee known)(a0:known.length=n)(hn:n<=64)(a9:R.length<=2^19)(ax:∀e∈R,e.1.length<=2^20)
  (z:iZ (n:Int) (rowsOf R known n)=true) (am:(dg n (rowsOf R known n)).steps.length<=2^20/\(eW (dg n (rowsOf R known n)).used (rowsOf R known n).length).length<=2^20):
  ab xv 123 #[xm (some s),kn] h fun v' h'=>v'=.tuple #[]/\∃L D K:Sl,aa B h0 h' (SA s (fP f p v r L D K G J)::an 269 L 2 fe ((dg n (rowsOf R known n)).steps.filter fun x=>decide (x.1<R.length))::an 3 D 1 aC (dg n (rowsOf R known n)).dead::an 3 K 1 aC ((eW (dg n (rowsOf R known n)).used (rowsOf R known n).length).filter fun x=>decide (x<R.length))::As):=by
 refine xQ (some s) kn ?_;unfold ou;refine H.boxed fun q F S=>?_;have S:=S.bH;refine⟨some s,(S.box 0 rfl).cell0 rfl,s,rfl,r,(S.box 1 rfl).cell rfl,?_⟩;have G1:=hS.at [_,_] S;have W:=G1.1.1.len;have N:=G1.1.2.1;have U:=G1.2.len;let pre:List HP:=[ar q 184 [xm (some s)],SA s (fP f p v r m d j G J)]
 have H2:aa B h0 F (an 38 ⟨none,0,0⟩ 1 bD []::uj []::ar q 184 [xm (some s)]::SA s (fP f p v r m d j G J)::As):=((aa.ZI S).bH.nil 38 1 bD).bH;refine au (fun t:Nat×Sl=>(t.2,(t.1:Int))) (fun t h'=>t.1<=R.length/\aa B h0 h' (an 38 t.2 1 bD ((A.take t.1).map qK)::uj []::ar q 184 [xm (some s)]::SA s (fP f p v r m d j G J)::As)) (fun t=>R.length-t.1) (0,⟨none,0,0⟩) rfl ⟨by simp,by simpa using H2⟩ ?_;rintro⟨i,o⟩ h3 ⟨hi,H3⟩;dsimp only at*;refine ai (fun e=>?_) (fun e=>?_)
 ·have a3:i<R.length:=by omega
  have G3:=hS.at [_,_,_,_] H3;refine G3.1.1.ea (g:=qv) i rfl (by omega) (A[i]'(by omega)) rfl ?_;refine H3.alloc ac rfl fun a8 h4 u=>?_;have u:=u.bH;refine u.storeAll ac 0 rfl rfl (qv (A[i]'(by omega))) rfl rfl rfl rfl fun h5 I=>?_;refine⟨(A[i]'(by omega)).1,(I.box 0 rfl).cell0 rfl,?_⟩;refine I.JD.push ac 0 rfl afm rfl (by decide) (fun _=>rfl) kY (A[i]'(by omega)).1 rfl (by decide) (by simp;omega) fun o' h6 Y=>?_;refine⟨(i+1,o'),by dsimp only;rw[aj _];rfl,⟨by dsimp only;omega,?_⟩,by dsimp only;omega⟩;dsimp only;rw[aH A i,qW];exact Y
 have M:i=R.length:=by omega
 subst M;rw[qi (by omega)]at H3;refine au (fun t:Nat×Sl×List Sl=>(t.2.1,(t.1:Int))) (fun t h'=>t.1<=n/\t.2.2.length=(gv known t.1).length/\aa B h0 h' (an 38 t.2.1 1 bD (A.map qK++t.2.2)::uj (t.2.2.zip (gv known t.1))::ar q 184 [xm (some s)]::SA s (fP f p v r m d j G J)::As)) (fun t=>n-t.1) (0,o,[]) rfl ⟨by omega,rfl,by simpa using H3⟩ ?_;rintro⟨i,o,V⟩ h4 ⟨hi,E,u⟩;dsimp only at*;have a5:=DO known i;refine ai (fun e=>?_) (fun e=>?_)
 ·have a3:i<n:=by omega
  have G4:=hS.at [_,_,_,_] u;refine G4.2.bt i rfl (by omega) _ rfl ?_;have ay:known.getD i false=known[i]'(by omega):=by rw[List.getD_eq_getElem?_getD,qd (by omega)];rfl
  have P:=LL known i;rw[ay]at P;refine bF (fun e2=>?_) (fun e2=>?_)
  ·rw[e2,if_pos rfl]at P;refine u.lit ac aC lE rfl [(i:Int)] rfl (show 1*1<=2^20 by decide) rfl fun b h5 I=>?_;have I:=I.bH.freeze 0 rfl fun _=>rfl;have Y:=aa.acO I 2 0 (by decide) rfl rfl;refine Y.push ac 1 rfl afm rfl (by decide) (fun _=>rfl) kY b rfl (by decide) (by simp;omega) fun o' h7 X=>?_;refine⟨(i+1,o',V++[b]),by dsimp only;rw[aj _];rfl,⟨by dsimp only;omega,by dsimp only;rw[P];simp[E],?_⟩,by dsimp only;omega⟩;dsimp only;rw[P,List.zip_append E,<-qo];exact X.JD
  ·rw[e2,if_neg (by simp),qU]at P;exact⟨(i+1,o,V),by dsimp only;rw[aj _];rfl,⟨by dsimp only;omega,by dsimp only;rw[P];exact E,by dsimp only;rw[P];exact u⟩,by dsimp only;omega⟩
 have M:i=n:=by omega
 subst M;have G4:=hS.at [_,_,_,_] u;have Q:(rowsOf R known i).length=R.length+V.length:=by rw[rowsOf,qw,qD,E]
 have ad:gc h4 (fun b=>b<h4.size) o 1 aC (rowsOf R known i) (A.map qK++V):=by
  refine⟨u.seq 0 rfl fun _=>rfl,by rw[Q];simp;omega,fun k a l F T=>?_⟩;by_cases hk:k<R.length
  ·rw[qm (by simp;omega),qO,qd (by omega)]at F;rw[rowsOf,qm (by simp;omega),qO,qd hk]at T;simp only[qR,zO.injEq]at F T;subst F;subst T;exact(Fix.row G4.1 hk).1
  ·rw[qj (by simp;omega)]at F;rw[rowsOf,qj (by simp;omega)]at T;simp only[qD,N]at F T;have hm:(a,l)∈V.zip (gv known i):=by
    refine yF.2 ⟨k-R.length,?_⟩;rw[vn];exact⟨F,T⟩
   exact(u.at 1 rfl) _ hm
 rw[U,a0];refine(ZA (i:Int) o (rowsOf R known i) _ h4 ad (by omega) ?_).mono ?_
 ·intro x hx;rcases qF.1 hx with hx|hx
  ·obtain⟨e,he,rfl⟩:=qC.1 hx;have:=ax e he;omega
  ·obtain⟨c,hc,rfl⟩:=qC.1 hx;simp
 rintro _ h5 ⟨L,D,K,rfl,R5⟩;have a4:Dz (i:Int) (rowsOf R known i)=((dg i (rowsOf R known i)).steps,(dg i (rowsOf R known i)).dead,eW (dg i (rowsOf R known i)).used (rowsOf R known i).length):=by
  unfold Dz;rw[if_pos z,qp]
 rw[a4]at R5;dsimp only at R5;have I:=((u.JD).JD).comp R5;refine⟨((L,D,K),_),rfl,?_⟩;have Y:aa B h0 h5 (an 269 L 2 fe (dg i (rowsOf R known i)).steps::an 3 D 1 aC (dg i (rowsOf R known i)).dead::an 3 K 1 aC (eW (dg i (rowsOf R known i)).used (rowsOf R known i).length)::ar q 184 [xm (some s)]::SA s (fP f p v r m d j G J)::As):=aa.front (As:=ar q 184 [xm (some s)]::SA s (fP f p v r m d j G J)::As) (Bs:=[_,_,_]) I;refine Y.alloc ac rfl fun a7 h7 X=>?_;have X:=X.bH;refine X.storeAll ac 0 rfl rfl [L,D,K] rfl rfl rfl rfl fun h8 H8=>?_;refine⟨L,(H8.box 0 rfl).cell0 rfl,?_⟩;refine(RU L _ 200 #[xm (some q)] (fun x=>decide (x.1>=(r.len:Int))) (fun h'=>cellOf h' q=some (xm (some s))/\cellOf h' (s.add 5)=some (xl r.ptr r.len r.cap)) rfl (St.mk' fun h' H'=>⟨(H'.box 3 rfl).cell0 rfl,(H'.box 4 rfl).cell rfl⟩) (fun x h' hq=>TQ s q r x h' hq) H8.uC am.1).mono ?_;rintro _ h9 ⟨w,rfl,H9⟩;refine⟨w,rfl,?_⟩;refine H9.ja ac 1 rfl rfl [w] rfl rfl rfl (by simp) fun bb Z=>?_;refine⟨K,(Z.box 1 rfl).cell rfl,?_⟩;have a2:=Z.bo 6 [3,0,1,2,4,5];refine(RT K _ 201 #[xm (some q)] (fun x=>decide (x>=(r.len:Int))) (fun h'=>cellOf h' q=some (xm (some s))/\cellOf h' (s.add 5)=some (xl r.ptr r.len r.cap)) rfl (St.mk' fun h' H'=>⟨(H'.box 3 rfl).cell0 rfl,(H'.box 4 rfl).cell rfl⟩) (fun x h' hq=>TR s q r x h' hq) a2 am.2).mono ?_;rintro _ bk ⟨y,rfl,ap⟩;refine⟨y,rfl,?_⟩;refine ap.store ac 2 rfl rfl 2 [y] rfl rfl rfl (by simp) fun bd O=>?_;refine⟨some s,(O.box 4 rfl).cell0 rfl,(w,D,y),(O.box 2 rfl).aF _ rfl,s,rfl,?_⟩;refine O.store ac 5 rfl rfl 6 [w,D,y] rfl rfl rfl (by simp[fP]) fun a6 ah=>⟨rfl,w,D,y,?_⟩
 have e1:(fun x:Int×Int=>!decide (x.1>=(r.len:Int)))=fun x=>decide (x.1<(R.length:Int)):=by
  funext x;rw[W,N];by_cases h:x.1<(R.length:Int)
  ·rw[decide_eq_true h,decide_eq_false (by omega)];rfl
  ·rw[decide_eq_false h,decide_eq_true (by omega)];rfl
 have e2:(fun x:Int=>!decide (x>=(r.len:Int)))=fun x=>decide (x<(R.length:Int)):=by
  funext x;rw[W,N];by_cases h:x<(R.length:Int)
  ·rw[decide_eq_true h,decide_eq_false (by omega)];rfl
  ·rw[decide_eq_false h,decide_eq_true (by omega)];rfl
 rw[e1,e2]at ah;exact ah.bo 6 [5,1,3,0]
end
theorem NY{l:Row}:¬lI l<l.length↔l=aM l.length:=by
 rw[lI,yx];constructor
 ·intro h;refine vH.2 ⟨rfl,fun x b=>?_⟩;by_cases a:x=0
  ·exact a
  ·exact absurd ⟨x,b,by simpa using a⟩ h
 ·rintro h ⟨x,b,a⟩;have:=(vH.1 h).2 x b;subst this;simp at a
theorem TT(f:Addr)(a b:Sl)(A B:aQ)(m n w:Nat)(h:Heap)(hf:gp h f)(ha:fo h a 1 az A)(hb:fo h b 1 az B)(hl:A.length=m)(bb:B.length=m)(u:aY n A)(hB:aY w B)(br:1<=n)(hn:n+w<=64)(hm:m<=2^20)(hr:bT A=n):
  ab xv 19 #[xm (some f),a,b] h fun v h'=>(kd n A B/\∃r:Sl,v=.tuple #[r,xk xq 0]/\Sp h h' [dJ 23 r 1 az (fC n A B)])∨(¬kd n A B/\v=.tuple #[xl none 0 0,xk xq 10]/\Sp h h' []):=by
 have bk:n<=m:=by have:=oY A u;omega
 have d:B.length=A.length:=by omega
 have a5:=ha.len;have S:=hb.len;refine DQ (some f) a b ?_;unfold AQ;refine aT ?_;refine(mi a A n h ha u).mono ?_;rintro v J ⟨rfl,rfl⟩;refine⟨_,rfl,be (fun e=>by cases e) fun _=>?_⟩;refine(mi b B w J hb hB).mono ?_;rintro v K ⟨rfl,rfl⟩;refine⟨_,rfl,be (fun e=>by cases e) fun _=>?_⟩;refine bV (fun e=>absurd (by rw[a5,S,d]) e) fun _=>?_;refine cz (fun e=>by omega) fun _=>?_;refine(rm a A K ha).mono ?_;rintro v h3 ⟨rfl,rfl⟩;have a4:dn A=n:=by
  cases A with
  |nil=>simp at hl;omega
  |cons x t=>rw[dn,bj (by simp)];exact u _ (by simp)
 refine⟨_,rfl,?_⟩;rw[a4];refine(xx a A n h3 ha u).mono ?_;rintro v h4 ⟨r,rs,rfl,b4,R4⟩;refine⟨r,rfl,?_⟩;have a8:=(R4.own 0 rfl).len;refine au (fun t:Nat×List Sl=>(t.1:Int)) (fun t h'=>t.1<=m/\t.2.length=m/\Sp h3 h' (jU r t.2 (oG A B t.1))) (fun t=>m-t.1) (0,rs) rfl ⟨by simp,by dsimp only;omega,by simpa[oG,dU]using R4⟩ ?_;rintro⟨k,rs⟩ h5 ⟨hk,b0,O⟩;dsimp only at*;have L:rs.length=(oG A B k).length:=by rw[sw d];omega
 refine ai (fun e=>?_) (fun e=>?_)
 ·have N:k<m:=by omega
  have Z:k<A.length:=by omega
  have F:=ky (a:=r) L k (by rw[sw d];omega);have eg:(oG A B k)[k]'(by rw[sw d];omega)=A[k]:=by
   have:=YQ d Z;rw[qd (by rw[sw d];omega)]at this;exact zO.inj this
  rw[eg]at F;have l1:A[k].length=n:=u _ (qh _);have l2:(B[k]'(by omega)).length=w:=hB _ (qh _);refine(O.seq 0 rfl (fun _=>rfl)).jN k rfl (by omega) fun a1 G U=>?_;refine(hb.up O.ag).get k rfl (by omega) fun rb ax=>?_;refine O.append ac (k+1) F fi Rn rfl (by decide) (fun _=>rfl) ax fT (by omega) fun s6 h6 H6=>⟨trivial,?_⟩
  refine H6.set ac 0 rfl (fun _=>rfl) rfl k rfl (by omega) s6 rfl rfl rfl fun h7 H7=>⟨trivial,?_⟩
  refine⟨(k+1,rs.set k s6),by dsimp only;rw[aj _];rfl,⟨by dsimp only;omega,by dsimp only;simp;omega,?_⟩,by dsimp only;omega⟩;dsimp only;rw[<-YR d Z];show Sp h3 h7 (an 23 r 1 bD (rs.set k s6)::bz 5 1 az (rs.set k s6) ((oG A B k).set k _));rw[<-iN L];exact H7
 ·have a3:k=A.length:=by omega
  subst a3;rw[YS d]at O;refine(sX f h5).mono ?_;rintro v h6 ⟨rfl,rfl⟩;refine⟨some f,rfl,?_⟩;have H:=lU d.symm u hB;have bd:=lr d.symm;refine(Bd (m:=dU A B) (n:=n+w) hf hf.lt (by omega) H (by omega) (by omega) (by omega) O).mono ?_;rintro v h7 ⟨l,rfl,a9,q⟩;rw[IF d.symm u,hr];refine⟨_,rfl,?_⟩;dsimp only;have R:=(q.own 0 rfl).cap;have bq:=(q.own 0 rfl).len;have K:=fK H n;refine ai (fun e=>absurd (show(n:Int)<(n:Int)from e) (by omega)) fun _=>?_;refine⟨⟨wu _,yQ.2 (show n<=r.len by omega)⟩,?_⟩;obtain⟨M,T⟩:∃M,M=(bu (dU A B) n).2:=⟨_,rfl⟩
  have b2:M.length=A.length:=by have:=K.2;rw[<-T]at this;omega
  have Y:aY (n+w) M:=by rw[T];exact K.1
  rw[<-T]at q;have Q:l.length=M.length:=by omega
  have p:kd n A B↔∀i (I:i<M.length),n<=i->M[i]=aM M[i].length:=by
   unfold kd;rw[<-T];constructor
   ·intro X i I hn;refine X _ (yF.2 ⟨i-n,?_⟩);rw[wq,show n+(i-n)=i by omega,qd I]
   ·intro X x hx;obtain⟨i,I,rfl⟩:=qE hx;simp only[qZ]at I;rw[wm];exact X _ (by omega) (by omega)
  refine au (fun i:Nat=>(i:Int)) (fun i h'=>h'=h7/\n+i<=M.length/\∀j (hj:j<M.length),n<=j->j<n+i->M[j]=aM M[j].length) (fun i=>M.length-(n+i)) 0 rfl ⟨rfl,by omega,fun j _ _ _=>by omega⟩ ?_;rintro i h8 ⟨rfl,I,o⟩;rw[qp];refine ai (fun e=>?_) (fun e=>?_)
  ·have g:n+i<M.length:=by omega
   have F:=ky (a:=r) Q (n+i) (by omega);have ah:(M[n+i]'g).length=n+w:=Y _ (qh _);have y:=q.seq (n+i+1) F (fun _=>rfl);have E:=(q.seq 0 rfl (fun _=>rfl)).drop n R;have ay:(l.drop n)[i]'(by simp;omega)=l[n+i]'(by omega):=wm;refine E.jN i rfl (by simp;omega) fun a1 G U=>?_;rw[ay];refine(Zm _ _ h8 y (by omega)).mono ?_;rintro _ h9 ⟨rfl,rfl⟩;refine⟨_,rfl,ai (fun W=>?_) (fun W=>?_)⟩
   ·right;have D:lI (M[n+i]'g)<(M[n+i]'g).length:=by
     by_cases hh:lI (M[n+i]'g)<(M[n+i]'g).length
     ·exact hh
     ·rw[if_neg hh]at W;exact absurd W (by decide)
    refine⟨fun X=>?_,rfl,.zip q.ag⟩;have:=p.1 X (n+i) g (by omega);exact absurd D (NY.2 this)
   ·have D:¬lI (M[n+i]'g)<(M[n+i]'g).length:=fun hh=>by
     rw[if_pos hh]at W;exact W (wu _)
    refine⟨i+1,by rw[aj _];rfl,⟨rfl,by omega,fun j hj J K=>?_⟩,by omega⟩;by_cases ap:j=n+i
    ·subst ap;exact NY.1 D
    ·exact o j hj J (by omega)
  refine⟨⟨wu _,yQ.2 (show n<=r.cap by omega)⟩,?_⟩;have z:kd n A B:=p.2 fun j hj J=>o j hj J (by omega);have e1:fC n A B=(M.take n).map (xj n):=by rw[fC,<-T]
  have ad:∀k (hk:k<n),(fC n A B).take (k+1)=(fC n A B).take k++[(M[k]'(by omega)).drop n]:=fun k hk=>by
   rw[e1,aH _ _ (by simp;omega),yc,wU]
  have bl:(fC n A B).length=n:=(uq d.symm u hB hr).1;refine au (fun t:Sl×Nat=>(t.1,(t.2:Int))) (fun t h'=>t.2<=n/\Sp h8 h' [dJ 23 t.1 1 az ((fC n A B).take t.2)]) (fun t=>n-t.2) (⟨none,0,0⟩,0) rfl ⟨by simp,(Sp.refl h8).CB 23 1 az⟩ ?_;rintro⟨s,k⟩ h9 ⟨b3,H9⟩;dsimp only at*;have HH:=q.comp H9;refine ai (fun e=>?_) (fun e=>?_)
  ·have N:k<n:=by omega
   have F:=ky (a:=r) Q k (by omega);have P:(jU r l M++[dJ 23 s 1 az ((fC n A B).take k)])[k+1]?=some (an 5 (l[k]'(by omega)) 1 az (M[k]'(by omega))):=by
    rw[qm (by simp[bz];omega)];exact F
   have ah:(M[k]'(by omega)).length=n+w:=Y _ (qh _);have V:=HH.own (k+1) P;have y:=HH.seq (k+1) P (fun _=>rfl);have a7:=V.len;have E:=(HH.seq 0 rfl (fun _=>rfl)).take n (by omega);have a6:(l.take n)[k]'(by simp;omega)=l[k]'(by omega):=wU;refine E.jN k rfl (by simp;omega) fun a1 G U=>?_;rw[a6];refine⟨⟨wu _,yQ.2 (by omega)⟩,?_⟩;refine(fm _ _ h9 (y.drop n V.cap) (by simp;omega)).mono ?_;rintro v b1 ⟨c,rfl,am⟩;have a0:=(H9.comp am).freeze 1 rfl (fun _=>rfl);refine⟨c,rfl,?_⟩;refine a0.nX ac 0 1 (by decide) rfl rfl fa (by simp;omega) fun s' bs a2=>?_;refine⟨(s',k+1),by dsimp only;rw[aj _];rfl,⟨by dsimp only;omega,?_⟩,by dsimp only;omega⟩;dsimp only;rw[ad k N];exact a2.del 1
  ·rw[qi (by omega)]at H9;refine .inl ⟨z,s,rfl,?_⟩;have:=(Sp.zip q.ag).comp H9;exact this
section
variable {B:aA} {h0 h:Heap} {As:List HP}
theorem RV:∀{l:aB},l.Pairwise (·<·)->fc l=true
 |[],_=>rfl
 |[_],_=>rfl
 |a::b::r,h=>by
  rw[List.pairwise_cons]at h;rw[fc,RV h.2,decide_eq_true (h.1 b (by simp))];rfl
theorem WU{l:aB}(h:l.Pairwise (·<·)):Mx l:=fun i a=>zj.1 h i (i+1) (by omega) a (by omega)
theorem WV{n:Nat}{R:List eI}{known:List Bool}(h:n<=64)(b:∀e∈R,(∀c∈e.1,0<=c/\c<(n:Int))/\e.1.Pairwise (·<·)):iZ (n:Int) (rowsOf R known n)=true:=by
 unfold iZ;rw[qA];refine⟨by simp;omega,qN.2 fun r a=>?_⟩;unfold fd;rw[qA];rcases qF.1 a with a|a
 ·obtain⟨e,f,rfl⟩:=qC.1 a;exact⟨qN.2 fun c g=>by simpa using(b e f).1 c g,RV (b e f).2⟩
 ·obtain⟨d,rfl,i,_⟩:=Aq a;exact⟨by simp;omega,rfl⟩
theorem aa.afn{e:Nat}{v:Sl}{vs:aQ}(H:aa B h0 h As)(i:Nat)(r:As[i]?=some (dK e v 1 bD (sK 1 az) vs)):
  ∃f:List Sl,aa B h0 h (As.set i (an e v 1 bD f)++[ke (f.zip vs)])/\f.length=vs.length/\∀(c:Nat) (n:c<f.length) (o:c<vs.length),f[c].ptr.isNone=vs[c].isEmpty:=by
 have g:i<As.length:=(qn.1 r).1;have A:aa B h0 h (As.set i (HP.ex fun f:List Sl=>((an e v 1 bD f).sep (ke (f.zip vs))).and (f.length=vs.length/\∀(c:Nat) (n:c<f.length) (o:c<vs.length),f[c].ptr.isNone=vs[c].isEmpty))):=
  H.ga i r fun q ⟨rs,D,a,b,c,d,e⟩=>⟨rs,⟨fun b=>v.on b,D,fun x j=>(b x j).2,fun x j=>(b x j).1,c,⟨a,fun x j=>j⟩,fun x j=>by
   obtain⟨k,w,l⟩:=qE j;simp only[List.length_zip]at w;rw[yX]at l;subst l;exact(e k _ _ (qd (by omega)) (qd (by omega))).1⟩,d,fun k n o=>by
   obtain⟨x,y⟩:=e k _ _ (qd n) (qd o);cases hv:vs[k]with
   |nil=>rw[y hv];rfl
   |cons z t=>
    have:=x.isSome (by rw[hv];simp);rw[this];rfl⟩
 obtain⟨f,m⟩:=A.Vb i (zC g);rw[vi]at m;have u:=m.fact i (zC g);have p:=m.abY i (zC g);rw[vi]at p;have s:=p.split i (zC g);rw[vi]at s;exact⟨f,s,u⟩
def yv(x:Int×Sl):aV:=[xk xq x.1,x.2]
theorem afo:∀x,∀c∈yv x,c.oneCell'=true:=fun x c a=>by
 simp only[yv,q8,List.not_mem_nil,or_false]at a;rcases a with rfl|rfl<;>rfl
def DA:iO (Int×Sl) (Int×Row):=⟨fun h q a b=>a.1=b.1/\Seq h q a.2 1 az b.2,fun a c=>⟨a.1,a.2.ag c⟩,fun a d=>⟨a.1,a.2.mono d⟩⟩
abbrev DB:iO Sl (List (Int×Row)):=cg DA 2 yv
end
theorem WW{a:List Sl}{vs:aQ}(h:a.length=vs.length)(pl:List (Sl×Row))(b:∀x∈a.zip vs,x∈pl):fb pl id a vs:=
 ⟨h,fun i r l d c=>b _ (yF.2 ⟨i,by rw[vn];exact⟨d,c⟩⟩)⟩
theorem RW{α β:Type}:∀(a:List α) (x:α) (l:List β) (h:a.length<l.length),(a++[x]).zip l=a.zip l++[(x,l[a.length])]
 |[],x,b::l,_=>by simp
 |c::a,x,b::l,h=>by
  have:=RW a x l (by simpa using h);simp[this]
def acP(h h':Heap)(v:Value)(n:Nat)(A a:aQ):Prop:=
 (kd n A a/\∃r:Sl,v=.tuple #[r,xk xq 0]/\Sp h h' [MA r (fC n A a)])∨(¬kd n A a/\v=.tuple #[xl none 0 0,xk xq 10]/\Sp h h' [])
theorem abJ(p:Pm)(seed:Int)(l:Sl)(syms:List (Int×Row))(n w:Nat)(h:Heap)(hl:fg DB h l syms)(y:bA p=true)(b2:∀x∈syms,Ar p x)(hn:(bn p).toNat=n)(hw:p.2.2.toNat=w)(er:syms.length<=2^18)(hr:bT (cG p seed (syms.map qK))=n):
  ab xv 59 #[ir p,xk xt seed,l] h fun v h'=>acP h h' v n (cG p seed (syms.map qK)) (re p syms):=by
 refine LQ p seed l ?_;unfold FD;have e5:=(bC p).1 y;have d6:bn p=n:=by rw[<-hn];have:=lT y;omega
 have b7:n=p.1.toNat+p.2.1.toNat:=by rw[<-hn,lT y];omega
 have cq:p.2.2=(w:Int):=by omega
 have cs:1<=n:=by omega
 have c4:n<=20:=by omega
 obtain⟨U,eh,ew,b9⟩:=cg.nC hl;have e4:=cg.len hl;let d:List eI:=tO n seed syms;have en:d.length=syms.length:=by simp[d,tO]
 have J:=aeu (seed:=seed) cs c4 b2 hw;let u:Nat->dq:=fun i=>(syms.take i).map fun x=>cA n seed x.1;have am:∀x:Int×Row,x∈syms->(bA p&&bp x.1)=true:=fun x hx=>by rw[y,(b2 x hx).id];rfl
 refine(Sp.refl h).boxed fun a1 K H1=>?_;have d3:Sp h K [an 183 ⟨none,0,0⟩ 2 qv [],uj [],ar a1 25 [xk xq p.1,xk xq p.2.1,xk xq p.2.2]]:=((aa.ZI H1).nil 183 2 qv).cj [2,1,0];refine au (fun t:Nat×Sl×List Sl=>(t.2.1,(t.1:Int))) (fun t h'=>t.1<=syms.length/\t.2.2.length=t.1/\Sp h h' [an 183 t.2.1 2 qv (t.2.2.zip (U.map zE)),uj (t.2.2.zip (u t.1)),ar a1 25 [xk xq p.1,xk xq p.2.1,xk xq p.2.2]]) (fun t=>syms.length-t.1) (0,⟨none,0,0⟩,[]) rfl ⟨by simp,rfl,d3⟩ ?_;rintro⟨i,o,cr⟩ h2 ⟨hi,bs,H2⟩;dsimp only at*;have b5:(u i).length=i:=by simp[u];omega
 refine ai (fun e=>?_) (fun e=>?_)
 ·have Z:i<syms.length:=by omega
  obtain⟨y1,y2⟩:=b9 i (by omega) Z;refine(Seq.up eh H2.ag).ea (g:=yv) i rfl (by omega) (U[i]'(by omega)) rfl ?_;refine H2.alloc ac rfl fun a5 h3 H3=>?_;refine H3.storeAll ac 3 rfl rfl (yv (U[i]'(by omega))) rfl rfl rfl rfl fun h4 N=>?_;refine⟨p,(N.box 2 rfl).aF _ rfl,(U[i]'(by omega)).1,(N.box 3 rfl).cell0 rfl,(U[i]'(by omega)).2,(N.box 3 rfl).cell rfl,?_⟩;refine(AB p seed (U[i]'(by omega)).1 h4).mono ?_;rintro _ h5 ⟨r,rfl,R5⟩;rw[y1,am _ (qh Z),if_pos rfl,hn]at R5;have H5:=(N.comp R5).freeze 4 rfl fun _=>rfl;refine⟨r,rfl,⟨(H5.box 3 rfl).cell rfl,trivial⟩,?_⟩;have H6:=aa.acO H5 1 4 (by decide) rfl rfl;have ek:=H6.box 3 rfl;refine H6.pW ac qv eQ rfl [(r,(U[i]'(by omega)).2)] rfl (show 1*2<=2^20 by decide) rfl ⟨ek.cell rfl,trivial⟩ ?_;refine H6.push ac 0 rfl eQ rfl (by decide) (fun _=>rfl) Zr (r,(U[i]'(by omega)).2) rfl (by decide) (by simp;omega) fun o' h7 H7=>?_;refine⟨⟨(H7.box 3 rfl).cell rfl,trivial⟩,?_⟩;refine⟨(i+1,o',cr++[r]),by dsimp only;rw[aj _];rfl,⟨by dsimp only;omega,by simp[bs],?_⟩,by dsimp only;omega⟩;dsimp only;have e1:u (i+1)=u i++[cA n seed syms[i].1]:=by simp only[u];rw[aH _ _ Z,qW];rfl
  have e2:(cr++[r]).zip (U.map zE)=cr.zip (U.map zE)++[(r,(U[i]'(by omega)).2)]:=by
   rw[RW cr r (U.map zE) (by simp;omega),yc];simp only[bs]
  rw[e1,e2,List.zip_append (by rw[bs,b5])];exact H7.cj [0,1,2]
 have dl:i=syms.length:=by omega
 subst dl;have d5:u syms.length=syms.map fun x=>cA n seed x.1:=by simp only[u];rw[qX]
 rw[d5]at H2;have du:∀{h':Heap},(∀x∈cr.zip (syms.map fun x=>cA n seed x.1),Vc.Seq h' (fun b=>b<h'.size) x.1 1 aC x.2)->aR (fun b=>b<h.size) h h'->Vc.Seq h' (fun b=>b<h'.size) o 2 qv (cr.zip (U.map zE))->fg pE h' o d:=fun{h'} hp hpr hs=>by
  refine⟨_,hs,by simp[d,tO];omega,fun k a b K h2=>?_⟩;have hk:k<syms.length:=by have:=(qn.1 h2).1;omega
  rw[qd (by simp;omega),yX,yc]at K;have e2:d[k]?=some (cA n seed syms[k].1,syms[k].2):=by simp[d,tO,hk]
  rw[e2]at h2;simp only[zO.injEq]at K h2;subst K;subst h2;refine⟨hp (cr[k]'(by omega),cA n seed syms[k].1) (yF.2 ⟨k,?_⟩),Seq.up (b9 k (by omega) hk).2 hpr⟩;rw[vn];exact⟨qd _,by simp[hk]⟩
 refine bO (fun s h'=>∃(a7 f:Addr),s=some a7/\Sp h h' [SA a7 (fP f p ⟨none,0,0⟩ ⟨none,0,0⟩ ⟨none,0,0⟩ ⟨none,0,0⟩ ⟨none,0,0⟩ ⟨none,0,0⟩ ⟨none,0,0⟩),an 183 o 2 qv (cr.zip (U.map zE)),uj (cr.zip (syms.map fun x=>cA n seed x.1)),ar a1 25 [xk xq p.1,xk xq p.2.1,xk xq p.2.2],ar f 92 dh]) ?_ ?_
 ·refine⟨p,(H2.box 2 rfl).aF _ rfl,(uh h2).mono ?_⟩;rintro _ h3 ⟨f,rfl,R3⟩;have H3:=H2.comp R3;refine⟨some f,rfl,⟨(H3.box 2 rfl).cell0 rfl,(H3.box 2 rfl).cell rfl,(H3.box 2 rfl).cell rfl,trivial⟩,?_⟩;refine H3.boxed fun a7 h4 N=>?_;exact⟨⟨(N.box 2 rfl).cell0 rfl,(N.box 2 rfl).cell rfl,(N.box 2 rfl).cell rfl,trivial⟩,a7,f,rfl,N.cj [4,0,1,2,3]⟩
 rintro _ h3 ⟨s,f,rfl,H3⟩;refine⟨p,(H3.box 3 rfl).aF _ rfl,(jw p h3).mono ?_⟩;rintro _ h4 ⟨rfl,R4⟩;have N:=H3.up R4.ag;refine⟨_,rfl,?_⟩;rw[d6];have eb:fg pE h4 o d:=du (N.at 2 rfl) N.ag (N.seq 1 rfl fun _=>rfl);have cn:∀e∈d,e.1.length<=2^20:=fun e z=>by
  obtain⟨x,hx,rfl⟩:=qC.1 z;have:=rN cs c4 seed x.1;dsimp only;omega
 refine(Zw o d n w h4 eb (fun e z=>⟨(J e z).1,WU (J e z).2⟩) (by omega) (by omega) ⟨by omega,by omega⟩ cn).mono ?_;have hA:aY n (bc p.1.toNat p.2.1.toNat):=by rw[b7];exact CL _ _
 have eA:=VF (seed:=seed) y hn b2;have eB:=VG (seed:=seed) (n:=n) (p:=p) (l:=syms) hw;rw[<-eA]at hr⊢;rw[<-eB];rintro _ h5 ⟨known,vals,hI,⟨am,rfl,R5⟩|⟨am,k,v,rs,rfl,R5⟩⟩
 ·refine⟨(⟨none,0,0⟩,⟨none,0,0⟩,⟨none,0,0⟩,10),rfl,bV (fun _=>?_) (fun e=>absurd e (by decide))⟩;exact .inr ⟨Yd (fun e z=>(J e z).1) hA hI am hr,rfl,(N.up R5.ag).cj []⟩
 refine⟨(k,v,rs,0),rfl,bV (fun e=>absurd rfl e) (fun _=>?_)⟩;have S:=aaL (fun e z=>(J e z).1) hA hI am;have F:=Np (fun e z=>(J e z).1) hI;obtain⟨f1,f2,f3,f4,f5⟩:=JQ (fun e z=>(J e z).1) hI;have I:=og hI (fun e z=>(J e z).1);have bl:=adp (known:=known) (vals:=vals) (fun e z=>(J e z).2);have eg:=Ye (l:=d) (known:=known) (vals:=vals);have a9:=Yf (known:=known) (vals:=vals) cn;have c0:=hI.vlen;have d9:=hI.klen;unfold OY at S;obtain⟨R,a8⟩:∃R,R=aZ known vals d:=⟨_,rfl⟩
 change fZ n w d _ known vals _ _ _ _ at S;rw[<-a8]at S F f1 f2 f3 f4 f5 I bl eg a9 R5;obtain⟨P,H6,ec,cf⟩:=aa.afn (N.comp R5) 6 rfl;obtain⟨rr,H7⟩:=aa.PG H6 7 rfl fun _=>rfl;have H8:=aa.adQ H7 8 rfl;have H9:Sp h h5 [SA s (fP f p ⟨none,0,0⟩ ⟨none,0,0⟩ ⟨none,0,0⟩ ⟨none,0,0⟩ ⟨none,0,0⟩ ⟨none,0,0⟩ ⟨none,0,0⟩),ke ((⟨none,0,0⟩,[])::P.zip vals),HA v P,cS iK 2 qv rs rr R,an 4 k 1 ee known,ar f 92 dh]:=aa.cj H8 [0,8,6,7,5,4];have b1:v.len=n:=by rw[(H9.own 2 rfl).len];omega
 have hk:∀(c:Nat) (hc:c<P.length),P[c].ptr.isNone=!(known.getD c false):=fun c hc=>by
  rw[cf c hc (by omega)];have K:=hI.row c (by omega);rw[lB (show c<vals.length by omega)]at K;cases hkn:known.getD c false with
  |true=>
   rw[hkn,if_pos rfl]at K;cases hv:vals[c]'(by omega)with
   |nil=>rw[hv]at K;simp at K;omega
   |cons x t=>rfl
  |false=>
   rw[hkn,if_neg (by simp)]at K;rw[List.length_eq_zero_iff.1 K];rfl
 refine⟨s,rfl,H9.store ac 0 rfl rfl 4 [v] rfl rfl rfl (by simp[fP]) fun h6 d8=>?_⟩;refine⟨s,rfl,d8.store ac 0 rfl rfl 5 [rs] rfl rfl rfl (by simp[fP]) fun h7 ef=>?_⟩;have c3:=WV (known:=known) (n:=n) (by omega) fun e z=>⟨(I e z).cC,bl e z⟩
 have ad:=uM (rows:=rowsOf R known n) (n:=n) (by rw[a8];exact ut (a8▸I));have et:(rowsOf R known n).length<=R.length+n:=by
  rw[rowsOf,qw,qD];have:=DO known n;omega
 refine(TS s f p v rs _ _ _ _ _ k rr R known n (As:=[ke ((⟨none,0,0⟩,[])::P.zip vals),HA v P,cS iK 2 qv rs rr R,an 4 k 1 ee known,ar f 92 dh]) ef (St.mk' fun h' H'=>⟨H'.fF 2 rfl,H'.seq 3 rfl fun _=>rfl⟩) d9 (by omega) (by omega) a9 c3 ⟨by have:=ad.1;omega,by have:=Hl (dg n (rowsOf R known n)).used (rowsOf R known n).length;omega⟩).mono ?_;rintro _ h8 ⟨rfl,st,V,lf,dy⟩;refine⟨(),rfl,?_⟩;obtain⟨D,hD⟩:∃D,D=(fV R known n).dead:=⟨_,rfl⟩
 obtain⟨ST,b0⟩:∃ST,ST=mz R known n:=⟨_,rfl⟩
 obtain⟨L,hL⟩:∃L,L=Wl.leftOf R known n:=⟨_,rfl⟩
 have d2:Sp h h8 (SA s (fP f p v rs st V lf ⟨none,0,0⟩ ⟨none,0,0⟩)::ke ((⟨none,0,0⟩,[])::P.zip vals)::[HA v P,an 269 st 2 fe ST,an 3 V 1 aC D,an 3 lf 1 aC L,cS iK 2 qv rs rr R,ar f 92 dh]):=by
  rw[hD,b0,hL];exact aa.cj dy [0,4,5,1,2,3,6,8]
 rw[<-hD]at S F f1 f2 f3 f5;rw[<-b0]at S F;rw[<-hL]at S f4;have b6:ST.length<=2^20:=by
  rw[b0,mz,fV];have:=zc (fun x:Int×Int=>decide (x.1<R.length)) (dg n (rowsOf R known n)).steps;have:=ad.1;omega
 have es:L.length<=2^20-2^10:=by
  rw[hL,Wl.leftOf,fV];have:=zc (fun x:Int=>decide (x<R.length)) (eW (dg n (rowsOf R known n)).used (rowsOf R known n).length);have:=Hl (dg n (rowsOf R known n)).used (rowsOf R known n).length;omega
 have B:St (fun b=>b<h.size) h [HA v P,an 269 st 2 fe ST,an 3 V 1 aC D,an 3 lf 1 aC L,cS iK 2 qv rs rr R,ar f 92 dh] fun h=>WO h f rs st V lf rr R ST D L:=
  St.mk' fun h' H'=>⟨H'.box 5 rfl,H'.fF 4 rfl,H'.seq 1 rfl fun _=>rfl,H'.seq 2 rfl fun _=>rfl,H'.seq 3 rfl fun _=>rfl⟩
 refine(WQ s f p v rs st V lf _ _ rr R ST D L n D.length w _ d2 B b1 (by omega) cq (by omega) rfl (by omega) I f1 f2 F b6 a9 (by simp)).mono ?_;rintro _ h9 ⟨rfl,wa,mo,wr,mr,pl,c8,a6⟩;refine⟨(),rfl,?_⟩;have d0:=(B.at [_,_,_,_] c8).dead.len;generalize ep:ST.foldl (gh R D.length) (fx n D.length w D)=S0 at a6 S;have ei:S0.1.length=n:=by have:=S.lens.1;simpa[gD]using this
 have el:S0.2.length=n:=by have:=S.lens.2.1;simpa[gD]using this
 have hV:fb pl id P vals:=WW ec pl fun x hx=>a6.sub x (qY _ hx);refine(ZE s f p v rs st V lf wa mo P wr mr pl known vals S0.1 S0.2 n D.length c8 (by omega) d0 (by omega) ⟨fun _ h=>h,a6.way,a6.more⟩ hV c0 ei el hk).mono ?_;rintro _ e6 ⟨rfl,ah,ay,Y,dx,T⟩;refine⟨(),rfl,?_⟩;obtain⟨W,hW⟩:∃W,W=(gD D.length known vals S0).1:=⟨_,rfl⟩
 obtain⟨M,hM⟩:∃M,M=(gD D.length known vals S0).2:=⟨_,rfl⟩
 change lm pl Y ah ay (gD D.length known vals S0).1 (gD D.length known vals S0).2 at T;rw[<-hW,<-hM]at T S;have m:=S.lens;refine(WS s f p v rs st V lf wa mo ah ay Y rr R ST D L W M n D.length w dx B b7 cq (by omega) y rfl (by omega) I a9 f4 (by omega) ⟨fun _ h=>h,T.way,T.more⟩ m.1 m.2.1 m.2.2).mono ?_;rintro _ ax ⟨a,b,rfl,a2⟩;refine⟨(a,b),rfl,s,rfl,V,show cellOf ax (s.add 7)=_ from(a2.box 2 rfl).cell rfl,?_⟩;have d4:fb Y id P vals:=hV.mono T.sub;obtain⟨e1,e2⟩:=pf S;have O:=Ap (n:=n) (w:=w) (ahead:=bc p.1.toNat p.2.1.toNat) (l:=d) (known:=known) (vals:=vals) (dead:=D) (left:=L) (W:=W) (M:=M);have a4:∀{X:aQ},_->_:=fun{X} hs=>S.Uq hr (D:=X) hs;have a3:=S.Ur hr;have bb:=S.VH (by omega) hr;have bd:=S.LH (by omega) hr;rw[<-a8]at e1 e2 O a4 a3 bb bd;obtain⟨dA,cc⟩:∃dA,dA=cZ n D.length R W L (bc p.1.toNat p.2.1.toNat):=⟨_,rfl⟩
 obtain⟨G,d7⟩:∃G,G=eZ n w R M L (bc p.1.toNat p.2.1.toNat):=⟨_,rfl⟩
 rw[<-cc]at e1 O a4 a3 bb bd a2;rw[<-d7]at e2 O a4 a3 bb a2;have ed:dA.length=L.length+p.2.1.toNat:=by rw[cc];simp[cZ,bc]
 have bq:∀{h':Heap} {pre:List HP} {dead:Sl} {dr:List Sl} {X:aQ} {Q:HP},Sp h h' (Told s f p v rs st V lf wa mo ah ay Y++HA v P::[an 269 st 2 fe ST,an 3 V 1 aC D,an 3 lf 1 aC L,cS iK 2 qv rs rr R,ar f 92 dh,Q])->(∀h',Q.p h' (fun b=>b<h'.size)->gc h' (fun b=>b<h'.size) dead 1 az X dr)->eV D.length w dA G X->
   ab xv 128 #[xm (some s),dead] h' fun v' a0=>v'=.tuple #[]/\cellOf a0 (s.add 4)=some (xl v.ptr v.len v.cap)/\acP h a0 (.tuple #[v,xk xq 0]) n (dc n d (bc p.1.toNat p.2.1.toNat)) (gy w d (bc p.1.toNat p.2.1.toNat)):=by
  intro h' pre dead dr X Q H' hQ hs;refine(ZG s f p v rs st V lf wa mo dead P ah ay dr Y known vals W M X n D.length w H' (St.mk' fun a0 ap=>⟨ap.box 4 rfl,hQ a0 (ap.at 5 rfl)⟩) (by omega) (by omega) (by omega) ⟨fun _ h=>h,T.way,T.more⟩ d4 c0 m.1 m.2.1 m.2.2 hs.1 hs.2.1 hk).mono ?_;rintro _ a0 ⟨rfl,eo,e7,ap,ip⟩;refine⟨rfl,(ap.box 0 rfl).cell rfl,?_⟩;obtain⟨c1,c2⟩:=a4 hs;refine .inl ⟨c1,v,rfl,?_⟩;rw[<-c2];exact(ap.abB 4 3 (by decide) rfl rfl ip.1 fun k r l K h2=>ip.2 k r l K h2).cj [4]
 have H:Sp h ax (MA a dA::CA b G::(Told s f p v rs st V lf wa mo ah ay Y++HA v P::[an 269 st 2 fe ST,an 3 V 1 aC D,an 3 lf 1 aC L,cS iK 2 qv rs rr R,ar f 92 dh])):=a2;have c6:=H.MS 1 rfl fun _=>rfl;have c9:fo ax b 1 az G:=cg.tofo (by
  have:=cg.impl (α':=Sl) (E:=RS) (E':=ft 1 az) id (fun{h q a b} (hx:RS.p h q a b)=>hx.1) c6
  rwa [List.map_id]at this)
 have ds:=c9.len;refine cz (fun e0=>?_) (fun e0=>?_)
 ·have cd:D.length=0:=by omega
  obtain⟨br,q1,q2,q3⟩:=cg.nC c6;refine au (fun i:Nat=>(i:Int)) (fun i h'=>h'=ax/\i<=G.length/\∀j (hj:j<G.length),j<i->G[j]=aM w) (fun i=>G.length-i) 0 rfl ⟨rfl,by omega,fun j _ hj=>by omega⟩ ?_;rintro i bk ⟨rfl,hi,hz⟩;have b3:eV D.length w dA G []↔∀r∈G,r=aM w:=by rw[cd];exact JR O
  refine ai (fun e=>?_) (fun e=>?_)
  ·have Z:i<G.length:=by
    have e':(i:Int)<(b.len:Int):=e;omega
   obtain⟨y1,y2⟩:=q3 i (by omega) Z;have dk:G[i].length=w:=e2 _ (qh _);refine q1.nM i rfl (by omega) ?_;refine(NU (br[i]'(by omega)) G[i] _ rfl bk y1 y2 (by omega)).mono ?_;rintro _ c7 ⟨⟨t,rfl,ht⟩,rfl⟩;refine⟨t,rfl,ai (fun e3=>?_) (fun e3=>?_)⟩
   ·refine .inr ⟨fun hc=>?_,rfl,H.cj []⟩;have cp:=a3 hc;have d1:D=[]:=List.length_eq_zero_iff.1 cd;rw[d1]at cp;have:=(JR O).1 cp _ (qh Z);have h0:t.len=0:=ht.2 fun x hx=>by rw[this]at hx;exact(w8.1 hx).2
    omega
   ·have h0:t.len=0:=by omega
    refine⟨i+1,by rw[aj _];rfl,⟨rfl,by omega,fun j hj eq=>?_⟩,by omega⟩;by_cases hh:j=i
    ·subst hh;exact vH.2 ⟨dk,ht.1 h0⟩
    ·exact hz j hj (by omega)
  ·have hs:eV D.length w dA G []:=b3.2 fun r hr=>by
    obtain⟨j,hj,rfl⟩:=qE hr;have e':¬(i:Int)<(b.len:Int):=e;exact hz j hj (by omega)
   have b4:=aa.comp (H.cj [2,3,4,5,6,7,8,9,10,11]) (Sp.one (h:=bk) (h':=bk) (A:=emp) (aR.refl _ _) trivial);refine(bq (pre:=[]) (dead:=⟨none,0,0⟩) (dr:=[]) (X:=[]) (Q:=emp) ?_ (fun h' _=>⟨Seq.nil _ _ _ _ _ _,rfl,fun k r l K _=>by cases K⟩) hs).mono ?_
   ·exact b4
   ·rintro _ c7 ⟨rfl,hc,hm⟩;exact⟨(),rfl,s,rfl,v,hc,hm⟩
 ·have da:1<=D.length:=by omega
  refine⟨s,rfl,some f,(H.box 2 rfl).cell0 rfl,?_⟩;refine(TT f a b dA G dA.length D.length w ax (H.box 11 rfl) (H.DJ 0 rfl) c9 rfl O.symm e1 e2 da (by omega) (by omega) bd).mono ?_;rintro _ bk (⟨hc,r,rfl,R12⟩|⟨hc,rfl,R12⟩)
  ·refine⟨(r,0),rfl,bV (fun e=>absurd rfl e) fun _=>?_⟩;have b4:=(H.comp R12).Vf 12 rfl;obtain⟨dr,ej⟩:=aa.PG b4 12 rfl fun _=>rfl;have hs:=pc O e1 e2 bd hc;refine(bq (pre:=[]) (dead:=r) (dr:=dr) (X:=fC D.length dA G) (Q:=cS (ft 1 az) 1 bD r dr (fC D.length dA G)) (ej.cj [2,3,4,5,6,7,8,9,10,11,12]) (fun h' x=>⟨x.1,x.2.1,x.2.2⟩) hs).mono ?_;rintro _ c7 ⟨rfl,hc,hm⟩;exact⟨(),rfl,s,rfl,v,hc,hm⟩
  ·refine⟨(⟨none,0,0⟩,10),rfl,bV (fun _=>?_) (fun e=>absurd e (by decide))⟩;exact .inr ⟨fun hh=>hc (bb.2 hh),rfl,(H.up R12.ag).cj []⟩
end Go.Qw
namespace Wl
def jK(p:Int×Int×Int)(x:Int×Row):Bool:=bp x.1&&decide ((x.2.length:Int)=p.2.2)
theorem Ld{p:Int×Int×Int}{x:Int×Row}(c:bA p=true):jK p x=true↔Ar p x:=by
 have:=(bC p).1 c;unfold jK;rw[qA,decide_eq_true_iff];exact⟨fun⟨a,b⟩=>⟨a,by omega⟩,fun h=>⟨h.id,by have:=h.len;omega⟩⟩
def ta(p:Int×Int×Int)(seed:Int)(X:aQ)(i:Nat):Row:=(qy i).flatMap fun j:Nat=>ff p.2.2.toNat X (cA (bn p).toNat seed (j:Int))
theorem NZ(p:Int×Int×Int)(seed:Int)(X:aQ)(i:Nat):ta p seed X (i+1)=ta p seed X i++ff p.2.2.toNat X (cA (bn p).toNat seed (i:Int)):=by
 unfold ta;rw[zt,ze];simp
open Classical in
noncomputable def jX(p:Int×Int×Int)(seed:Int)(l:List (Int×Row)):Row×Int:=
 if bA p&&l.all (jK p)then
  if dQ p seed (l.map qK)then
   if kd (bn p).toNat (cG p seed (l.map qK)) (re p l)then(ta p seed (fC (bn p).toNat (cG p seed (l.map qK)) (re p l)) p.1.toNat,0)else([],10)
  else([],9)
 else([],1)
end Wl
namespace Go.Qw
open Go Go.Vc Go.Proofs Wl
theorem Ik(p:Pm)(x:Int×Sl)(l:Row)(h:Heap)(d:Rd h x.2 1 az l):ab xv 30 #[ir p,xp #[xk xq x.1,x.2]] h fun v h'=>v=xo (jK p (x.1,l))/\Sp h h' []:=by
 refine IR p x ?_;unfold BB;refine(Sp.refl h).boxed fun i j f=>?_;refine f.boxed fun a2 g a=>?_;have e:=d.len;refine⟨x.1,(a.box 1 rfl).cell0 rfl,ai (fun c=>?_) (fun c=>?_)⟩
 ·refine⟨x.1,(a.box 1 rfl).cell0 rfl,ai (fun b=>?_) (fun b=>?_)⟩
  ·refine⟨x.2,(a.box 1 rfl).cell rfl,p.2.2,(a.box 0 rfl).cell rfl,?_,.zip a.ag⟩;congr 1;unfold jK bp;rw[decide_eq_true (show 0<=x.1 from c),decide_eq_true (show x.1<=65535 from b),e];rw[y9];simp
  ·refine⟨?_,.zip a.ag⟩;unfold jK bp;rw[decide_eq_false (show¬x.1<=65535 from b)];simp
 ·refine⟨?_,.zip a.ag⟩;unfold jK bp;rw[decide_eq_false (show¬0<=x.1 from c)];simp
theorem TU(p:Pm)(b:Addr)(x:Int×Sl)(l:Row)(h:Heap)(c:bZ h b 25 [xk xq p.1,xk xq p.2.1,xk xq p.2.2])(d:Rd h x.2 1 az l):ab xv 58 #[xp #[xk xq x.1,x.2],xm (some b)] h fun v h'=>v=xo (!jK p (x.1,l))/\Sp h h' []:=by
 refine FC x b ?_;unfold uS;refine(Sp.refl h).boxed fun a2 f a=>?_;refine⟨p,(c.ag a.ag c.lt).aF _ rfl,x,(a.box 0 rfl).aF _ rfl,?_⟩;refine(Ik p x l f (Seq.up d a.ag)).mono ?_;rintro _ g ⟨rfl,e⟩;exact⟨_,rfl,rfl,.zip (a.up e.ag).ag⟩
theorem TV(p:Pm)(d:Addr)(l:Sl)(syms:List (Int×Row))(h:Heap)(n:bZ h d 25 [xk xq p.1,xk xq p.2.1,xk xq p.2.2])(m:fg DB h l syms)(A:syms.length<=2^30):ab xv 57 #[l,.func (.func 58) #[] #[xm (some d)]] h fun v h'=>v=xo (!syms.all (jK p))/\Sp h h' []:=by
 refine jE l (58,#[],#[xm (some d)]) ?_;unfold fQ;refine(kp l (58,#[],#[xm (some d)]) (R:=fun v h'=>(∃i:Int,v=xk xq i/\(decide (i>=0)=!syms.all (jK p)))/\Sp h h' []) ?_).mono ?_
 ·unfold gi;obtain⟨k,y,z,w⟩:=cg.nC m;have t:=cg.len m;refine au (fun i:Nat=>(i:Int)) (fun i h'=>i<=syms.length/\(syms.take i).all (jK p)=true/\Sp h h' []) (fun i=>syms.length-i) 0 rfl ⟨by omega,by simp,Sp.refl h⟩ ?_;rintro i r ⟨q,a,c⟩;refine ai (fun e=>?_) (fun e=>?_)
  ·have b:i<syms.length:=by omega
   obtain⟨s,x⟩:=w i (by omega) b;refine(Seq.up y c.ag).ea (g:=yv) i rfl (by omega) (k[i]'(by omega)) rfl ?_;refine eS (by rfl) ?_;refine(TU p d (k[i]'(by omega)) syms[i].2 r (n.ag c.ag n.lt) (Seq.up x c.ag)).mono ?_;rintro _ B ⟨rfl,o⟩;have f:((k[i]'(by omega)).1,syms[i].2)=syms[i]:=by rw[s]
   rw[f];refine⟨_,rfl,be (fun j=>?_) (fun j=>?_)⟩
   ·refine⟨⟨i,rfl,?_⟩,c.up o.ag⟩;rw[decide_eq_true (show(i:Int)>=0 by omega)];have:syms.all (jK p)=false:=List.all_eq_false.2 ⟨_,qh b,by simpa using j⟩;rw[this];rfl
   ·refine⟨i+1,by rw[aj _];rfl,⟨by omega,?_,c.up o.ag⟩,by omega⟩;rw[aH _ _ b,List.all_append,a];simpa using j
  ·refine⟨⟨-1,rfl,?_⟩,c⟩;rw[qi (by omega)]at a;rw[a];rfl
 ·rintro _ r ⟨⟨i,rfl,q⟩,u⟩;exact⟨i,rfl,by rw[q],u⟩
theorem Oa(l:Sl)(syms:List (Int×Row))(h:Heap)(f:fg DB h l syms)(z:syms.length<=2^30:=by omega):ab xv 27 #[l] h fun v h'=>∃r:Sl,v=r/\Sp h h' [an 3 r 1 aC (syms.map qK)]:=by
 refine LO l ?_;unfold FA;obtain⟨c,u,y,p⟩:=cg.nC f;have n:=cg.len f;refine au (fun t:Nat×Sl=>(t.2,(t.1:Int))) (fun t h'=>t.1<=syms.length/\Sp h h' [an 3 t.2 1 aC ((syms.take t.1).map qK)]) (fun t=>syms.length-t.1) (0,⟨none,0,0⟩) rfl ⟨by simp,(Sp.refl h).nil 3 1 aC⟩ ?_;rintro⟨i,o⟩ x ⟨w,d⟩;dsimp only at*;refine ai (fun e=>?_) (fun e=>?_)
 ·have b:i<syms.length:=by omega
  obtain⟨m,B⟩:=p i (by omega) b;refine(Seq.up u d.ag).ea (g:=yv) i rfl (by omega) (c[i]'(by omega)) rfl ?_;refine d.alloc ac rfl fun a A q=>?_;refine q.storeAll ac 1 rfl rfl (yv (c[i]'(by omega))) rfl rfl rfl rfl fun h3 k=>?_;refine⟨(c[i]'(by omega)).1,(k.box 1 rfl).cell0 rfl,?_⟩;refine k.push ac 0 rfl lE rfl (by decide) (fun _=>rfl) gJ (c[i]'(by omega)).1 rfl (by decide) (by simp;omega) fun s D j=>?_;refine⟨(i+1,s),by dsimp only;rw[aj _];rfl,⟨by dsimp only;omega,?_⟩,by dsimp only;omega⟩;dsimp only;rw[aH _ _ b,qW];rw[m]at j;exact j.cj [0]
 ·have:i=syms.length:=by omega
  subst this;rw[qX]at d;exact⟨o,rfl,d⟩
theorem abK{B:aA}{q h:Heap}{As:List HP}(f b:Sl)(d c:Row)(H:aa B q h (an 5 b 1 az c::As))(t:St B q As fun h=>Rd h f 1 az d)
  (w:d.length=c.length) (I:d.length<=2^30) {K:Heap->Prop} (G:∀h',aa B q h' (an 5 b 1 az (ck 1 d c)::As)->K h'):
  aG (σ:=Int) (fun a v g=>
 Br (decide (a<((f.len:Nat):Int)))
 (∃m:Addr,(f.ptr=some m/\0<=a/\a<((f.len:Nat):Int))/\
 ∃j:Int,cellOf g (m.add (a.toNat*1))=some (xk xr j)/\
 ∃l:Addr,(b.ptr=some l/\0<=a/\a<((b.len:Nat):Int))/\
 ∃o:Int,cellOf g (l.add (a.toNat*1))=some (xk xr o)/\
 ∃a28:Addr,(b.ptr=some a28/\0<=a/\a<((b.len:Nat):Int))/\
 ae xv (Instr.storeAt 5 (xm (some (a28.add (a.toNat*1)))) (xk xr (qc xr ((qu (qk xr) o^^^(qu (qk xr) j)).toNat:Nat)))) g fun _ s=>
 v (qc xq (a+(1:Int))) s) (K g)) (0:Int) h:=by
 have F:f.len=d.length:=(t.at [an 5 b 1 az c] H).len;refine au (fun k:Nat=>(k:Int)) (fun k h'=>k<=d.length/\aa B q h' (an 5 b 1 az (zm (fun x y=>y^^^x) (d.take k) (c.take k)++c.drop k)::As)) (fun k=>d.length-k) 0 rfl ⟨by omega,by simpa using H⟩ ?_;rintro k A ⟨z,n⟩;have E:=t.at [_] n;refine ai (fun e=>?_) (fun e=>?_)
 ·have r:k<d.length:=by omega
  have i:(zm (fun x y=>y^^^x) (d.take k) (c.take k)).length=k:=by simp;omega
  have D:(zm (fun x y=>y^^^x) (d.take k) (c.take k)++c.drop k).length=c.length:=by rw[qw,i,qZ];omega
  refine E.bt k rfl r _ rfl ?_;have p:(zm (fun x y=>y^^^x) (d.take k) (c.take k)++c.drop k)[k]'(by omega)=c[k]:=by
   rw[wo (by omega)];simp[i]
  refine(n.seq 0 rfl fun _=>rfl).bt k rfl (by omega) _ rfl ?_;rw[p,ny];refine n.set ac 0 rfl (fun _=>rfl) rfl k rfl (by omega) _ rfl rfl rfl fun h3 u=>?_;rw[zu,GG w]at u;exact⟨k+1,by rw[aj _];rfl,⟨by omega,u⟩,by omega⟩
 ·have:k=d.length:=by omega
  subst this;rw[qi (ql _),qi (by omega),zh (by omega),qU,<-UE]at n;exact G A n
theorem Le(p:Pm)(seed:Int)(l:Sl)(syms:List (Int×Row))(h:Heap)(hl:fg DB h l syms)(W:syms.length<=2^18):
  ab xv 28 #[ir p,xk xt seed,l] h fun v h'=>∃r:Sl,v=.tuple #[r,xk xq (jX p seed syms).2]/\Sp h h' [an 5 r 1 az (jX p seed syms).1]:=by
 refine IQ p seed l ?_;unfold BA;refine(Sp.refl h).boxed fun J h1 H1=>?_;have s:∀{h':Heap} (e:Int),Sp h h' [ar J 25 [xk xq p.1,xk xq p.2.1,xk xq p.2.2]]->jX p seed syms=([],e)->∃r:Sl,(.tuple #[xl none 0 0,xk xq e]:Value)=.tuple #[r,xk xq (jX p seed syms).2]/\Sp h h' [an 5 r 1 az (jX p seed syms).1]:=fun e Z he=>by
  rw[he];exact⟨⟨none,0,0⟩,rfl,(Z.nil 5 1 az).cj [1]⟩
 refine aT ⟨p,(H1.box 0 rfl).aF _ rfl,?_⟩;refine(dz p h1).mono ?_;rintro _ h2 ⟨rfl,R2⟩;have P:=H1.up R2.ag;refine⟨_,rfl,be (fun e=>?_) (fun a=>?_)⟩
 ·exact s 1 P (by unfold jX;rw[e];rfl)
 refine(TV p J l syms h2 (P.box 0 rfl) (fg.up hl P.ag) (by omega)).mono ?_;rintro _ h3 ⟨rfl,R3⟩;have Q:=P.up R3.ag;refine⟨_,rfl,be (fun e=>?_) (fun d=>?_)⟩
 ·exact s 1 Q (by unfold jX;rw[a,e];rfl)
 refine aT ⟨p,(Q.box 0 rfl).aF _ rfl,?_⟩;refine(Oa l syms h3 (fg.up hl Q.ag)).mono ?_;rintro _ h4 ⟨r,rfl,R4⟩;have T:=Q.comp R4;have I:=T.box 0 rfl;refine⟨r,rfl,⟨I.cell0 rfl,I.cell rfl,I.cell rfl,trivial⟩,?_⟩;refine(NH p seed r (syms.map qK) h4 (T.seq 1 rfl fun _=>rfl) (by simp;omega)).mono ?_;rintro _ h5 ⟨rfl,R5⟩;have L:Sp h h5 [ar J 25 [xk xq p.1,xk xq p.2.1,xk xq p.2.2]]:=(T.up R5.ag).cj [0];refine⟨_,rfl,trivial,be (fun e=>?_) (fun b=>?_)⟩
 ·exact s 9 L (by unfold jX;rw[a,d,e];rfl)
 have H:∀x∈syms,Ar p x:=fun x g=>(Ld a).1 (qN.1 d x g);have a2:=(bC p).1 a;have a0:=lT a;have hr:bT (cG p seed (syms.map qK))=(bn p).toNat:=by
  have:=b;unfold dQ io at this;rw[a]at this;simp at this;omega
 refine⟨p,(L.box 0 rfl).aF _ rfl,?_⟩;refine(abJ p seed l syms (bn p).toNat p.2.2.toNat h5 (fg.up hl L.ag) a H rfl rfl W hr).mono ?_;rintro _ h6 (⟨hc,m,rfl,R6⟩|⟨hc,rfl,R6⟩)
 rotate_left
 ·refine⟨(⟨none,0,0⟩,10),rfl,bV (fun _=>s 10 (L.up R6.ag) ?_) (fun e=>absurd e (by decide))⟩;unfold jX;rw[a,d,b,if_neg hc];rfl
 refine⟨(m,0),rfl,bV (fun e=>absurd rfl e) (fun _=>?_)⟩;obtain⟨X,hX⟩:∃X,X=fC (bn p).toNat (cG p seed (syms.map qK)) (re p syms):=⟨_,rfl⟩
 have M:jX p seed syms=(ta p seed X p.1.toNat,0):=by unfold jX;rw[a,d,b,if_pos hc,hX];rfl
 have ad:aY p.2.2.toNat (re p syms):=fun x g=>by
  rcases qF.1 g with g|g
  ·rw[(w8.1 g).2];simp[aM]
  ·obtain⟨y,hy,rfl⟩:=qC.1 g;exact(H y hy).len
 have V:(cG p seed (syms.map qK)).length=(re p syms).length:=by
  rw[<-VF (n:=(bn p).toNat) (seed:=seed) a rfl H,<-VG (n:=(bn p).toNat) (seed:=seed) (p:=p) (l:=syms) rfl];exact ur
 obtain⟨F,q⟩:=uq V (iQ p seed _) ad hr;rw[<-hX]at R6 F q;have H6:=(L.comp R6).Vf 1 rfl;obtain⟨O,R⟩:=aa.PG H6 1 rfl fun _=>rfl;have ap:=(R.fF 1 rfl).1.len;have a7:=(R.fF 1 rfl).2.1;refine⟨p.1,(R.box 0 rfl).cell0 rfl,?_⟩;rw[M];have N:Sp h h6 [an 5 ⟨none,0,0⟩ 1 az [],ar J 25 [xk xq p.1,xk xq p.2.1,xk xq p.2.2],cS (ft 1 az) 1 bD m O X]:=(R.nil 5 1 az).cj [2,0,1];have K:∀j:Nat,(ff p.2.2.toNat X (cA (bn p).toNat seed (j:Int))).length=p.2.2.toNat:=fun j=>Uo q F fun x g=>kB (by omega) (by omega) g;have w:∀i,(ta p seed X i).length=i*p.2.2.toNat:=fun i=>by
  induction i with
  |zero=>simp[ta]
  |succ i ih=>rw[NZ,qw,ih,K,zK]
 refine au (fun t:Nat×Sl=>(t.2,(t.1:Int))) (fun t h'=>t.1<=p.1.toNat/\Sp h h' [an 5 t.2 1 az (ta p seed X t.1),ar J 25 [xk xq p.1,xk xq p.2.1,xk xq p.2.2],cS (ft 1 az) 1 bD m O X]) (fun t=>p.1.toNat-t.1) (0,⟨none,0,0⟩) rfl ⟨by omega,by simpa[ta]using N⟩ ?_;rintro⟨i,o⟩ h8 ⟨hi,N⟩;dsimp only at*;refine ai (fun e=>?_) (fun e=>?_)
 ·have a4:i<p.1.toNat:=by omega
  refine⟨p.2.2,(N.box 1 rfl).cell rfl,?_⟩;refine N.make ac az fi (by decide) 0 rfl rfl p.2.2.toNat p.2.2.toNat (by omega) (by omega) (ql _) (by omega) fun sm h9 _ _ H9=>?_;refine⟨p,(H9.box 1 rfl).aF _ rfl,(AB p seed (i:Int) h9).mono ?_⟩;rintro _ a5 ⟨c,rfl,A⟩;have Y:(bA p&&bp (i:Int))=true:=by rw[a];unfold bp;simp;omega
  rw[Y,if_pos rfl]at A;have E:=(H9.comp A).cj [3,0,1,2,4];refine⟨c,rfl,?_⟩;generalize B:cA (bn p).toNat seed (i:Int)=cs at E A;have u:∀x∈cs,0<=x/\x<((bn p).toNat:Int):=fun x g=>kB (by omega) (by omega) (B▸g);have ay:cs.length<=20:=by have:=rN (n:=(bn p).toNat) (by omega) (by omega) seed (i:Int);rw[B]at this;omega
  have a6:=(E.own 4 rfl).len;refine au (fun j:Nat=>(j:Int)) (fun j h'=>j<=cs.length/\Sp h h' [an 5 sm 1 az (ff p.2.2.toNat X (cs.take j)),an 5 o 1 az (ta p seed X i),ar J 25 [xk xq p.1,xk xq p.2.1,xk xq p.2.2],cS (ft 1 az) 1 bD m O X,an 3 c 1 aC cs]) (fun j=>cs.length-j) 0 rfl ⟨by omega,E⟩ ?_;rintro j a3 ⟨hj,f⟩;have D:=pd q F u j hj;refine ai (fun e2=>?_) (fun e2=>?_)
  ·have G:j<cs.length:=by omega
   have ax:=u _ (qh G);refine(f.seq 4 rfl fun _=>rfl).bt j rfl G _ rfl ?_;have k:cs[j].toNat<X.length:=by omega
   refine(f.fF 3 rfl).1.nM cs[j].toNat (by omega) (by omega) ?_;have am:(X[cs[j].toNat]'k).length=p.2.2.toNat:=q _ (qh _);refine abK (O[cs[j].toNat]'(by omega)) sm (X[cs[j].toNat]'k) _ f (St.mk' fun h' Z=>Fix.row (Z.fF 2 rfl) k) (by rw[am,D]) (by omega) fun ah z=>?_;refine⟨j+1,by rw[aj _];rfl,⟨by omega,?_⟩,by omega⟩;rw[aH _ _ G,CP,lB k];exact z
  ·have U:j=cs.length:=by omega
   subst U;rw[qX]at f D;refine f.append ac 1 rfl fi Rn rfl (by decide) (fun _=>rfl) (f.seq 0 rfl fun _=>rfl) fT (by rw[w,D];have:i*p.2.2.toNat<=16*24:=zJ (by omega) (by omega);omega) fun o' ah z=>?_;refine⟨(i+1,o'),by dsimp only;rw[aj _];rfl,⟨by dsimp only;omega,?_⟩,by dsimp only;omega⟩;dsimp only;rw[NZ,B];exact z.cj [1,2,3]
 ·have S:i=p.1.toNat:=by omega
  subst S;exact⟨o,rfl,N.cj [0]⟩
theorem nB(x:Int):qc xt x=x%4294967296:=by simp[qc,yC,qk]
theorem OQ(x:Int):qc xt (qc xt x)=qc xt x:=by
 rw[nB,nB];omega
theorem RX(x y:Int):qc xt (qc xt x+y)=qc xt (x+y):=by
 rw[nB,nB,nB];omega
theorem ZJ(p:Pm)(seed:Int)(h:Heap):ab xv 5 #[ir p,xk xu seed] h fun v h'=>∃s:Int,v=xk xt s/\Sp h h' []:=by
 refine uO p seed ?_;unfold nf;refine(Sp.refl h).boxed fun a n i=>?_;obtain⟨c,b⟩:∃c,c=qc xt seed:=⟨_,rfl⟩
 rw[<-b];refine au (fun k:Nat=>qc xt (c+(k:Int))) (fun k h'=>k<=24/\Sp h h' [ar a 25 [xk xq p.1,xk xq p.2.1,xk xq p.2.2]]) (fun k=>24-k) 0 ?_ ⟨by omega,i⟩ ?_
 ·rw[b];simp[OQ]
 rintro k l ⟨o,d⟩;refine bV (fun e=>?_) (fun e=>⟨_,rfl,.zip d.ag⟩);refine⟨p,(d.box 0 rfl).aF _ rfl,(Dp p _ l).mono ?_⟩;rintro v h3 ⟨rfl,m⟩;have f:=d.comp m;refine⟨_,rfl,bF (fun _=>⟨_,rfl,.zip f.ag⟩) (fun _=>?_)⟩;have g:k≠24:=fun j=>e (by rw[j];rfl);refine⟨k+1,?_,⟨by omega,f⟩,by omega⟩;rw[RX];congr 1;omega
theorem ZK(l:Sl)(a:Row)(n:Nat)(h:Heap)(d:Rd h l 1 az a)(g:n<=2^20):ab xv 6 #[l,xk xq n] h fun v h'=>∃r:Sl,v=r/\Sp h h' [an 5 r 1 az (Pa a n)]:=by
 refine uP l n ?_;unfold ng;refine(Sp.refl h).make ac az fi (by decide) 0 rfl rfl n n rfl rfl (ql _) (by omega) fun o j e f b=>?_;refine b.ER ac 0 rfl fi (fun _=>rfl) (Seq.up d b.ag) fT fun _ i c=>?_;rw[List.length_replicate]at c;exact⟨o,rfl,c⟩
theorem TW(a b c:Int)(h:Heap):ab xv 4 #[xk xq a,xk xq b,xk xq c] h fun v h'=>v=ir (JM a b c)/\Sp h h' []:=by
 refine tQ a b c ?_;unfold mM;refine(Sp.refl h).alloc ac rfl fun x g f=>?_;refine(iM a 16 g (by decide) (by decide)).mono ?_;rintro v e ⟨rfl,rfl⟩;refine⟨_,rfl,(iM b 4 e (by decide) (by decide)).mono ?_⟩;rintro v h3 ⟨rfl,rfl⟩;refine⟨_,rfl,(iM c 24 h3 (by decide) (by decide)).mono ?_⟩;rintro v i ⟨rfl,rfl⟩;refine⟨_,rfl,?_⟩;dsimp only;rw[aj _,aj _,aj _];refine f.storeAll ac 0 rfl rfl [xk xq (1+a%16),xk xq (1+b%4),xk xq (1+c%24)] rfl rfl rfl rfl fun j d=>?_;exact⟨JM a b c,(d.box 0 rfl).aF _ rfl,rfl,.zip d.ag⟩
end Go.Qw
namespace Wl
section
variable {p:Int×Int×Int} {seed:Int} {d:Row} {K H w n:Nat}
def dF(p:Int×Int×Int)(seed:Int)(X:aQ)(ids:aB):List (Int×Row):=ids.map fun i=>(i,ff p.2.2.toNat X (cA (bn p).toNat seed i))
theorem bM.size(B:bM p seed d K H w n):p.2.2.toNat=w:=by have:=B.s;omega
theorem nU(X:aQ)(ids:aB):(dF p seed X ids).map qK=ids:=by simp[dF,w5,Function.comp_def]
theorem bM.Lf(B:bM p seed d K H w n){ids:aB}(hid:∀i∈ids,bp i=true):(dF p seed (dE p seed d) ids).all (jK p)=true:=qN.2 fun x a=>by
 obtain⟨i,b,rfl⟩:=qC.1 a;refine(Ld B.may).2 ⟨hid i b,?_⟩;dsimp only;rw[B.size,B.nD];exact B.Qc i
theorem Lg{α β:Type}{f g:α->List β}:∀(l:List α),(∀x∈l,f x=g x)->l.flatMap f=l.flatMap g
 |[],_=>rfl
 |a::l,h=>by rw[zq,zq,h a (by simp),Lg l fun x b=>h x (by simp[b])]
theorem Ob(d:Row)(w:Nat):∀i,i*w<=d.length->(qy i).flatMap (Go.Vc.ES d w)=d.take (i*w)
 |0,_=>by simp
 |i+1,h=>by
  have e:(i+1)*w=i*w+w:=zK i w;rw[zt,ze,Ob d w i (by omega),e,List.take_add];simp[Go.Vc.ES]
theorem bM.out(B:bM p seed d K H w n):ta p seed (dE p seed d) p.1.toNat=d:=by
 have a:p.1.toNat=K:=by have:=B.k;omega
 unfold ta;rw[a,B.size,B.nD];have:(qy K).flatMap (fun j:Nat=>ff w (dE p seed d) (cA n seed (j:Int)))=(qy K).flatMap (Go.Vc.ES d w):=by
  exact Lg _ fun j b=>B.aaC (qI.1 b)
 rw[this,Ob d w K (by rw[B.len];exact ql _),qi (by rw[B.len];exact ql _)]
theorem bM.ZL(B:bM p seed d K H w n){ids:aB}(hid:∀i∈ids,bp i=true):Wl.eV n w (cG p seed ids) (re p (dF p seed (dE p seed d) ids)) (dE p seed d):=by
 have j:ids.filter bp=ids:=we.2 hid;have m:cG p seed ids=bc K H++ids.map (kL n seed):=by
  unfold cG;rw[B.may,if_pos rfl,j,B.nD];have o:p.1.toNat=K:=by have:=B.k;omega
  have c:p.2.1.toNat=H:=by have:=B.h;omega
  rw[o,c]
 have l:re p (dF p seed (dE p seed d) ids)=qg H (aM w)++ids.map fun i=>ff w (dE p seed d) (cA n seed i):=by
  unfold re dF;have c:p.2.1.toNat=H:=by have:=B.h;omega
  rw[c,B.size,B.nD,w5];rfl
 refine⟨B.rT.1,B.rT.2,fun i g=>?_⟩;rw[m]at g⊢;rw[l];have b:(bc K H).length=H:=by simp[bc]
 simp only[qw,qD,b]at g;by_cases a:i<H
 ·have f:av (bc K H++ids.map (kL n seed)) i=fj K H i:=by
   rw[bj (by simp;omega),yl (by omega)];simp[bc]
  have e:av (qg H (aM w)++ids.map fun i=>ff w (dE p seed d) (cA n seed i)) i=aM w:=by
   rw[bj (by simp;omega),yl (by simpa using a)];simp
  rw[f,e];exact B.low a
 ·have f:av (bc K H++ids.map (kL n seed)) i=kL n seed (ids[i-H]'(by omega)):=by
   rw[bj (by simp;omega),wo (by omega)];simp[b]
  have e:av (qg H (aM w)++ids.map fun i=>ff w (dE p seed d) (cA n seed i)) i=ff w (dE p seed d) (cA n seed (ids[i-H]'(by omega))):=by
   rw[bj (by simp;omega),wo (by simpa using a)];simp
  rw[f,e,B.sym]
theorem ZM{l:List (Int×Row)}(b:∀x∈l,Ar p x):aY p.2.2.toNat (re p l):=fun x a=>by
 rcases qF.1 a with a|a
 ·rw[(w8.1 a).2];simp[aM]
 ·obtain⟨y,c,rfl⟩:=qC.1 a;exact(b y c).len
theorem TX(a:bA p=true){l:List (Int×Row)}(b:∀x∈l,Ar p x):(cG p seed (l.map qK)).length=(re p l).length:=by
 rw[<-VF (n:=(bn p).toNat) (seed:=seed) a rfl b,<-VG (n:=(bn p).toNat) (seed:=seed) (p:=p) (l:=l) rfl];exact ur
theorem GL(a:bA p=true){ids:aB}:dQ p seed ids=true↔bT (cG p seed ids)=(bn p).toNat:=by
 have:=lT a;have:=(bC p).1 a;unfold dQ io;rw[a,zU];simp;omega
theorem bM.dec(B:bM p seed d K H w n){ids:aB}(hid:∀i∈ids,bp i=true)(b:dQ p seed ids=true):jX p seed (dF p seed (dE p seed d) ids)=(d,0):=by
 have a:∀x∈dF p seed (dE p seed d) ids,Ar p x:=fun x f=>(Ld B.may).1 (qN.1 (B.Lf hid) x f);have g:=B.ZL hid;have c:=TX (seed:=seed) B.may a;rw[nU]at c;have h:=(GL B.may).1 b;have e:=kN c (iQ p seed ids) (ZM a) h (by rw[B.nD,B.size];exact g);unfold jX;rw[B.may,B.Lf hid,nU,b];simp only[Bool.and_self,if_true];rw[if_pos e.2,<-e.1,B.out]
theorem RY(b:bA p=true){l:List (Int×Row)}(c:l.all (jK p)=true)(a:dQ p seed (l.map qK)=false):jX p seed l=([],9):=by
 unfold jX;rw[b,c,a];rfl
end
end Wl
namespace Go.Qw
open Go Go.Vc Go.Proofs Wl
end Go.Qw
namespace Wl
section
variable {p:Int×Int×Int} {seed:Int} {d:Row} {K H w n:Nat}
end
theorem TY{n:Nat}{A:aQ}(p:aY n A)(d:bT A=n){y:Nat->UInt8}(s:∀r∈A,bG (fun j=>aE r j) y n=0):∀i,i<n->y i=0:=by
 intro i l;let Y:aQ:=(qy n).map fun c=>[y c]
 have o:aY 1 (qg A.length (aM 1)):=fun r d=>by rw[(w8.1 d).2];rfl
 have a:A.length=(qg A.length (aM 1)).length:=by simp
 have f:∀j,j<A.length->av (qg A.length (aM 1)) j=aM 1:=fun j g=>by rw[bj (by simpa using g)];simp
 have e:∀z:Nat->UInt8,(∀r∈A,bG (fun j=>aE r j) z n=0)->eV n 1 A (qg A.length (aM 1)) ((qy n).map fun c=>[z c]):=fun z v=>by
  have b:aY 1 ((qy n).map fun c=>[z c]):=fun r d=>by obtain⟨c,_,rfl⟩:=qC.1 d;rfl
  refine⟨by simp,b,fun j g=>?_⟩;rw[f j g];refine dZ (n:=1) (gK b (by simp) _ n (ql _)) rfl fun k w=>?_;obtain rfl:k=0:=by omega
  rw[ge b (by simp) _ 0 n (ql _),bU,<-v _ (mem_row g)];refine fw n (fun _ _=>rfl) fun c t=>?_;rw[bj (by simpa using t)];simp[aE]
 have u:=(kN a p o d (e (fun _=>0) fun r _=>dot_zero' r n)).1;have q:=(kN a p o d (e y s)).1;have h:aE (av ((qy n).map fun c=>[y c]) i) 0=aE (av ((qy n).map fun _=>[(0:UInt8)]) i) 0:=congrArg (fun m=>aE (av m i) 0) (q.trans u.symm);rw[bj (by simpa using l),bj (by simpa using l)]at h;simpa[aE]using h
where
 dot_zero' (r:Row):∀n,bG (fun j=>aE r j) (fun _=>(0:UInt8)) n=0
  |0=>rfl
  |n+1=>by rw[bG,dot_zero' r n,Gf.mul_zero];rfl
section
variable {p:Int×Int×Int} {seed:Int} {d:Row} {K H w n:Nat}
theorem adS{ids c:aB}(h:∀i∈ids,i∈c):∀r∈cG p seed ids,r∈cG p seed c:=fun r a=>by
 unfold cG at*;cases hm:bA p
 ·rw[hm]at a;simp at a
 ·rw[hm,if_pos rfl,qF]at a;rw[if_pos rfl,qF];rcases a with a|a
  ·exact .inl a
  ·obtain⟨i,b,rfl⟩:=qC.1 a;rw[qJ]at b;exact .inr (qC.2 ⟨i,qJ.2 ⟨h i b.1,b.2⟩,rfl⟩)
theorem ZN(d:bA p=true){ids a:aB}(h:∀i∈ids,i∈a)(e:dQ p seed ids=true):dQ p seed a=true:=by
 have c:=(GL d).1 e;refine(GL d).2 ?_;have g:=uJ (iQ p seed a);by_cases b:bT (cG p seed a)<(bn p).toNat
 ·exfalso;obtain⟨y,⟨i,k,j⟩,f⟩:=kernel (iQ p seed a) b;exact j (TY (iQ p seed ids) c (fun r c=>f r (adS h r c)) i k)
 ·omega
end
end Wl
namespace Go.Qw
open Go Go.Vc Go.Proofs Wl
theorem sG(a b:cV):kc a b=true↔a.object=b.object/\a.block=b.block/\a.id=b.id:=by unfold kc;rw[decide_eq_true_eq]
theorem UG{l:List cV}{i:Nat}(a:i<l.length)(b:oV l i=true):l[i]∈oW l:=by
 unfold oW;exact qC.2 ⟨i,qJ.2 ⟨qI.2 a,b⟩,kl _ a⟩
theorem abL{l:List cV}{r:cV}(h:r∈l):∃c∈oW l,kc c r=true:=by
 have e:∀i (a:i<l.length),∃c∈oW l,kc c l[i]=true:=by
  intro i
  induction i with
  |zero=>intro a;exact⟨l[0],UG a (by unfold oV;simp),(sG _ _).2 ⟨rfl,rfl,rfl⟩⟩
  |succ i ih=>
   intro a;cases hk:oV l (i+1)with
   |true=>exact⟨_,UG a hk,(sG _ _).2 ⟨rfl,rfl,rfl⟩⟩
   |false=>
    obtain⟨c,f,d⟩:=ih (by omega);unfold oV at hk;rw[Bool.or_eq_false_iff,Bool.not_eq_false']at hk;have b:=hk.2;rw[Nat.add_sub_cancel,kl _ a,kl _ (show i<l.length by omega)]at b;rw[sG]at d b;exact⟨c,f,(sG _ _).2 ⟨by rw[d.1,b.1],by rw[d.2.1,b.2.1],by rw[d.2.2,b.2.2]⟩⟩
 obtain⟨i,a,rfl⟩:=qE h;exact e i a
theorem gY{m:aD}{r:cV}:dv m r=true↔iC r=true/\r.p=m.p/\∃x∈m.aL,x.object=r.object/\r.block<(x.tries.length:Int)/\r.seed=cE r.object r.block (x.tries.getD r.block.toNat 0):=by
 unfold dv;rw[qA,qA,decide_eq_true_eq,yb];simp only[qA,decide_eq_true_eq]
theorem RZ{m:aD}(e:bQ m=true){x y:Wl.cm}(d:x∈m.aL)(f:y∈m.aL)(h:x.object=y.object):x=y:=by
 have c:=zj.1 ((cD m).1 e).2.2.2.2.2.2;obtain⟨i,b,rfl⟩:=qE d;obtain⟨j,a,rfl⟩:=qE f;rcases yq i j with hl|rfl|hl
 ·exact absurd h (c i j b a hl)
 ·rfl
 ·exact absurd h.symm (c j i a b hl)
theorem ZO{m:aD}(e:bQ m=true){x y:Wl.cm}(d:x∈m.aL)(f:y∈m.aL)(h:x.name=y.name):x=y:=by
 have c:=zj.1 ((cD m).1 e).2.2.2.2.2.1;obtain⟨i,b,rfl⟩:=qE d;obtain⟨j,a,rfl⟩:=qE f;rcases yq i j with hl|rfl|hl
 ·exact absurd h (Gw (c i j b a hl))
 ·rfl
 ·exact absurd h.symm (Gw (c j i a b hl))
def fI(m:aD)(C:Int->aU)(o b:Int):aU:=(splitB m.p (C o)).getD b.toNat []
def DC(m:aD)(C:Int->aU)(r:cV):Prop:=r.data=xD m.p r.seed (fI m C r.object r.block) r.id
theorem abM{m:aD}{C:Int->aU}{r a:cV}(v:bQ m=true)(p:dv m r=true)(t:dv m a=true)(f:DC m C r)(g:DC m C a)(h:kc a r=true):a=r:=by
 obtain⟨_,j,k,c,i,_,w⟩:=gY.1 p;obtain⟨_,u,x2,d,s,_,l⟩:=gY.1 t;rw[sG]at h;obtain⟨b,e,n⟩:=h;have q:k=x2:=RZ v c d (by rw[i,s,b]);subst q;have o:a.seed=r.seed:=by rw[w,l,b,e]
 unfold DC at f g;cases r;cases a;simp only at*;subst b e n o;rw[j,u,f,g]
structure gI (m:aD) (C:Int->aU) (c:aU):Prop where
 old:∀r,cP c=some r->r.object<m.next
 tru:∀r,cP c=some r->dv m r=true->DC m C r
 page:∀g,Ck c=some g->g.seq<=m.seq/\(g.seq=m.seq->c∈bf m)
theorem Sa{m:aD}{C:Int->aU}{l:cv}(o:bQ m=true)(g:∀c∈l,gI m C c){c:aU}(i:c∈l){r:cV}(h:cP c=some r)(e:dv m r=true):r∈jm m l:=by
 have b:r∈(l.filterMap (dP m)).mergeSort oa:=List.mem_mergeSort.2 (List.mem_filterMap.2 ⟨c,i,by unfold dP;rw[h];dsimp only;rw[if_pos e]⟩);obtain⟨j,k,n⟩:=abL b;obtain⟨p,f,d,a⟩:=Dv (m:=m) (l:=l) (r:=j) k;have:=abM o e a ((g c i).tru r h e) ((g p f).tru j d a) n;rw[<-this];exact k
theorem AG{m:aD}{l:cv}{r:cV}(h:r∈jm m l):dI r∈l/\cP (dI r)=some r/\dv m r=true:=by
 obtain⟨c,b,a,d⟩:=Dv h;rw[(Vo a).1];exact⟨b,a,d⟩
theorem Ht{n:aD}(C:Int->aU){c:aU}(e:bQ n=true)(h:c∈bf n):gI n C c:=by
 have h0:=lx h;refine⟨fun r a=>(by rw[h0]at a;cases a),fun r a _=>(by rw[h0]at a;cases a),fun g b=>?_⟩;rw[NT]at h;obtain⟨i,d,rfl⟩:=qC.1 h;rw[WI e (qI.1 d)]at b;injection b with b
 subst b;exact⟨Int.le_refl _,fun _=>by rw[NT];exact qC.2 ⟨i,d,rfl⟩⟩
theorem adT{m:aD}{C:Int->aU}{l:cv}(e:bQ m=true)(a:∀c∈l,gI m C c):∀c∈jH m l,gI m C c:=fun c b=>by
 rcases qF.1 b with h|h
 ·exact Ht C e h
 ·obtain⟨r,d,rfl⟩:=qC.1 h;exact a _ (AG d).1
theorem UH{m:aD}{C:Int->aU}{d:bv}{N:Int}(e:bQ m=true)(b:∀c∈d.l,gI m C c):∀c∈(dS m d N).l,gI m C c:=fun c a=>by
 unfold dS at a;split at a
 ·exact b c a
 ·exact adT e b c a
theorem Sb{m:aD}{C:Int->aU}{d:bv}{N:Int}(f:bQ m=true)(b:∀c∈d.l,gI m C c){r:cV}(a:dI r∈d.l)(e:cP (dI r)=some r)(g:dv m r=true):dI r∈(dS m d N).l:=by
 unfold dS;split
 ·exact a
 ·exact wW _ (qC.2 ⟨r,Sa f b a e g,rfl⟩)
theorem WX{r:cV}(h:iC r=true):Ck (dI r)=none:=by
 have a:=nZ h;unfold Ck dI;rw[if_pos h,Ah];dsimp only;rw[if_neg (by rintro⟨h,_⟩;exact absurd h (by decide))]
theorem DD{m n:aD}{C D:Int->aU}{o b:Int}(a:n.p=m.p)(h:D o=C o):fI n D o b=fI m C o b:=by unfold fI;rw[a,h]
theorem DC.congr{m n:aD}{C D:Int->aU}{r:cV}(a:n.p=m.p)(b:D r.object=C r.object)(h:DC m C r):DC n D r:=by
 unfold DC at h⊢;rw[DD a b,a];exact h
theorem Lh{m n:aD}{r:cV}(d:n.p=m.p)(a:∀x∈n.aL,x∈m.aL)(h:dv n r=true):dv m r=true:=by
 obtain⟨e,c,x,b,h3⟩:=gY.1 h;exact gY.2 ⟨e,by rw[c,d],x,a x b,h3⟩
theorem gI.next{m n:aD}{C:Int->aU}{c:aU}(h:gI m C c)(d:n.p=m.p)(j:m.next<=n.next)(k:m.seq<n.seq)(a:∀x∈n.aL,x∈m.aL):gI n C c:=
 ⟨fun r b=>by have:=h.old r b;omega,fun r b f=>(h.tru r b (Lh d a f)).congr d rfl,fun g i=>by have:=(h.page g i).1;exact⟨by omega,fun e=>by omega⟩⟩
def ji(C:Int->aU)(o:Int)(b:aU):Int->aU:=fun k=>if k=o then b else C k
theorem gI.with{m:aD}{C:Int->aU}{e:Wl.cm}{b c:aU}(h:gI m C c)(o:e.object=m.next):gI (df m e) (ji C m.next b) c:=by
 refine⟨fun r a=>?_,fun r a k=>?_,fun g f=>?_⟩
 ·have:=h.old r a;show r.object<m.next+1;omega
 ·have j:=h.old r a;obtain⟨i,l,x,d,h3,n⟩:=gY.1 k;rcases nT.1 d with d|rfl
  ·refine(h.tru r a (gY.2 ⟨i,l,x,d,h3,n⟩)).congr (m:=m) rfl ?_;unfold ji;rw[if_neg (by omega)]
  ·omega
 ·have:=(h.page g f).1;show g.seq<=m.seq+1/\(g.seq=m.seq+1->_)
  exact⟨by omega,fun e=>by omega⟩
theorem afp{m:aD}{C:Int->aU}{e:Wl.cm}{b:aU}{seed:Int}{i id:Nat}(d:0<=seed/\seed<4294967296)(c:iC (kV m m.next i seed ((splitB m.p b).getD i []) id)=true):
  gI (df m e) (ji C m.next b) (dI (kV m m.next i seed ((splitB m.p b).getD i []) id)):=by
 have a:=rQ c d;refine⟨fun r h=>?_,fun r h j=>?_,fun g h=>?_⟩
 ·rw[a]at h;injection h with h;subst h
  show m.next<m.next+1;omega
 ·rw[a]at h;injection h with h;subst h
  have f:fI (df m e) (ji C m.next b) m.next (i:Int)=(splitB m.p b).getD i []:=by
   unfold fI ji;rw[if_pos rfl,qp];rfl
  show xD m.p seed ((splitB m.p b).getD i []) id=xD (df m e).p seed (fI (df m e) (ji C m.next b) m.next (i:Int)) id;rw[f];rfl
 ·rw[WX c]at h;cases h
structure fX (m:aD) (C:Int->aU) (ds:aX):Prop where
 may:bQ m=true
 len:ds.length=64
 cells:∀k d,bR ds k=some d->∀c∈d.l,gI m C c
 ents:∀e∈m.aL,((C e.object).length:Int)=e.length/\ct m.p e.object (splitB m.p (C e.object)).length=some e.tries
theorem fX.old{m:aD}{C:Int->aU}{ds:aX}(S:fX m C ds){e:Wl.cm}(a:e∈m.aL):e.object<m.next:=((iv m e).1 (((cD m).1 S.may).2.2.2.2.1 e a)).2.1.2
theorem DE{ds b:aX}{f:Int->bv->bv}(h:∀k,bR b k=(bR ds k).map (f k)){k:Int}{d:bv}(a:bR b k=some d):∃c,bR ds k=some c/\d=f k c:=by
 rw[h]at a;cases h0:bR ds k with
 |none=>rw[h0]at a;cases a
 |some c=>rw[h0]at a;injection a with a;exact⟨c,rfl,a.symm⟩
theorem UI{n:aD}{C:Int->aU}{b:cv}{d:bv}(f:∀c∈d.l,gI n C c)(e:∀c∈b,gI n C c):∀c∈(eE b d).l,gI n C c:=fun c a=>by
 rw[Cj]at a;rcases qF.1 a with h|h
 ·exact f c h
 ·exact e c h
def rG(m:aD)(ds:aX)(t:aB)(b:aU)(n:aD)(k:Int)(d:bv):bv:=
 if k∈bg ds m.drives then eE ((gP m m.next t (splitB m.p b) (bg ds m.drives) k (splitB m.p b).length).map dI++bf n) (dS m d (iJ (bf n).length (cR m m.next t (splitB m.p b) (bg ds m.drives) (splitB m.p b).length) k))else d
theorem UJ{m:aD}{offs:Int}{w:Pow}{ds:aX}{C:Int->aU}{name:ByteArray}{b:aU}(u:w.calm)(S:fX m C ds):
  ((∃e,e≠0/\cK m offs w ds name b=(e,m,w,ds))/\((cK m offs w ds name b).1=cQ m (fO w offs) ds name b.length∨(cQ m (fO w offs) ds name b.length=0/\((cK m offs w ds name b).1=8/\ct m.p m.next (splitB m.p b).length=none∨(cK m offs w ds name b).1=7/\∃t,ct m.p m.next (splitB m.p b).length=some t/\cU m ds (bg ds m.drives) (iJ (bf (df m ⟨name,m.next,b.length,t⟩)).length (cR m m.next t (splitB m.p b) (bg ds m.drives) (splitB m.p b).length))=false))))∨
  (cQ m (fO w offs) ds name b.length=0/\∃t a,ct m.p m.next (splitB m.p b).length=some t/\cK m offs w ds name b=(0,df m ⟨name,m.next,b.length,t⟩,w,a)/\fX (df m ⟨name,m.next,b.length,t⟩) (ji C m.next b) a/\
   ∀k,bR a k=(bR ds k).map (rG m ds t b (df m ⟨name,m.next,b.length,t⟩) k)):=by
 obtain⟨I,B⟩:=NS (offs:=offs) (name:=name) (b:=b) u S.len S.may;by_cases f:cQ m (fO w offs) ds name b.length=0
 ·obtain⟨F,H⟩:=B f;cases ht:ct m.p m.next (splitB m.p b).length with
  |none=>rw[F ht];exact .inl ⟨⟨8,by decide,rfl⟩,.inr ⟨f,.inl ⟨rfl,rfl⟩⟩⟩
  |some t=>
   obtain⟨l,y,x⟩:=H t ht;cases hf:cU m ds (bg ds m.drives) (iJ (bf (df m ⟨name,m.next,b.length,t⟩)).length (cR m m.next t (splitB m.p b) (bg ds m.drives) (splitB m.p b).length))with
   |false=>rw[y hf];exact .inl ⟨⟨7,by decide,rfl⟩,.inr ⟨f,.inr ⟨rfl,t,rfl,hf⟩⟩⟩
   |true=>
    obtain⟨a,E,v,z⟩:=x hf;have g:∀k,bR a k=(bR ds k).map (rG m ds t b (df m ⟨name,m.next,b.length,t⟩) k):=z;refine .inr ⟨f,t,a,rfl,E,⟨l,v,fun k d G=>?_,fun e n=>?_⟩,g⟩
    ·obtain⟨s,h0,rfl⟩:=DE g G;unfold rG;split
     ·refine UI (fun c j=>(UH S.may (S.cells k s h0) c j).with rfl) fun c j=>?_;rcases qF.1 j with h|h
      ·obtain⟨r,o,rfl⟩:=qC.1 h;obtain⟨i,id,rfl,A,hid⟩:=KT o;obtain⟨J,K,z3,z4,z5⟩:=kz f;have q:=((dW m).1 ((cD m).1 S.may).1)
       have h8:=Ci q.2.2.1 (fun h=>z4 (.inl h));exact afp (lA _ _ _) (Mr S.may (by have:¬16777215<m.next:=fun h=>z5 (.inr (.inl h));omega) h8 ht A hid)
      ·exact Ht _ l h
     ·exact fun c j=>(S.cells k s h0 c j).with rfl
    ·rcases nT.1 n with n|rfl
     ·have D:=S.old n;have:ji C m.next b e.object=C e.object:=by unfold ji;rw[if_neg (by omega)]
      rw[this];exact S.ents e n
     ·have:ji C m.next b m.next=b:=by unfold ji;rw[if_pos rfl]
      show((ji C m.next b m.next).length:Int)=(b.length:Int)/\ct m.p m.next (splitB m.p (ji C m.next b m.next)).length=some t;rw[this];exact⟨rfl,ht⟩
 ·rw[I f];exact .inl ⟨⟨_,f,rfl⟩,.inl rfl⟩
theorem WY{m n:aD}{offs:Int}{w:Pow}{ds:aX}{C:Int->aU}(v:w.calm)(S:fX m C ds)(E:fO w offs=false)(o:bQ n=true)(B:n.seq=m.seq+1)(l:n.p=m.p)(t:m.next<=n.next)(a:∀x∈n.aL,x∈m.aL):
  ((bg ds n.drives=[]∨cU m ds (bg ds n.drives) (fun _=>((bf n).length:Int))=false)/\oJ m offs w ds n=(7,m,w,ds))∨
  ((bg ds n.drives≠[]/\cU m ds (bg ds n.drives) (fun _=>((bf n).length:Int))=true)/\∃b,oJ m offs w ds n=(0,n,w,b)/\fX n C b/\
   ∀k,bR b k=(bR ds k).map fun d=>if k∈bg ds n.drives then eE (bf n) (dS m d (bf n).length)else d):=by
 obtain⟨F,A⟩:=RK (m:=m) (n:=n) (offs:=offs) (w:=w) (ds:=ds) v S.len E o B;by_cases i:bg ds n.drives=[]∨cU m ds (bg ds n.drives) (fun _=>((bf n).length:Int))=false
 ·exact .inl ⟨i,F i⟩
 ·have q:bg ds n.drives≠[]:=fun h=>i (.inl h);have u:cU m ds (bg ds n.drives) (fun _=>((bf n).length:Int))=true:=by
   cases h:cU m ds (bg ds n.drives) (fun _=>((bf n).length:Int))with
   |false=>exact absurd (.inr h) i
   |true=>rfl
  obtain⟨b,D,y,r⟩:=A q u;refine .inr ⟨⟨q,u⟩,b,D,⟨o,y,fun k d j=>?_,fun e z=>?_⟩,r⟩
  ·obtain⟨s,h0,rfl⟩:=DE (f:=fun k d=>if k∈bg ds n.drives then eE (bf n) (dS m d (bf n).length)else d) r j;split
   ·exact UI (fun c g=>(UH S.may (S.cells k s h0) c g).next l t (by omega) a) fun c g=>Ht C o g
   ·exact fun c g=>(S.cells k s h0 c g).next l t (by omega) a
  ·have:=S.ents e (a e z);rw[l];exact this
end Go.Qw
namespace Wl
open Go Go.Qw Go.Vc
def mK(p:Int×Int×Int)(a:cv)(n:Int):aU:=if bA p=true/\0<=n/\(a.length:Int)=countP p n/\(a.all fun x=>decide (x.length=dp p))=true then a.flatten.take n.toNat else[]
noncomputable def jk(m:aD)(ds:aX)(o:Int)(a:aB)(k:Nat):aU×Int:=jX m.p (cE o k (a.getD k 0)) (gX m ds (bg ds m.drives) o k)
def Li(m:aD)(ds:aX)(k:Int):Bool:=match bR ds k with|some d=>mv m d.l|none=>false
def ro(m:aD)(ds:aX):Bool:=(bg ds m.drives).any (Li m ds)
noncomputable def Bi(m:aD)(ds:aX)(e:cm):aU×Int:=
 if ro m ds=false then([],11)else if((qy e.tries.length).all fun k=>decide ((jk m ds e.object e.tries k).2=0))=true then(mK m.p ((qy e.tries.length).map fun k=>(jk m ds e.object e.tries k).1) e.length,0)else([],11)
noncomputable def iL(m:aD)(offs:Int)(w:Pow)(ds:aX)(name:ByteArray):aU×Int:=
 if fO w offs then([],14)else match m.aL.find? (dX name)with
 |none=>([],5)
 |some e=>Bi m ds e
def oK(m:aD)(ds:aX)(o b:Int):aB:=(gX m ds (bg ds m.drives) o b).map qK
def Se(m:aD)(ds:aX)(e:cm):Bool:=ro m ds&&(qy e.tries.length).all fun k=>dQ m.p (cE e.object k (e.tries.getD k 0)) (oK m ds e.object k)
theorem Lj(a:Nat)(b:aU):∀n,((qy n).map (ug a b)).flatten=b.take (n*a)++qg (n*a-b.length) 0
 |0=>by simp
 |n+1=>by
  rw[zt,qW,List.flatten_append,Lj a b n,zK];simp only[wj,List.map_nil,List.flatten_cons,List.flatten_nil,qU];unfold ug;by_cases h:n*a<=b.length
  ·have c:n*a-b.length=0:=by omega
   rw[c,vo,qU,<-qo,<-List.take_add,List.drop_replicate,qZ];congr 2;omega
  ·have d:b.drop (n*a)=[]:=zh (by omega);rw[d,List.take_nil,List.nil_append,List.length_nil,List.drop_zero,qi (by omega),qi (by omega),qo,List.replicate_append_replicate];congr 2;omega
theorem Il{p:Int×Int×Int}(a:bA p=true)(n:Nat):n<=(countP p n).toNat*dp p:=by
 obtain⟨f,g,d⟩:=kw a;unfold countP;rw[a,zU];by_cases h0:0<(n:Int)
 ·rw[decide_eq_true h0,if_pos rfl,<-d];have h:=w7 ((n:Int)-1) (show(0:Int)<(dp p:Int)by omega);have b:=Int.mul_ediv_add_emod ((n:Int)-1) (dp p:Int);have h3:0<=((n:Int)-1)/(dp p:Int):=Int.ediv_nonneg (by omega) (by omega);obtain⟨q,c⟩:=Int.eq_ofNat_of_zero_le h3;rw[c]at b⊢;have e:((q:Int)+1).toNat=q+1:=by omega
  rw[e,zK];have:(dp p:Int)*(q:Int)=((q*dp p:Nat):Int):=by rw[zW,Int.mul_comm]
  omega
 ·omega
theorem WZ{p:Int×Int×Int}(a:bA p=true)(b:aU):mK p (splitB p b) b.length=b:=by
 unfold mK;rw[if_pos ⟨a,by omega,Gx a b,qN.2 fun x c=>by
  unfold splitB at c;obtain⟨i,_,rfl⟩:=qC.1 c;exact decide_eq_true (Gj _ _ _)⟩]
 have:=Il a b.length;unfold splitB;rw[Lj,qi this,qp,List.take_append_of_le_length (ql _),qX]
end Wl
namespace Go.Qw
open Go Go.Vc Go.Proofs Wl
section
variable {m:aD} {C:Int->aU} {ds:aX} {offs:Int} {w:Pow}
theorem Xa{o b k:Int}{x:Int×aU}(h:x∈sC m ds o b k):∃d r,bR ds k=some d/\r∈jm m d.l/\r.object=o/\r.block=b/\x=(r.id,r.data):=by
 unfold sC at h;cases hd:bR ds k with
 |none=>rw[hd]at h;cases h
 |some d=>
  rw[hd]at h;unfold xF at h;obtain⟨r,c,rfl⟩:=qC.1 h;obtain⟨e,a⟩:=qJ.1 c;rw[qA,decide_eq_true_eq,decide_eq_true_eq]at a;exact⟨d,r,rfl,e,a.1,a.2,rfl⟩
theorem fX.entry(S:fX m C ds){e:Wl.cm}(a:e∈m.aL):gd m e=true:=((cD m).1 S.may).2.2.2.2.1 e a
theorem fX.Sf(S:fX m C ds):bA m.p=true:=((dW m).1 ((cD m).1 S.may).1).2.2.1
theorem fX.blocks(S:fX m C ds){e:Wl.cm}(a:e∈m.aL):(splitB m.p (C e.object)).length=e.tries.length:=(iH (S.ents e a).2).symm
theorem fX.fp(S:fX m C ds){e:Wl.cm}(a:e∈m.aL){k:Nat}(b:k<e.tries.length):∃K H w n,bM m.p (cE e.object k (e.tries.getD k 0)) (fI m C e.object k) K H w n:=by
 have h:=UD S.Sf (S.ents e a).2 (i:=k) (by rw[S.blocks a];exact b);unfold fI;rw[qp];exact h
theorem fX.sym(S:fX m C ds){e:Wl.cm}(q:e∈m.aL){k:Nat}(A:k<e.tries.length){s:Int}{x:Int×aU}(h:x∈sC m ds e.object k s):
  bp x.1=true/\x.2=ff m.p.2.2.toNat (dE m.p (cE e.object k (e.tries.getD k 0)) (fI m C e.object k)) (cA (bn m.p).toNat (cE e.object k (e.tries.getD k 0)) x.1):=by
 obtain⟨d,r,u,v,b,g,rfl⟩:=Xa h;obtain⟨w,t,j⟩:=AG v;obtain⟨n,z,y,o,l,_,i⟩:=gY.1 j;have c:y=e:=RZ S.may o q (by rw[l,b]);subst c;have hid:=((jO r).1 n).2.2.1;have a:bp r.id=true:=by unfold bp;simp;omega
 have f:=(S.cells s d u _ w).tru r t j;unfold DC at f;rw[b,g]at f;rw[b,g,qp]at i;refine⟨a,?_⟩;show r.data=_;rw[f,i];unfold xD;rw[if_pos a]
theorem Lk{α β:Type}{f:α->β}:∀{l:List (α×β)},(∀x∈l,x.2=f x.1)->l=(l.map qK).map fun i=>(i,f i)
 |[],_=>rfl
 |x::l,h=>by
  have c:=h x q0;have a:=Lk (l:=l) fun y b=>h y (qY _ b);rw[wj,wj,<-a,<-c]
theorem fX.syms(S:fX m C ds){e:Wl.cm}(g:e∈m.aL){k:Nat}(d:k<e.tries.length)(a:aB):
  gX m ds a e.object k=dF m.p (cE e.object k (e.tries.getD k 0)) (dE m.p (cE e.object k (e.tries.getD k 0)) (fI m C e.object k)) ((gX m ds a e.object k).map qK)/\∀i∈(gX m ds a e.object k).map qK,bp i=true:=by
 have c:∀x∈gX m ds a e.object k,bp x.1=true/\x.2=ff m.p.2.2.toNat (dE m.p (cE e.object k (e.tries.getD k 0)) (fI m C e.object k)) (cA (bn m.p).toNat (cE e.object k (e.tries.getD k 0)) x.1):=fun x b=>by
  unfold gX at b;obtain⟨s,_,b⟩:=zQ.1 b;exact S.sym g d b
 refine⟨Lk fun x b=>(c x b).2,fun i f=>?_⟩;obtain⟨x,b,rfl⟩:=qC.1 f;exact(c x b).1
theorem fX.jk(S:fX m C ds){e:Wl.cm}(c:e∈m.aL){k:Nat}(b:k<e.tries.length):
  Wl.jk m ds e.object e.tries k=if dQ m.p (cE e.object k (e.tries.getD k 0)) (oK m ds e.object k)=true then(fI m C e.object k,0)else([],9):=by
 obtain⟨K,H,w,n,B⟩:=S.fp c b;obtain⟨f,d⟩:=S.syms c b (bg ds m.drives);unfold Wl.jk;rw[f];by_cases a:dQ m.p (cE e.object k (e.tries.getD k 0)) (oK m ds e.object k)=true
 ·rw[if_pos a];exact B.dec d a
 ·rw[if_neg a];refine RY B.may (B.Lf d) ?_;rw[nU];exact eq_false_of_ne_true a
theorem fX.Bi(S:fX m C ds){e:Wl.cm}(b:e∈m.aL):Wl.Bi m ds e=if Se m ds e=true then(C e.object,0)else([],11):=by
 have a:((qy e.tries.length).all fun k=>decide ((Wl.jk m ds e.object e.tries k).2=0))=(qy e.tries.length).all fun k=>dQ m.p (cE e.object k (e.tries.getD k 0)) (oK m ds e.object k):=by
  rw[y9,qN,qN];refine forall_congr' fun k=>forall_congr' fun d=>?_;rw[S.jk b (qI.1 d)];cases dQ m.p (cE e.object k (e.tries.getD k 0)) (oK m ds e.object k)with
  |true=>simp
  |false=>simp
 unfold Wl.Bi Se;rw[a];cases hw:ro m ds with
 |false=>rw[if_pos rfl,Bool.false_and,if_neg (by decide)]
 |true=>
  rw[if_neg (by decide),zU];cases hf:(qy e.tries.length).all fun k=>dQ m.p (cE e.object k (e.tries.getD k 0)) (oK m ds e.object k)with
  |false=>rw[if_neg (by decide),if_neg (by decide)]
  |true=>
   rw[if_pos rfl,if_pos rfl];have g:((qy e.tries.length).map fun k=>(Wl.jk m ds e.object e.tries k).1)=splitB m.p (C e.object):=by
    apply List.ext_getElem
    ·simp[S.blocks b]
    ·intro k c f;rw[yc,vx];simp only[qD,List.length_range]at c;rw[S.jk b c,if_pos (qN.1 hf k (qI.2 c))];unfold fI;rw[qp,kl _ f]
   rw[g,<-(S.ents e b).1,WZ S.Sf]
theorem fX.get(S:fX m C ds)(f:fO w offs=false)(name:ByteArray):
  (∀e∈m.aL,e.name=name->iL m offs w ds name=if Se m ds e=true then(C e.object,0)else([],11))/\((∀e∈m.aL,e.name≠name)->iL m offs w ds name=([],5)):=by
 refine⟨fun e b d=>?_,fun c=>?_⟩
 ·have a:m.aL.find? (dX name)=some e:=by
   cases a:m.aL.find? (dX name)with
   |none=>
    have:=w6.1 a e b;exact absurd (by unfold dX;rw[d];simp) this
   |some y=>
    have g:=List.find?_some a;have i:=List.mem_of_find?_eq_some a;rw[ZO S.may i b (by rw[d];exact CR (by unfold dX at g;simpa using g))]
  unfold iL;rw[f,if_neg (by decide),a];exact S.Bi b
 ·have a:m.aL.find? (dX name)=none:=w6.2 fun e b h=>c e b (CR (by unfold dX at h;simpa using h));unfold iL;rw[f,if_neg (by decide),a]
end
theorem Mz{a:Nat}:∀{l:cv},(∀x∈l,x.length=a)->l.flatten.length=l.length*a
 |[],_=>by simp
 |x::l,h=>by
  rw[List.flatten_cons,qw,h x q0,Mz fun y b=>h y (qY _ b),zi,zK];omega
theorem Xb(p:Pm)(l:Sl)(c:cv)(n:Int)(h:Heap)(K:fo h l 1 az c)(hn:n<=2^20)(X:c.length<=2^10):
  ab xv 161 #[ir p,l,xk xq n] h fun v h'=>∃(r:Sl) (b:Bool),v=.tuple #[r,xo b]/\Sp h h' [EA (ft 1 az) r (mK p c n)]:=by
 refine LY p l n ?_;unfold FO;have m:=K.len;refine(Sp.refl h).boxed fun F P A=>?_;have A:Sp h P [ar F 25 [xk xq p.1,xk xq p.2.1,xk xq p.2.2]]:=A;have f:∀{h':Heap},Sp h h' [ar F 25 [xk xq p.1,xk xq p.2.1,xk xq p.2.2]]->mK p c n=[]->∃(r:Sl) (b:Bool),(.tuple #[xl none 0 0,xo false]:Value)=.tuple #[r,xo b]/\Sp h h' [EA (ft 1 az) r (mK p c n)]:=fun Y V=>by
  rw[V];exact⟨⟨none,0,0⟩,false,rfl,(((Y.nil 5 1 az).cj [1]).Ve 0 rfl fun _=>rfl)⟩
 refine aT ⟨p,(A.box 0 rfl).aF _ rfl,(dz p P).mono ?_⟩;rintro _ Z ⟨rfl,U⟩;have E:=A.up U.ag;refine⟨_,rfl,be (fun e=>f E (by unfold mK;rw[if_neg (by rintro⟨h,_⟩;rw[e]at h;cases h)])) fun e1=>ai (fun e=>f E (by unfold mK;rw[if_neg (by rintro⟨_,h,_⟩;omega)])) fun e2=>?_⟩;have D:bA p=true:=by simpa using e1
 refine⟨p,(E.box 0 rfl).aF _ rfl,(ue p n Z).mono ?_⟩;rintro _ h3 ⟨rfl,R3⟩;have O:=E.up R3.ag;refine⟨_,rfl,bV (fun e=>f O (by unfold mK;rw[if_neg (by rintro⟨_,_,h,_⟩;rw[m]at e;exact e h)])) fun M=>?_⟩;have H:(c.length:Int)=countP p n:=by rw[m]at M;exact M
 obtain⟨s1,s2,s3⟩:=kw D;refine au (fun t:Sl×Nat=>(t.1,(t.2:Int))) (fun t h'=>t.2<=c.length/\(∀x∈c.take t.2,x.length=dp p)/\Sp h h' [ar F 25 [xk xq p.1,xk xq p.2.1,xk xq p.2.2],an 5 t.1 1 az (c.take t.2).flatten]) (fun t=>c.length-t.2) (⟨none,0,0⟩,0) rfl ⟨by simp,by simp,O.nil 5 1 az⟩ ?_;rintro⟨o,i⟩ h4 ⟨N,a,w⟩;dsimp only at N a w⊢;refine ai (fun e=>?_) fun e=>?_
 ·have g:i<c.length:=by
   have W:(i:Int)<(l.len:Int):=e;omega
  refine(K.up w.ag).get i rfl g fun r R=>⟨p,(w.box 0 rfl).aF _ rfl,(Gl p h4 D).mono ?_⟩
  rintro _ h5 ⟨rfl,L⟩;have B:=w.up L.ag;have y:=R.len;refine⟨_,rfl,bV (fun z=>?_) fun z=>?_⟩
  ·refine f (B.cj [0]) ?_;unfold mK;rw[if_neg];rintro⟨_,_,_,h⟩;have:=of_decide_eq_true (qN.1 h _ (qh g));exact z (by rw[y,this])
  ·have J:c[i].length=dp p:=by rw[y]at z;exact vb.1 z
   have u:=Mz a;rw[List.length_take_of_le N]at u;have hb:i*dp p<=2^10*2^10:=zJ (by omega) (by omega);refine B.append ac 1 rfl fi ⟨_,_,rfl,rfl⟩ rfl (by decide) (fun _=>rfl) (Seq.up R L.ag) fT (by omega) fun o' h6 S=>?_;refine⟨(o',i+1),by dsimp only;rw[aj _];rfl,⟨by dsimp only;omega,?_,?_⟩,by dsimp only;omega⟩
   ·dsimp only;intro x j;rw[aH _ _ g]at j;rcases qF.1 j with j|j
    ·exact a x j
    ·rw[qG.1 j];exact J
   ·dsimp only;rw[aH _ _ g,List.flatten_append];simpa using S
 ·rw[qi (by have W:¬(i:Int)<(l.len:Int):=e;omega)]at a w;have u:=Mz a;have s:=w.own 1 rfl;have G:=s.len;obtain⟨k,hk⟩:∃k:Nat,n=k:=⟨n.toNat,by omega⟩
  subst hk;have d:=Il D k;have I:(countP p (k:Int)).toNat=c.length:=by omega
  rw[I,<-u,<-G]at d;have ej:mK p c (k:Int)=c.flatten.take k:=by
   unfold mK;rw[if_pos ⟨D,by omega,H,qN.2 fun x j=>decide_eq_true (a x j)⟩,qp]
  refine VI ac fi k rfl rfl (zk d s.cap) ?_;refine⟨⟨o.ptr,k,k⟩,true,rfl,?_⟩;rw[ej];have B:=(w.cj [1]).Ve 0 rfl fun _=>rfl;refine B.ga 0 rfl fun q T=>?_;have Q:=Seq.take T k (by omega);exact⟨Q.1,Q.2⟩
section
variable {B:aA} {h0 h:Heap} {As:List HP} {a pw:Addr} {offs:Int} {da:List aP} {w:Pow} {ds:aX} {m:aD}
theorem TZ(x:cy)(t:bQ m=true)(H:aa B h0 h (bx bS a pw (bh x) offs da w ds::fS x m::As)):
  ab xv 158 #[xm (some a)] h fun v h'=>v=xo (ro m ds)/\Sp h h' []:=by
 refine BO (some a) ?_;unfold pO;have I:=Ms t;have o:=rU t;refine(Sp.refl h).boxed fun g K f=>?_;have f:Sp h K [ar g 97 [xm (some a)]]:=f;have q:=H.up f.ag;refine⟨some a,(f.box 0 rfl).cell0 rfl,(gO x m (q.at 1 rfl) I q).mono ?_⟩;rintro _ M ⟨D,rfl,p⟩;have c:=f.comp p;have L:(bg ds m.drives).length<=64:=zk (zc _ _) o;refine⟨D,rfl,(NK 234 #[] #[xm (some g)] (Li m ds) D (bg ds m.drives) M (by rfl) (p.seq 0 rfl fun _=>rfl) (by omega) ?_).mono ?_⟩
 ·intro k N h3 l;have j:=q.up (p.up l.ag).ag;have i:bZ h3 g 97 [xm (some a)]:=(c.up l.ag).box 0 rfl;obtain⟨ok,z⟩:=aa.dj j;obtain⟨r,d,y,_⟩:=xH N;have E:=ne t k r;refine yG k g ?_;unfold oE;obtain⟨n,rfl⟩:∃n:Nat,k=n:=⟨k.toNat,by omega⟩
  have G:n<da.length:=by rw[ok.la];omega
  have J:cellOf h3 ((a.add 10).add ((n:Int).toNat*1))=some (.pointer da[n]):=by
   rw[qp,Nat.mul_one];refine z.wn 10 n ?_;rw[su ok.l8,qd G];rfl
  have u:nR da (n:Int)=da[n]:=by unfold nR;rw[if_pos (by omega),qp,qd G];rfl
  obtain⟨b,s,O,e,_⟩:=RH y j;refine⟨some a,i.cell0 rfl,a,rfl,⟨by omega,by omega⟩,da[n],J,some a,i.cell0 rfl,a,rfl,x,z.aF _ rfl,?_⟩;rw[<-u,e];refine(RI x m y e (j.at 1 rfl) I j).mono ?_;rintro _ P ⟨rfl,F⟩;have A:=(i.ag F.ag i.lt).cell0 rfl;refine⟨_,rfl,⟨A,A,trivial⟩,?_,F⟩;unfold Li;rw[y]
 ·rintro _ h3 ⟨rfl,l⟩;exact⟨_,rfl,rfl,.zip (c.up l.ag).ag⟩
theorem adU{name:ByteArray}{l:List Wl.cm}{i:Int}(h:Wc (dX name) l i):(i<0/\l.find? (dX name)=none)∨∃(n:Nat) (a:n<l.length),i=n/\l.find? (dX name)=some l[n]:=by
 rcases h with⟨rfl,h⟩|⟨n,a,rfl,h1,h2⟩
 ·exact .inl ⟨by decide,w6.2 fun e b=>wV.1 h e b⟩
 ·refine .inr ⟨n,a,rfl,List.find?_eq_some_iff_append.2 ⟨h1,l.take n,l.drop (n+1),?_,fun e b=>?_⟩⟩
  ·rw[<-qS a,qx]
  ·have:=wV.1 h2 e b;simpa using this
theorem abN(x:cy)(name:ByteArray)(U:bQ m=true)(L:∀k d,bR ds k=some d->d.l.length<=512)(H:aa B h0 h (bx bS a pw (bh x) offs da w ds::fS x m::As)):
  ab xv 87 #[xm (some a),xn name] h fun v h'=>∃r:Sl,v=.tuple #[r,xk xq (iL m offs w ds name).2]/\Sp h h' [EA (ft 1 az) r (iL m offs w ds name).1]:=by
 refine Ev (some a) name ?_;unfold th;have hz:=Ms U;have am:=rU U;have a0:(bg ds m.drives).length<=64:=zk (zc _ _) am;have f:∀{h':Heap} (e:Int),Sp h h' []->iL m offs w ds name=([],e)->∃r:Sl,(.tuple #[xl none 0 0,xk xq e]:Value)=.tuple #[r,xk xq (iL m offs w ds name).2]/\Sp h h' [EA (ft 1 az) r (iL m offs w ds name).1]:=fun e R he=>by
  rw[he];exact⟨⟨none,0,0⟩,rfl,(R.nil 5 1 az).Ve 0 rfl fun _=>rfl⟩
 refine(NL H).mono ?_;rintro _ M ⟨rfl,rfl⟩;refine⟨_,rfl,bF (fun e=>f 14 (Sp.refl _) (by unfold iL;rw[if_pos e])) fun e1=>?_⟩;refine(find_spec x m name (H.at 1 rfl) hz H).mono ?_;rintro _ h2 ⟨⟨i,rfl,hi⟩,R2⟩;have H2:=H.up R2.ag;refine⟨i,rfl,?_⟩;rcases adU hi with⟨hneg,hf⟩|⟨n,hn,rfl,hf⟩
 ·exact ai (fun _=>f 5 R2 (by unfold iL;rw[if_neg (by rw[e1];decide),hf])) fun e=>absurd hneg e
 refine ai (fun e=>absurd e (Int.not_lt.2 (wu n))) fun _=>?_;obtain⟨E,hE⟩:∃E,E=m.aL[n]:=⟨_,rfl⟩
 have ah:E∈m.aL:=by rw[hE];exact qh hn
 have ep:iL m offs w ds name=Bi m ds E:=by unfold iL;rw[if_neg (by rw[e1];decide),hf,hE]
 rw[ep]at f⊢;refine(TZ x U H2).mono ?_;rintro _ h3 ⟨rfl,R3⟩;have H3:=H2.up R3.ag;have A:Sp M h3 []:=R2.up R3.ag;refine⟨_,rfl,be (fun e=>f 11 A (by unfold Bi;rw[if_pos e])) fun e3=>?_⟩;have e3:ro m ds=true:=by simpa using e3
 have T:=(iv m E).1 (((cD m).1 U).2.2.2.2.1 E ah);have bl:E.tries.length<=8:=by have:=ui T.2.2.1.2;omega
 have a4:=((dW m).1 ((cD m).1 U).1).2.2.1;have ax:=(aa.dj H3).2;have a3:gn M x m:=H.at 1 rfl;obtain⟨ys,F⟩:=cg.fix a3.aL;have a9:=F.2.1;have s:=Fix.row F hn;obtain⟨xe,X⟩:∃xe,xe=ys[n]'(by omega):=⟨_,rfl⟩
 rw[<-hE,<-X]at s;refine⟨a,rfl,x.2.2.2.2.2.2.2,ax.cell rfl,(Seq.up F.1 A.ag).ea (g:=cl) n rfl (by omega) xe (by rw[X]) ?_⟩;refine(Sp.refl h3).alloc ac rfl fun a8 h4 Q4=>?_;refine Q4.storeAll ac 0 rfl rfl (cl xe) rfl rfl rfl rfl fun h5 Q5=>?_;have Q5:Sp h3 h5 [ar a8 170 (cl xe)]:=Q5;have R5:Sp M h5 [ar a8 170 (cl xe)]:=A.comp Q5;have P:Rd M xe.2.2.2 1 aC E.tries:=s.2;have a6:=P.len;have eo:xe.2.1=E.object:=s.1.2.1;have el:xe.2.2.1=E.length:=s.1.2.2;have R5:=R5.EX 23 5 1 az;refine⟨xe.2.2.2,(Q5.box 0 rfl).cell rfl,?_⟩;refine au (fun t:Sl×Nat=>(t.1,(t.2:Int))) (fun t h'=>t.2<=E.tries.length/\(∀j,j<t.2->(jk m ds E.object E.tries j).2=0)/\Sp M h' [dR t.1 ((qy t.2).map fun j=>(jk m ds E.object E.tries j).1),ar a8 170 (cl xe)]) (fun t=>E.tries.length-t.2) (⟨none,0,0⟩,0) rfl ⟨by simp,fun j u=>absurd u (Nat.not_lt_zero _),R5⟩ ?_;rintro⟨o,k⟩ h6 ⟨hk,J,y⟩;dsimp only at hk J y⊢;have H6:=H.up y.ag;have Y:=(aa.dj H6).2;have W:gn h6 x m:=H6.at 1 rfl;have cp:∀{h':Heap},bZ h' a 138 (dD (bh x) pw offs da)->al h' (a.add 2) 0 [xk xq m.p.1,xk xq m.p.2.1,xk xq m.p.2.2]:=fun{h'} hb=>by
  rw[<-W.p];exact⟨by rw[addr_add];exact hb.cell rfl,by rw[addr_add];exact hb.cell rfl,by rw[addr_add];exact hb.cell rfl,trivial⟩
 refine ai (fun e=>?_) fun e=>?_
 ·have I:k<E.tries.length:=by
   have e':(k:Int)<(xe.2.2.2.len:Int):=e;omega
  refine(Seq.up P y.ag).bt k rfl I E.tries[k] rfl ?_;refine aT ⟨a,rfl,x,Y.aF _ rfl,xe.2.1,(y.box 1 rfl).cell rfl,(gO x m W hz H6).mono ?_⟩;rintro _ h7 ⟨lv,rfl,R7⟩;have H7:=H6.up R7.ag;have q:=(aa.dj H7).2;have V:=y.up R7.ag;refine⟨lv,rfl,⟨(V.box 1 rfl).cell rfl,q.cell0 rfl,q.cell rfl,q.cell rfl,q.cell rfl,q.cell rfl,q.cell rfl,q.cell rfl,q.cell rfl,trivial⟩,?_⟩;rw[eo];refine(Rw x m lv (bg ds m.drives) E.object k (H7.at 1 rfl) hz (R7.seq 0 rfl fun _=>rfl) (by omega) (fun j u=>by obtain⟨_,d,Z,_⟩:=xH u;exact⟨d,Z⟩) H7).mono ?_;rintro _ h8 ⟨r,ss,rfl,R8⟩;have H8:=H7.up R8.ag;have O:=(aa.dj H8).2;have z:=V.up R8.ag;refine⟨r,rfl,trivial,aT ⟨a,rfl,m.p,cp O,xe.2.1,(z.box 1 rfl).cell rfl,(uf xe.2.1 k E.tries[k] h8).mono ?_⟩⟩;rintro _ h9 ⟨rfl,rfl⟩;obtain⟨c1,c2,c3,_⟩:=cp O;have D:Fix kv 2 piv h9 (fun b=>b<h9.size) r ss (gX m ds (bg ds m.drives) E.object k):=R8.at 0 rfl;have a1:fg DB h9 r (gX m ds (bg ds m.drives) E.object k):=⟨ss,D.1,D.2.1,D.2.2⟩
  have a7:(gX m ds (bg ds m.drives) E.object k).length<=64*512:=by
   unfold gX;refine zk (Hs (c:=512) fun j u=>?_) (zp _ a0);obtain⟨_,d,Z,_⟩:=xH u;unfold sC;rw[Z];have M:=Wv m E.object k d.l;have h2:=L j d Z;show(xF m E.object k d.l).length<=512;omega
  rw[eo];refine⟨_,rfl,⟨c1,c2,c3,trivial⟩,(Le m.p (cE E.object k E.tries[k]) r _ h9 a1 (by omega)).mono ?_⟩;rintro _ bd ⟨a5,rfl,G⟩;have eb:jX m.p (cE E.object k E.tries[k]) (gX m ds (bg ds m.drives) E.object k)=jk m ds E.object E.tries k:=by
   unfold jk;rw[kl 0 I]
  rw[eb]at G⊢;have N:=z.up G.ag;refine⟨(a5,(jk m ds E.object E.tries k).2),rfl,trivial,bV (fun e4=>f 11 (.zip N.ag) ?_) fun e4=>?_⟩
  ·unfold Bi;rw[if_neg (by rw[e3];decide),if_neg];intro S;exact e4 (of_decide_eq_true (qN.1 S k (qI.2 I)))
  ·have ad:=(z.comp G).bo 3 [0,2,1];refine aa.GY ac ad fa (by simp;omega) fun o' bb a2=>?_;refine⟨(o',k+1),by dsimp only;rw[aj _];rfl,⟨by dsimp only;omega,fun j u=>?_,?_⟩,by dsimp only;omega⟩
   ·rcases zb.1 u with u|rfl
    ·exact J j u
    ·simpa using e4
   ·dsimp only;rw[zt,qW];exact a2
 ·have ap:k=E.tries.length:=by
   have e':¬(k:Int)<(xe.2.2.2.len:Int):=e;omega
  subst ap;refine⟨a,rfl,m.p,cp Y,xe.2.2.1,(y.box 1 rfl).cell rfl,?_⟩;rw[el];have K:E.length<=2^20:=by
   obtain⟨⟨k1,k2⟩,_,z1,z2⟩:=(bC m.p).1 a4;have:m.p.1*m.p.2.2<=16*24:=Int.mul_le_mul k2 z2 (by omega) (by omega);have:=T.2.2.1.2;omega
  refine(Xb m.p o _ E.length h6 (y.MU fun _=>rfl) K (by simp;omega)).mono ?_;rintro _ bk ⟨Q,b,rfl,ay⟩;have eg:Bi m ds E=(mK m.p ((qy E.tries.length).map fun k=>(jk m ds E.object E.tries k).1) E.length,0):=by
   unfold Bi;rw[if_neg (by rw[e3];decide),if_pos (qN.2 fun j u=>decide_eq_true (J j (qI.1 u)))]
  rw[eg];exact⟨(Q,b),rfl,trivial,Q,rfl,((y.comp ay).cj [2])⟩
end
def afq(m:aD)(ds:aX)(o k:Int):Nat:=match bR ds k with|some d=>(jm m d.l).countP (fun r=>decide (r.object=o))|none=>0
section
variable {B:aA} {h0 h:Heap} {As:List HP} {a pw:Addr} {offs:Int} {da:List aP} {w:Pow} {ds:aX} {m:aD}
end
structure Jn (m:aD) (o:Int) (d:bv) (bad:Nat->Prop):Prop where
 lost:d.lost=false
 pos:0<d.l.length
 len:d.l.length<=60
 cell:∀c∈d.l,c.length=64
 bad:∀j (hj:j<d.l.length),eU d.l[j]=none↔bad j
 cnt:∀c∈d.l,∀r,cP c=some r->dv m r=true/\r.object=o
 apart:(d.l.filterMap (dP m)).Pairwise fun a b=>kc a b=false
def Ll(m:aD)(d:bv):Nat:=(d.l.filterMap (dP m)).length
theorem Xc{m:aD}{c:aU}(h:eU c=none):dP m c=none/\cP c=none:=by
 have a:cP c=none:=by unfold cP;rw[h]
 exact⟨by unfold dP;rw[a],a⟩
theorem Jn.mw{m:aD}{o:Int}{d:bv}{a:Nat->Prop}(W:Jn m o d a){c:aU}(b:c∈d.l):dP m c=cP c:=by
 unfold dP;cases h:cP c with
 |none=>rfl
 |some r=>dsimp only;rw[if_pos (W.cnt c b r h).1]
theorem ZP{l:List cV}(h:l.Pairwise fun a b=>kc a b=false):(oW (l.mergeSort oa)).Perm l:=by
 have c:∀a b:cV,kc a b=false->kc b a=false:=fun a b h=>by
  unfold kc at h⊢;rw[decide_eq_false_iff_not]at h⊢;rintro⟨x,y,z⟩;exact h ⟨x.symm,y.symm,z.symm⟩
 have e:(l.mergeSort oa).Perm l:=List.mergeSort_perm _ _;have i:(l.mergeSort oa).Pairwise fun a b=>kc a b=false:=(e.pairwise_iff (fun{a b}=>c a b)).2 h;have f:(l.mergeSort oa).Pairwise fun a b=>oa a b=true:=List.pairwise_mergeSort aas.1 aas.2 _;have h3:(l.mergeSort oa).Pairwise ltC:=f.imp₂ (fun a b x y=>⟨x,y⟩) i;have d:=SH h3;have g:(l.mergeSort oa).mergeSort oa=l.mergeSort oa:=List.mergeSort_of_pairwise f;rw[g]at d;rw[d];exact e
theorem Jn.count{m:aD}{o k:Int}{d:bv}{a:Nat->Prop}{ds:aX}(W:Jn m o d a)(g:bR ds k=some d):afq m ds o k=Ll m d:=by
 unfold afq;rw[g];dsimp only;unfold jm;rw[(ZP W.apart).countP_eq];unfold Ll;rw[List.countP_eq_length];intro r f;obtain⟨c,b,e⟩:=List.mem_filterMap.1 f;rw[W.mw b]at e;exact decide_eq_true (W.cnt c b r e).2
theorem adV{d:bv}{j:Nat}(c:j<d.l.length){a b:Int}(f:0<=a/\a<=60)(g:b%2=1):d.nH j a b={d with l:=d.l.take j++jI d.l[j] a b::d.l.drop (j+1)}/\d.l=d.l.take j++d.l[j]::d.l.drop (j+1):=by
 have e:Zl d j a b=true:=decide_eq_true ⟨⟨by omega,by omega⟩,f,by rintro rfl;cases g⟩;refine⟨?_,?_⟩
 ·unfold bv.nH;rw[e,if_pos rfl,qp,kl [] c,wy,if_pos c]
 ·rw[<-qS c,qx]
theorem Jn.nH{m:aD}{o:Int}{d:bv}{t:Nat->Prop}(W:Jn m o d t){j:Nat}(s:j<d.l.length)(I:eU d.l[j]≠none){a e:Int}(A:0<=a/\a<=60)(B:e%2=1):
  Jn m o (d.nH j a e) (fun i=>t i∨i=j)/\Ll m (d.nH j a e)+(if(cP d.l[j]).isSome then 1 else 0)=Ll m d:=by
 obtain⟨z,H⟩:=adV s A B;have F:=Zk d.l[j] a e;have D:eU (jI d.l[j] a e)=none:=by
  cases h:eU d.l[j]with
  |none=>exact absurd h I
  |some y=>exact Zq (k:=y.1) (x:=y.2) h A B
 obtain⟨K,G⟩:=Xc (m:=m) D;have q:(d.nH j a e).l=d.l.take j++jI d.l[j] a e::d.l.drop (j+1):=by rw[z]
 have E:(d.nH j a e).l.filterMap (dP m)=(d.l.take j).filterMap (dP m)++(d.l.drop (j+1)).filterMap (dP m):=by
  rw[q,vE,List.filterMap_cons,K]
 have u:d.l.filterMap (dP m)=(d.l.take j).filterMap (dP m)++((match dP m d.l[j]with|none=>[]|some b=>[b])++(d.l.drop (j+1)).filterMap (dP m)):=by
  conv=>lhs;rw[H]
  rw[vE,List.filterMap_cons];cases dP m d.l[j]<;>rfl
 have f:(d.nH j a e).l.length=d.l.length:=by
  rw[q,qw,zi,qM,qZ];omega
 have g:∀c∈(d.nH j a e).l,c=jI d.l[j] a e∨c∈d.l:=fun c p=>by
  rw[q]at p;rcases qF.1 p with h|h
  ·exact .inr (zP h)
  ·rcases q8.1 h with h|h
   ·exact .inl h
   ·exact .inr (List.mem_of_mem_drop h)
 refine⟨⟨by rw[z];exact W.lost,by rw[f];exact W.pos,by rw[f];exact W.len,fun c p=>?_,fun i L=>?_,fun c p r v=>?_,?_⟩,?_⟩
 ·rcases g c p with rfl|h
  ·rw[F];exact W.cell _ (qh s)
  ·exact W.cell c h
 ·have w:i<d.l.length:=by omega
  by_cases n:i=j
  ·subst n;have:(d.nH i a e).l[i]=jI d.l[i] a e:=by
    simp only[q];rw[wo (by simp;omega)];simp[Nat.min_eq_left (Nat.le_of_lt s)]
   rw[this];exact⟨fun _=>.inr rfl,fun _=>D⟩
  ·have J:(d.nH j a e).l=d.l.set j (jI d.l[j] a e):=by rw[q,wy,if_pos s]
   have:(d.nH j a e).l[i]=d.l[i]:=by
    simp only[J];rw[List.getElem_set_ne (Ne.symm n)]
   rw[this,W.bad i w];exact⟨.inl,fun h=>h.resolve_right n⟩
 ·rcases g c p with rfl|h
  ·rw[G]at v;cases v
  ·exact W.cnt c h r v
 ·rw[E];refine W.apart.sublist ?_;rw[u];exact(List.Sublist.refl _).append (List.sublist_append_right _ _)
 ·unfold Ll;rw[E,u,qw,qw,qw,W.mw (qh s)];cases cP d.l[j]<;>simp<;>omega
theorem ZQ(k:Nat):upto (k+1)=upto k++[(k:Int)]:=by simp[upto,zt]
theorem abO(n:Nat)(a:n<65536):(qu (qk .u16) (n:Int)).toNat=n:=by
 simp[qk];omega
theorem UK(p q:Nat)(a:p<65536)(b:q<65536):qc .u16 ((qu (qk .u16) (p:Int)^^^qu (qk .u16) (q:Int)).toNat:Nat)=((p^^^q:Nat):Int):=by
 rw[BitVec.toNat_xor,abO p a,abO q b];have:p^^^q<2^16:=Nat.xor_lt_two_pow a b;show((p^^^q:Nat):Int)%65536=_;omega
theorem Bj(a b:UInt8)(h:Heap):ab xv 211 #[xk xr a.toNat,xk xr b.toNat] h fun v h'=>v=xk xr (Gf.mul a b).toNat/\h'=h:=by
 have r:∀b:Nat,b<256->∀i:Nat,i<8->(qc xr ((qu (qk xr) (qQ (b:Int) (2^min (i:Int).toNat (qk xr)))&&&(qu (qk xr) (1:Int))).toNat:Nat))=((b/2^i%2:Nat):Int):=by decide+kernel
 have s:∀a:Nat,a<256->∀i:Nat,i<8->qc .u16 ((qc .u16 (a:Int))*2^min (i:Int).toNat (qk .u16))=((a*2^i:Nat):Int)/\a*2^i<65536:=by decide+kernel
 have t3:∀(p i:Nat),p<65536->i<16->qc .u16 ((qu (qk .u16) (qQ (p:Int) (2^min (i:Int).toNat (qk .u16)))&&&(qu (qk .u16) (1:Int))).toNat:Nat)=((p/2^i%2:Nat):Int):=by
  intro p i g f;have d:min (i:Int).toNat (qk .u16)=i:=by simp[qk];omega
  rw[d];have o:qQ (p:Int) (2^i)=((p/2^i:Nat):Int):=by
   rw[Int.fdiv_eq_ediv_of_nonneg _ (by exact Int.pow_nonneg (by decide))];simp
  rw[o];have j:p/2^i<65536:=Nat.lt_of_le_of_lt (Nat.div_le_self _ _) g;have t:(qu (qk .u16) ((p/2^i:Nat):Int)).toNat=p/2^i:=abO _ j;have q:(qu (qk .u16) (1:Int)).toNat=1:=by decide
  rw[BitVec.toNat_and,t,q,Nat.and_one_is_mod];show((p/2^i%2:Nat):Int)%65536=_;omega
 have t4:∀i:Nat,i<8->qc .u16 ((283:Int)*2^min (qc xq (((15-i:Nat):Int)-(8:Int))).toNat (qk .u16))=((283*2^(7-i):Nat):Int)/\283*2^(7-i)<65536/\0<=qc xq (((15-i:Nat):Int)-(8:Int)):=by decide+kernel
 have k:=zN a;have n:=zN b;refine xZ _ _ ?_;unfold oD;refine au (fun i:Nat=>((Gf.pl a.toNat b.toNat i:Int),(i:Int))) (fun i h'=>h'=h/\i<=8) (fun i=>8-i) 0 rfl ⟨rfl,by omega⟩ ?_;rintro i j ⟨rfl,f⟩;dsimp only;refine ai (fun e=>?_) (fun e=>?_)
 ·have c:i<8:=by omega
  refine⟨by omega,?_⟩;rw[r _ n i c,aj _];refine cz (fun d=>?_) (fun d=>?_)
  ·refine⟨by omega,i+1,?_,⟨rfl,by omega⟩,by omega⟩;have:=s _ k i c;rw[this.1,UK _ _ (Gf.VK _ _ k i f) this.2,Gf.pl,if_pos (by omega)];rfl
  ·refine⟨i+1,?_,⟨rfl,by omega⟩,by omega⟩;rw[Gf.pl,if_neg (by omega)];rfl
 ·have c:i=8:=by omega
  subst c;have g:=Gf.VK _ b.toNat k 8 (ql _);generalize w:Gf.pl a.toNat b.toNat 8=P at g⊢;refine au (fun i:Nat=>((Gf.rd P i:Int),(15:Int)-(i:Int))) (fun i h'=>h'=j/\i<=8) (fun i=>8-i) 0 rfl ⟨rfl,by omega⟩ ?_;rintro i x ⟨rfl,f⟩;have m:=Gf.aca P g i f;dsimp only;refine ai (fun e=>?_) (fun e=>?_)
  ·have c:i<8:=by omega
   have u:(15:Int)-(i:Int)=((15-i:Nat):Int):=by omega
   rw[u];refine⟨by omega,?_⟩;rw[t3 _ (15-i) m (by omega),aj (((15-i:Nat):Int)-1)];have l:=t4 i c;refine cz (fun d=>?_) (fun d=>?_)
   ·refine⟨l.2.2,i+1,?_,⟨rfl,by omega⟩,by omega⟩;rw[l.1,UK _ _ m l.2.1,Gf.rd,if_pos (by omega)];exact yD rfl (by dsimp only;omega)
   ·refine⟨i+1,?_,⟨rfl,by omega⟩,by omega⟩;rw[Gf.rd,if_neg (by omega)];exact yD rfl (by dsimp only;omega)
  ·have c:i=8:=by omega
   subst c;refine⟨?_,rfl⟩;have:=Gf.VJ a b;rw[Gf.mA,w]at this;rw[<-this];show Value.int .u8 (((Gf.rd P 8:Nat):Int)%256)=_;rfl
theorem Ua(n:Int)(h:Heap):ab xv 137 #[xk xq n] h fun v h'=>v=xk xr (Gf.pw (n%255).toNat).toNat/\h'=h:=by
 refine xU n ?_;unfold oy;have m:=Int.tmod_lt_of_pos n (show(0:Int)<255 by decide);have b:-255<n.tmod 255:=Int.lt_tmod_of_pos n (by decide);have a:=Iw n 255;have g:=Int.emod_nonneg n (show(255:Int)≠0 by decide);have j:=w7 n (show(0:Int)<255 by decide);refine⟨by decide,bO (fun s h'=>s=n%255/\h'=h) ?_ ?_⟩
 ·refine ai (fun c=>?_) (fun d=>?_)
  ·rw[if_pos c]at a;exact⟨by rw[aj _,a],rfl⟩
  ·rw[if_neg d]at a;exact⟨a.symm,rfl⟩
 ·rintro s h' ⟨rfl,rfl⟩;obtain⟨N,k⟩:∃N:Nat,n%255=N:=⟨(n%255).toNat,by omega⟩
  rw[k,qp];refine au (fun i:Nat=>(((Gf.pw i).toNat:Int),(i:Int))) (fun i b=>b=h'/\i<=N) (fun i=>N-i) 0 rfl ⟨rfl,by omega⟩ ?_;rintro i b ⟨rfl,l⟩;dsimp only;refine ai (fun e=>?_) (fun e=>?_)
  ·have f:=Bj (Gf.pw i) 3 b;refine f.mono ?_;rintro v h3 ⟨rfl,rfl⟩;refine⟨_,rfl,i+1,?_,⟨rfl,by omega⟩,by omega⟩;rw[aj _,Gf.Yj];rfl
  ·have:i=N:=by omega
   subst this;exact⟨rfl,rfl⟩
theorem Ub(a:UInt8)(h:Heap):ab xv 135 #[xk xr a.toNat] h fun v h'=>v=xk xr (Gf.inv a).toNat/\h'=h:=by
 refine xT _ ?_;unfold ox;refine au (fun k:Nat=>(k:Int)) (fun k h'=>h'=h/\1<=k/\k<=256/\∀j,j<k->Gf.mul a (zH j)≠1) (fun k=>256-k) 1 rfl ⟨rfl,by omega,by omega,fun j c=>?_⟩ ?_
 ·have:j=0:=by omega
  subst this;show Gf.mul a 0≠1;rw[Gf.mul_zero];decide
 ·rintro k h' ⟨rfl,l,n,c⟩;refine ai (fun e=>?_) (fun e=>?_)
  ·have m:k<256:=by omega
   have i:qc xr (k:Int)=((zH k).toNat:Int):=by
    show(k:Int)%256=_;simp[Nat.mod_eq_of_lt m];omega
   rw[i];refine(Bj a (zH k) h').mono ?_;rintro v o ⟨rfl,rfl⟩;refine⟨_,rfl,?_⟩;refine cz (fun f=>?_) (fun f=>?_)
   ·have b:Gf.mul a (zH k)=1:=UInt8.toNat_inj.1 (show(Gf.mul a (zH k)).toNat=1 from vb.1 f);exact⟨by rw[<-Gf.VL b],rfl⟩
   ·refine⟨k+1,by rw[aj _];rfl,⟨rfl,by omega,by omega,fun j d=>?_⟩,by omega⟩;rcases zb.1 d with b|rfl
    ·exact c j b
    ·intro b;apply f;rw[b];rfl
  ·have:k=256:=by omega
   subst this;have g:a=0:=by
    refine Classical.byContradiction fun g=>?_;have:=c (Gf.inv a).toNat (zN _);rw[UInt8.ofNat_toNat]at this;exact this (Gf.ul g)
   subst g;exact⟨rfl,rfl⟩
theorem GM(c:UInt8)(a b:Sl)(f d:Row)(h:Heap)(n:Rd h a 1 az f)(l:Rd h b 1 az d)(o:f.length=d.length)(A:d.length<=2^30):
  ab xv 136 #[xk xr c.toNat,a,b] h fun v h'=>∃r:Sl,v=r/\Sp h h' [an 5 r 1 az (ck c f d)]:=by
 refine uY _ a b ?_;unfold nl;have y:=n.len;have t:=l.len;refine(Sp.refl h).make ac az fi (by decide) 0 rfl rfl d.length d.length (by omega) (by omega) (ql _) (by omega) fun s z x B q=>?_;refine au (fun k:Nat=>(k:Int)) (fun k h'=>k<=d.length/\Sp h h' [an 5 s 1 az ((ck c f d).take k++qg (d.length-k) 0)]) (fun k=>d.length-k) 0 rfl ⟨by omega,by simpa using q⟩ ?_;rintro k w ⟨E,g⟩;have m:=bK (c:=c) o;refine ai (fun e=>?_) (fun e=>?_)
 ·have i:k<d.length:=by omega
  refine(Seq.up l g.ag).JB k rfl i _ rfl fun a3 h3=>?_;refine(Seq.up n g.ag).bt k rfl (by omega) _ rfl ?_;refine(Bj c _ w).mono ?_;rintro v F ⟨rfl,rfl⟩;refine⟨_,rfl,⟨h3,trivial⟩,?_⟩;dsimp only;rw[ny];refine g.set ac 0 rfl (fun _=>rfl) rfl k rfl (by simp;omega) _ rfl rfl rfl fun D u=>⟨trivial,?_⟩
  refine⟨k+1,by rw[aj _];rfl,⟨by omega,?_⟩,by omega⟩;have j:((ck c f d).take k).length=k:=by rw[qM];omega
  have p:((ck c f d).take k++qg (d.length-k) 0).set k (d[k]^^^Gf.mul c (f[k]'(by omega)))=(ck c f d).take (k+1)++qg (d.length-(k+1)) 0:=by
   rw[List.set_append_right _ _ (by omega),j,zd,show d.length-k=d.length-(k+1)+1 by omega,List.replicate_succ,zu,aH _ _,qo];simp[ck]
  rw[<-p];exact u
 ·have:k=d.length:=by omega
  subst this;refine⟨s,rfl,?_⟩;rw[qi (by omega),zd,vo,qU]at g;exact g
theorem OR(c:UInt8)(a:Sl)(b:Row)(h:Heap)(g:Rd h a 1 az b)(p:b.length<=2^30):
  ab xv 134 #[xk xr c.toNat,a] h fun v h'=>∃r:Sl,v=r/\Sp h h' [an 5 r 1 az (scaleB c b)]:=by
 refine tW _ a ?_;unfold mQ;have o:=g.len;refine(Sp.refl h).make ac az fi (by decide) 0 rfl rfl b.length b.length (by omega) (by omega) (ql _) (by omega) fun s l m q d=>?_;refine(GM c a s b _ l (Seq.up g d.ag) (d.seq 0 rfl (fun _=>rfl)) (by simp) (by simp;omega)).mono ?_;rintro v t ⟨r,rfl,k⟩;refine⟨r,rfl,r,rfl,?_⟩;have e:ck c b (qg b.length 0)=scaleB c b:=dZ (n:=b.length) (by rw[bK (by simp)];simp) (rO _ _) fun j _=>by
  rw[cb (by simp),rS,show qg b.length (0:UInt8)=aM b.length from rfl,bU,UInt8.zero_xor]
 rw[<-e];exact(d.comp k).take 1 (fun i A f=>by cases i with|zero=>exact f|succ i=>simp at f)
theorem xK(p:Pm)(h:Heap):ab xv 138 #[ir p] h fun v h'=>v=xk xq (bn p)/\Sp h h' []:=by
 refine uZ p ?_;unfold np;refine(Sp.refl h).boxed fun a g d=>?_;refine⟨p,(d.box 0 rfl).aF _ rfl,?_⟩;refine(nz p g).mono ?_;rintro v i ⟨rfl,f⟩;have b:=d.comp f;have c:=b.box 0 rfl;refine⟨_,rfl,be (fun e=>⟨by simp[bn,e],.zip b.ag⟩) (fun e=>?_)⟩;refine⟨_,c.cell0 rfl,_,c.cell rfl,?_,.zip b.ag⟩;have:=(bC p).1 e;rw[aj _,bn,if_pos e]
theorem td(id:Int)(h:Heap):ab xv 68 #[xk xq id] h fun v h'=>v=xo (bp id)/\h'=h:=by
 refine tV id ?_;unfold mP;refine ai (fun e=>⟨?_,rfl⟩) (fun e=>⟨?_,rfl⟩)
 ·rw[bp,decide_eq_true (show 0<=id from e)];rfl
 ·rw[bp,decide_eq_false (show¬0<=id from e)];rfl
theorem GN(a:Addr)(s:Int)(h:Heap)(d:bZ h a 281 [xk xu s]):ab xv 212 #[xm (some a)] h fun v h'=>v=xk xt (told s)/\bZ h' a 281 [xk xu (oP s)]/\aR (·≠a.block) h h':=by
 refine pH (some a) ?_;unfold kE;refine⟨a,rfl,s,d.cell0 rfl,a,rfl,?_⟩;refine tz ac d rfl _ rfl rfl rfl (ql _) fun e b c _=>?_;exact⟨a,rfl,_,b.cell0 rfl,by decide,rfl,b,c⟩
theorem Et(a:Addr)(s n:Int)(h:Heap)(d:bZ h a 281 [xk xu s])(g:0<n:=by omega)(f:n<=2^62:=by omega):ab xv 282 #[xm (some a),xk xq n] h fun v h'=>v=xk xq (iw s n)/\bZ h' a 281 [xk xu (oP s)]/\aR (·≠a.block) h h':=by
 refine pz (some a) n ?_;unfold kr;refine ai (fun e=>by omega) fun _=>?_;refine(GN a s h d).mono ?_;rintro v i ⟨rfl,c,b⟩;exact⟨_,rfl,by rw[wrap_u64];omega,rfl,c,b⟩
theorem MB{p:aA}(t:Sl)(lt:aB)(x a:Int)(h:Heap)(j:Seq h p t 1 aC lt)(o:0<=x)(b:lt.getLast?=some a)(c:x<a)(q:lt.length<=2^40):
  ab xv 281 #[t,xk xq x] h fun v h'=>v=xk xq (LB lt x)/\h'=h:=by
 refine sU t x ?_;unfold md;have n:=j.len;have d:(lt.findIdx fun y=>decide (y>x))<lt.length:=List.findIdx_lt_length_of_exists ⟨a,List.mem_of_getLast? b,by simpa using c⟩;refine au (fun k:Nat=>(k:Int)) (fun k h'=>h'=h/\k<=(lt.findIdx fun y=>decide (y>x))) (fun k=>lt.length-k) 0 rfl ⟨rfl,by omega⟩ ?_;rintro k h' ⟨rfl,i⟩;refine aT ?_;refine ai (fun e=>?_) (fun e=>by omega);refine ai (fun _=>?_) (fun e=>by omega);have f:k<lt.length:=by omega
 refine j.bt k rfl f _ rfl ?_;rw[aj _];refine ai (fun l=>?_) (fun l=>?_)
 ·have:(lt.findIdx fun y=>decide (y>x))=k:=Nat.le_antisymm (Nat.le_of_not_lt fun g=>by have:=vC g;simp at this;omega) i;exact⟨by rw[LB,this];rfl,rfl⟩
 ·refine⟨k+1,rfl,⟨rfl,?_⟩,by omega⟩;refine Nat.lt_of_le_of_ne i fun m=>?_;have:=List.findIdx_getElem (xs:=lt) (p:=fun y=>decide (y>x)) (w:=d);simp only[<-m]at this;simp at this;omega
theorem Sg(t:Sl)(n:Nat)(a:Addr)(s:Int)(h:Heap)(i:Seq h (·≠a.block) t 1 aC (eT n))(k:bZ h a 281 [xk xu s])(d:1<=n)(g:n<=20):
  ab xv 213 #[t,xm (some a)] h fun v h'=>v=xk xq (tE s n)/\bZ h' a 281 [xk xu (oP s)]/\aR (·≠a.block) h h':=by
 refine po t (some a) ?_;unfold kq;have j:=i.len;rw[fu]at j;refine cz (fun e=>by omega) fun _=>?_;rw[aj _];refine i.bt (n-1) (by omega) (by rw[fu];omega) _ rfl ?_;have o:(eT n)[n-1]'(by rw[fu];omega)=((iA n n:Nat):Int):=by simp only[eT,yc,vx];rw[show n-1+1=n by omega]
 rw[o];have q:=IB n g d;have m:=um n g n g;refine(Et a s _ h k).mono ?_;rintro v l ⟨rfl,f,c⟩;have b:=nN s (iA n n);refine⟨_,rfl,(MB t (eT n) _ _ l (i.ag c) b.1 (CF n d) b.2 (by rw[fu];omega)).mono ?_⟩;rintro v p ⟨rfl,rfl⟩;exact⟨_,rfl,rfl,f,c⟩
def sH(r:Nat):Nat->Nat
 |0=>r
 |k+1=>sH r k/2
theorem OS(l:Nat)(h:Heap)(f:l<=20)(a:1<=l):ab xv 214 #[xk xq l] h fun v h'=>∃s:Sl,v=s/\Sp h h' [an 3 s 1 aC (eT l)]:=by
 have P:∀l:Nat,l<=20->∀r:Nat,r<=5->(∀j,j<r->j*j<l)->r*r<l->r<5:=by decide
 have W:∀l:Nat,l<=20->∀r:Nat,r<=5->(∀j,j<r->j*j<l)->¬r*r<l->r=bW l:=by decide
 have L:∀r:Nat,r<=5->∀k:Nat,k<=3->0<sH r k->k<3/\qc xq (z8 (sH r k:Int) 2)=(sH r (k+1):Int):=by decide
 have b2:∀r:Nat,r<=5->∀k:Nat,k<=3->sH r k=0->(∀j,j<k->0<sH r j)->k=ry r:=by decide
 have M:∀k:Nat,k<=20->1<k->qc xq ((k:Int)*qc xq ((k:Int)-1))=((k*(k-1):Nat):Int)/\k*(k-1)≠0:=by decide
 have N:∀l:Nat,l<=20->1<=l->1<=bW l/\bW l<=5:=by decide
 have G:∀l:Nat,l<=20->1<=l->qc xq (z8 (l:Int) (bW l))=((l/bW l:Nat):Int):=by decide
 have Q:∀l:Nat,l<=20->1<=l->∀k:Nat,k<=20->1<=k->qc xq ((l:Int)*k)≠0:=by decide+kernel
 have c5:∀k:Nat,k<=20->1<k->qc xq (z8 (1048576:Int) (qc xq ((k:Int)*qc xq ((k:Int)-1))))=((1048576/(k*(k-1)):Nat):Int):=by decide+kernel
 have V:∀l:Nat,l<=20->1<=l->qc xq (z8 (1048576:Int) (l:Int))=((1048576/l:Nat):Int):=by decide+kernel
 have S:∀l:Nat,l<=20->1<=l->∀k:Nat,k<=20->1<=k->qc xq (z8 (qc xq ((1048576:Int)*bW l)) (qc xq ((l:Int)*k)))=((1048576*bW l/(l*k):Nat):Int):=by decide+kernel
 have T:∀l:Nat,l<=20->1<=l->qc xq (z8 (qc xq ((qc xq ((1048576:Int)*bW l))*ry (bW l))) (l:Int))=((1048576*bW l*ry (bW l)/l:Nat):Int):=by decide+kernel
 have K:∀l:Nat,l<=20->∀k:Nat,k<=20->1048576*bW l/(l*k)<=2^30/\1048576*bW l*ry (bW l)/l<=2^30/\1048576/(k*(k-1))<=2^30/\1048576/l<=2^30:=by decide+kernel
 refine ub l ?_;unfold mT;refine aT (ai (fun e=>by omega) fun _=>ai (fun e=>by omega) fun _=>?_);refine au (fun r:Nat=>(r:Int)) (fun r h'=>h'=h/\r<=5/\∀j,j<r->j*j<l) (fun r=>5-r) 0 rfl ⟨rfl,by omega,fun j o=>by omega⟩ ?_;rintro r h' ⟨rfl,y,o⟩;have U:r*r<=25:=zJ y y;have e:qc xq ((r:Int)*(r:Int))=((r*r:Nat):Int):=by rw[<-zW];exact kJ _
 rw[e];refine ai (fun R=>?_) (fun Y=>?_)
 ·have g:r*r<l:=by omega
  have H:=P l f r y o g;refine⟨r+1,by rw[aj _];rfl,⟨rfl,by omega,fun j b=>?_⟩,by omega⟩;rcases zb.1 b with b|rfl
  ·exact o j b
  ·exact g
 ·have z:=W l f r y o (by omega);have q:=N l f a;rw[z];refine⟨by omega,?_⟩;refine au (fun k:Nat=>((k:Int),(sH (bW l) k:Int))) (fun k w=>w=h'/\k<=3/\∀j,j<k->0<sH (bW l) j) (fun k=>3-k) 0 rfl ⟨rfl,by omega,fun j o=>by omega⟩ ?_;rintro k w ⟨rfl,E,p⟩;dsimp only;refine ai (fun m=>?_) (fun m=>?_)
  ·have F:=L _ q.2 k E (by omega);refine⟨by decide,k+1,?_,⟨rfl,by omega,fun j b=>?_⟩,by omega⟩
   ·rw[F.2,aj _];rfl
   ·rcases zb.1 b with b|rfl
    ·exact p j b
    ·omega
  ·have D:=b2 _ q.2 k E (by omega) p;subst D;refine au (fun t:Sl×Nat=>(t.1,((iA l t.2:Nat):Int),((t.2+1:Nat):Int))) (fun t h'=>t.2<=l/\Sp w h' [an 3 t.1 1 aC ((eT l).take t.2)]) (fun t=>l-t.2) (⟨none,0,0⟩,0) rfl ⟨by simp,aa.nil (Sp.refl w) 3 1 aC⟩ ?_;rintro⟨s,k⟩ h3 ⟨E,A⟩;dsimp only at*;refine ai (fun e=>?_) (fun e=>?_)
   ·have d:k+1<=20:=by omega
    have u:=K l f (k+1) d;have b3:=um l f k (by omega);have b4:=CE l f (k+1) d;refine⟨by omega,bO (fun x h'=>x=(((if k+1>1 then 1048576/((k+1)*(k+1-1))else 1048576/l):Nat):Int)/\h'=h3) ?_ ?_⟩
    ·refine ai (fun m=>?_) (fun m=>?_)
     ·have:=M (k+1) d (by omega);exact⟨by rw[this.1];omega,by rw[c5 (k+1) d (by omega),if_pos (by omega)],rfl⟩
     ·exact⟨by rw[V l f a,if_neg (by omega)],rfl⟩
    ·rintro x I ⟨rfl,rfl⟩;have F:(if k+1>1 then 1048576/((k+1)*(k+1-1))else 1048576/l)<=2^30:=by split<;>first|exact u.2.2.1|exact u.2.2.2
     refine bO (fun x h'=>x=(((if k+1>1 then 1048576/((k+1)*(k+1-1))else 1048576/l)+(if k+1<l/bW l then 1048576*bW l/(l*(k+1))else 0):Nat):Int)/\h'=I) ?_ ?_
     ·rw[G l f a];refine ai (fun m=>⟨Q l f a (k+1) d (by omega),?_,rfl⟩) (fun m=>⟨?_,rfl⟩)
      ·rw[S l f a (k+1) d (by omega),Hr _ _ (by omega) (zk u.1 (by decide)),if_pos (c:=k+1<l/bW l) (vX.1 m)]
      ·rw[if_neg (c:=k+1<l/bW l) (fun B=>m (vX.2 B))];rfl
     ·rintro x H ⟨rfl,rfl⟩;refine bO (fun x h'=>x=((kh l (k+1):Nat):Int)/\h'=H) ?_ ?_
      ·rw[G l f a];refine cz (fun n=>⟨by omega,?_,rfl⟩) (fun n=>⟨?_,rfl⟩)
       ·have i:k+1=l/bW l:=vb.1 n;rw[T l f a,if_neg (c:=k+1<l/bW l) (by omega),yf,Hr _ _ (by omega) (zk u.2.1 (by decide)),kh,if_neg (c:=k+1<l/bW l) (by omega),if_pos (c:=k+1=l/bW l) i]
       ·have i:¬k+1=l/bW l:=fun B=>n (vb.2 B);rw[kh,if_neg (c:=k+1=l/bW l) i]
      ·rintro x Z ⟨rfl,rfl⟩;have n:qc xq ((iA l k:Int)+(kh l (k+1):Int))=((iA l (k+1):Nat):Int):=by rw[aj _,iA];rfl
       rw[n];refine A.push ac 0 rfl lE rfl (by decide) (fun _=>rfl) gJ _ rfl (by decide) (by rw[qM];omega) fun X I J=>?_;refine⟨(X,k+1),by dsimp only;rw[aj _];rfl,⟨by dsimp only;omega,?_⟩,by dsimp only;omega⟩;have O:(eT l).take (k+1)=(eT l).take k++[((iA l (k+1):Nat):Int)]:=by
        rw[aH _ _ (by rw[fu];omega)];simp[eT]
       dsimp only;rw[O];exact J
   ·refine⟨s,rfl,?_⟩;rw[qi (by rw[fu];omega)]at A;exact A
section
variable {B B':aA} {h0 h0' h h':Heap} {As As':List HP} {a b pw pw2:Addr} {d:bv}
end
section
variable {B:aA} {h0 h:Heap} {As:List HP} {a a2 pw pw2:Addr} {mc:aV} {offs:Int} {da da2:List aP} {w:Pow} {ds:aX}
end
section
variable {B:aA} {h0 h:Heap} {As:List HP} {a pw b:Addr} {x:cy} {offs:Int} {da:List aP} {w:Pow} {ds:aX} {d:bv}
end
end Go.Qw
namespace Go.Vc
open Go Wl Go.Qw
end Go.Vc
namespace Go.Qw
open Go Go.Vc Go.Proofs Wl
section
variable {B:aA} {h0 h:Heap} {As:List HP} {a pw:Addr} {offs:Int} {da:List aP} {w:Pow} {ds:aX}
end
section
variable {B:aA} {h0 h:Heap} {As:List HP} {a pw:Addr} {offs:Int} {da:List aP} {w:Pow} {ds:aX}
end
section
variable {B:aA} {h0 h h':Heap} {As:List HP} {a:Addr} {w:Pow}
end
abbrev it(p s:aP):aV:=.pointer p::.pointer s::qg 64 (xm none)
section
variable {B:aA} {h0 h:Heap} {As:List HP} {a pw a2 pw2 b b2:Addr} {offs:Int} {da da2:List aP} {w:Pow} {ds:aX} {mc:aV}
theorem ZR(pw s:Addr):aJ xv (Instr.build 103 #[(0,xm (some pw)),(1,xm (some s))]) (xp (it (some pw) (some s)).toArray):=
 uB ac (i:=_) rfl rfl rfl (vs:=[(0,xm (some pw)),(1,xm (some s))]) (cells:=(it (some pw) (some s)).toArray) (by kernel_rfl)
theorem ZS(p:Pm)(extra:Int)(s:Sl)(l:aB)(q:St B h0 As fun h=>Rd h s 1 aC l)(m:l.length<=2^20)(H:aa B h0 h As):
  ab xv 23 #[ir p,xk xq extra,s] h fun v h'=>
   ((cT p extra Pow.new l).1≠0->v=.tuple #[xm none,xk xq (cT p extra Pow.new l).1]/\aa B h0 h' As)/\
   ((cT p extra Pow.new l).1=0->∃(b a pw:Addr) (x:cy) (da:List aP),v=.tuple #[xm (some b),xk xq 0]/\
    aa B h0 h' (ar b 103 (it (some pw) (some a))::bx bS a pw (bh x) Pow.new.offs da (cT p extra Pow.new l).2.1 (cT p extra Pow.new l).2.2::fS x (de p extra l)::As)):=by
 refine JS p extra s ?_;unfold DR;refine H.boxed fun i j f=>?_;have f:aa B h0 j (ar i 25 [xk xq p.1,xk xq p.2.1,xk xq p.2.2]::As):=f.bH;refine(Yo j).mono ?_;rintro _ u ⟨pw,rfl,o⟩;have k:=f.cX o;refine⟨_,rfl,p,(k.box 1 rfl).aF _ rfl,?_⟩;refine(Tx p extra s l (q.cons) m k).mono ?_;rintro _ h3 ⟨n,r⟩;by_cases c:(cT p extra Pow.new l).1=0
 ·obtain⟨a,x,da,rfl,g⟩:=r c;refine⟨(some a,0),rfl,bV (fun e=>absurd rfl e) fun _=>⟨_,ZR pw a,g.boxed fun b t d=>?_⟩⟩;have d:aa B h0 t (ar b 103 (it (some pw) (some a))::bx bS a pw (bh x) Pow.new.offs da (cT p extra Pow.new l).2.1 (cT p extra Pow.new l).2.2::fS x (de p extra l)::ar i 25 [xk xq p.1,xk xq p.2.1,xk xq p.2.2]::As):=d.bH;exact⟨fun e=>absurd c e,fun _=>⟨b,a,pw,x,da,rfl,d.bo 4 [0,1,2]⟩⟩
 ·obtain⟨rfl,g⟩:=n c;refine⟨(none,(cT p extra Pow.new l).1),rfl,bV (fun _=>⟨fun _=>⟨rfl,g.rest⟩,fun e=>absurd e c⟩) fun e=>absurd e c⟩
end
abbrev UL:=Int×ByteArray×Sl×Int×Int×Int×Int×Sl×Sl
abbrev Cm(y:UL):aV:=[xk xq y.1,xn y.2.1,y.2.2.1,xk xq y.2.2.2.1,xk xq y.2.2.2.2.1,xk xq y.2.2.2.2.2.1,xk xt y.2.2.2.2.2.2.1,y.2.2.2.2.2.2.2.1,y.2.2.2.2.2.2.2.2]
abbrev Xd(y:UL):Value:=xp (Cm y).toArray
section
variable {B:aA} {h0 h:Heap} {As:List HP} {a pw b:Addr} {offs:Int} {da:List aP} {w:Pow} {ds:aX} {m:aD} {q:aP}
theorem Sh(y:UL)(z:y.1=1)(c:aU)(p:St B h0 As fun h=>Rd h y.2.2.1 1 az c)(g:y.2.2.1.len<=y.2.2.1.cap)(x:y.2.1.size<=2^40)(u:bQ m=true)(j:c.length<=2^20)(H:aa B h0 h (jW a pw da offs w ds m::ar b 103 (it q (some a))::As)):
  ab xv 47 #[xm (some b),Xd y] h fun v h'=>v=VM (kQ (cK m offs w ds y.2.1 c).1)/\
   aa B h0 h' (jW a pw da offs (cK m offs w ds y.2.1 c).2.2.1 (cK m offs w ds y.2.1 c).2.2.2 (cK m offs w ds y.2.1 c).2.1::ar b 103 (it q (some a))::As):=by
 refine lX (some b) y ?_;unfold jR;refine H.boxed fun l s i=>?_;have i:aa B h0 s (ar l 71 (Cm y)::jW a pw da offs w ds m::ar b 103 (it q (some a))::As):=i.bH;refine i.alloc ac rfl fun a2 n d=>?_;have d:aa B h0 n (ar a2 68 (kP (kQ 0))::ar l 71 (Cm y)::jW a pw da offs w ds m::ar b 103 (it q (some a))::As):=d.bH;refine bO (fun _ h'=>aa B h0 h' (ar a2 68 (kP (kQ (cK m offs w ds y.2.1 c).1))::jW a pw da offs (cK m offs w ds y.2.1 c).2.2.1 (cK m offs w ds y.2.1 c).2.2.2 (cK m offs w ds y.2.1 c).2.1::ar b 103 (it q (some a))::As)) ?_ ?_
 ·refine⟨y.1,(d.box 1 rfl).cell0 rfl,cz (fun _=>?_) fun e=>absurd z e⟩;refine⟨b,rfl,some a,(d.box 3 rfl).cell rfl,y.2.1,(d.box 1 rfl).cell rfl,y.2.2.1,(d.box 1 rfl).cell rfl,?_⟩;have r:aa B h0 n (jW a pw da offs w ds m::ar a2 68 (kP (kQ 0))::ar b 103 (it q (some a))::As):=d.bo 4 [2,0,3];refine(adI y.2.1 y.2.2.1 c (As:=ar a2 68 (kP (kQ 0))::ar b 103 (it q (some a))::As) p.cons.cons g x u j r).mono ?_;rintro _ F ⟨rfl,o⟩;refine⟨_,rfl,trivial,o.ja ac 1 rfl rfl [xk xq (cK m offs w ds y.2.1 c).1] rfl rfl rfl (by simp) fun E t=>⟨trivial,?_⟩⟩;exact t.bo 3 [1,0,2]
 ·rintro _ D k;refine⟨kQ (cK m offs w ds y.2.1 c).1,(k.box 0 rfl).aF _ rfl,k.storeAll ac 0 rfl rfl (kP (kQ (cK m offs w ds y.2.1 c).1)) rfl rfl rfl rfl fun A f=>?_⟩;have f:aa B h0 A (ar a2 68 (kP (kQ (cK m offs w ds y.2.1 c).1))::jW a pw da offs (cK m offs w ds y.2.1 c).2.2.1 (cK m offs w ds y.2.1 c).2.2.2 (cK m offs w ds y.2.1 c).2.1::ar b 103 (it q (some a))::As):=f;exact⟨kQ (cK m offs w ds y.2.1 c).1,(f.box 0 rfl).aF _ rfl,rfl,f.rest⟩
end
section
variable {B:aA} {h0 h:Heap} {As:List HP} {a pw b:Addr} {offs:Int} {da:List aP} {w:Pow} {ds:aX} {m:aD} {q:aP}
theorem Xe(y:UL)(k:y.1=1)(c:aU)(n:St B h0 As fun h=>Rd h y.2.2.1 1 az c)(f:y.2.2.1.len<=y.2.2.1.cap)(t:y.2.1.size<=2^40)(s:bQ m=true)(j:c.length<=2^20)(H:aa B h0 h (jW a pw da offs w ds m::ar b 103 (it q (some a))::As)):
  ab xv 24 #[xm (some b),Xd y] h fun v h'=>v=VM (kQ (cK m offs w ds y.2.1 c).1)/\
   aa B h0 h' (jW a pw da offs (cK m offs w ds y.2.1 c).2.2.1 (cK m offs w ds y.2.1 c).2.2.2 (cK m offs w ds y.2.1 c).2.1::ar b 103 (it q (some a))::As):=by
 refine ni (some b) y ?_;unfold kR;refine H.boxed fun g p i=>?_;have i:aa B h0 p (ar g 71 (Cm y)::jW a pw da offs w ds m::ar b 103 (it q (some a))::As):=i.bH;refine i.alloc ac rfl fun a2 r d=>bF (fun e=>by cases e) fun _=>aT ?_;have d:aa B h0 r (jW a pw da offs w ds m::ar b 103 (it q (some a))::ar g 71 (Cm y)::ar a2 68 (kP (kQ 0))::As):=d.bH.bo 4 [2,3,1,0];refine⟨y.1,(d.box 2 rfl).cell0 rfl,aT (cz (fun _=>?_) fun e=>absurd k e)⟩;refine bF (fun _=>?_) fun e=>by rw[k]at e;cases e
 refine⟨y,(d.box 2 rfl).aF _ rfl,(Sh y k c (As:=ar g 71 (Cm y)::ar a2 68 (kP (kQ 0))::As) n.cons.cons f t s j d).mono ?_⟩;rintro _ h3 ⟨rfl,o⟩;refine⟨kQ (cK m offs w ds y.2.1 c).1,rfl,o.storeAll ac 3 rfl rfl (kP (kQ (cK m offs w ds y.2.1 c).1)) rfl rfl rfl rfl fun u l=>?_⟩;exact⟨kQ (cK m offs w ds y.2.1 c).1,(l.box 3 rfl).aF _ rfl,rfl,l.bo 4 [0,1]⟩
theorem Si(p:Pm)(extra:Int)(s:Sl)(l:aB)(j:St B h0 As fun h=>Rd h s 1 aC l)(e:l.length<=64)(f:Bg p extra l=0)(H:aa B h0 h As):
  ab xv 23 #[ir p,xk xq extra,s] h fun v h'=>∃(b a pw:Addr) (da:List aP) (D:aX),v=.tuple #[xm (some b),xk xq 0]/\D.length=64/\
   (∀s,bR D s=if s∈bi l l.length then some ⟨(l.getD s.toNat 0).toNat,bf (de p extra l),0,[],false,false⟩else none)/\aa B h0 h' (jW a pw da 0 Pow.new D (de p extra l)::ar b 103 (it (some pw) (some a))::As):=by
 obtain⟨D,g,i,k⟩:=Zh (p:=p) (extra:=extra) (l:=l) e f;refine(ZS p extra s l j (by omega) H).mono ?_;rintro _ h' ⟨_,c⟩;rw[g]at c;obtain⟨b,a,pw,y,da,rfl,d⟩:=c rfl;exact⟨b,a,pw,da,D,rfl,i,k,RJ (d.bo 3 [1,2,0])⟩
end
section
variable {m:aD} {C:Int->aU} {ds:aX} {offs:Int} {w:Pow}
def Im(m:aD)(ds:aX):Prop:=∀k d,bR ds k=some d->∀c∈d.l,∀r,cP c=some r->dv m r=true->r.id<m.p.1+m.extra
structure Full (m:aD) (C:Int->aU) (ds:aX):Prop where
 live:∀k∈m.drives,∃d,bR ds k=some d/\d.lost=false/\mv m d.l=true
 all:∀e∈m.aL,∀i:Nat,i<e.tries.length->∀id:Nat,id<(m.p.1+m.extra).toNat->∃k∈m.drives,∃d,bR ds k=some d/\dI (kV m e.object i (cE e.object i (e.tries.getD i 0)) (fI m C e.object i) id)∈d.l
theorem Full.bg(F:Full m C ds):Wl.bg ds m.drives=m.drives:=we.2 fun k a=>by
 obtain⟨d,c,b,_⟩:=F.live k a;unfold isLive;rw[c];simp[b]
theorem fX.afr(S:fX m C ds){e:Wl.cm}(a:e∈m.aL):e.tries.length<=8:=by
 obtain⟨_,_,h3,_,b⟩:=(iv m e).1 (S.entry a);have:=ui h3.2;omega
theorem fX.Lm(S:fX m C ds){e:Wl.cm}(a:e∈m.aL){i:Nat}(b:i<e.tries.length){id:Nat}(hid:id<=65535):iC (kV m e.object i (cE e.object i (e.tries.getD i 0)) (fI m C e.object i) id)=true:=by
 obtain⟨K,H,w,n,B⟩:=S.fp a b;have h8:=S.afr a;have c:=((iv m e).1 (S.entry a)).2.1;have d:=((dW m).1 ((cD m).1 S.may).1).2.1;exact Ry B ⟨c.1,by omega⟩ ⟨by omega,by omega⟩ ⟨by omega,by omega⟩
theorem fX.counts(S:fX m C ds){e:Wl.cm}(a:e∈m.aL){i:Nat}(b:i<e.tries.length){id:Nat}(hid:id<=65535):dv m (kV m e.object i (cE e.object i (e.tries.getD i 0)) (fI m C e.object i) id)=true:=
 gY.2 ⟨S.Lm a b hid,rfl,e,a,rfl,by show(i:Int)<_;omega,by show cE e.object i _=cE e.object (i:Int) (e.tries.getD (i:Int).toNat 0);rw[qp]⟩
theorem fX.Sj(S:fX m C ds){id:Nat}(h:id<(m.p.1+m.extra).toNat):id<=65535:=by
 obtain⟨_,_,a,b⟩:=(dW m).1 ((cD m).1 S.may).1;have:=(bC m.p).1 a;omega
theorem fX.afL(S:fX m C ds){e:Wl.cm}(c:e∈m.aL){i:Nat}(b:i<e.tries.length){id:Nat}(hid:id<=65535){k:Int}(f:k∈bg ds m.drives){d:bv}(a:bR ds k=some d)
  (g:dI (kV m e.object i (cE e.object i (e.tries.getD i 0)) (fI m C e.object i) id)∈d.l):(id:Int)∈oK m ds e.object i:=by
 have h:=Sa S.may (S.cells k d a) g (rQ (S.Lm c b hid) (lA _ _ _)) (S.counts c b hid);unfold oK gX;refine qC.2 ⟨((id:Int),(kV m e.object i (cE e.object i (e.tries.getD i 0)) (fI m C e.object i) id).data),zQ.2 ⟨k,f,?_⟩,rfl⟩;unfold sC;rw[a];exact qC.2 ⟨_,qJ.2 ⟨h,by simp[kV]⟩,rfl⟩
theorem ZT{p:Pm}(a:bA p=true){i:Int}(h:i∈dH p):∃id:Nat,i=id/\(id:Int)<p.1:=by
 have:=(bC p).1 a;unfold dH upto at h;obtain⟨id,hid,rfl⟩:=qC.1 h;have:=qI.1 hid;exact⟨id,rfl,by omega⟩
theorem Full.can(F:Full m C ds)(S:fX m C ds)(f:m.drives≠[]){e:Wl.cm}(g:e∈m.aL):Se m ds e=true:=by
 unfold Se;rw[qA];constructor
 ·unfold ro;rw[F.bg];obtain⟨k,c⟩:=List.exists_mem_of_ne_nil _ f;obtain⟨d,l,_,h3⟩:=F.live k c;exact yb.2 ⟨k,c,by unfold Li;rw[l];exact h3⟩
 ·refine qN.2 fun i b=>?_;have b:=qI.1 b;obtain⟨K,H,w,n,B⟩:=S.fp g b;refine ZN B.may (ids:=dH m.p) (fun j h=>?_) B.full;obtain⟨id,rfl,hid⟩:=ZT S.Sf h;have r:=((dW m).1 ((cD m).1 S.may).1).2.2.2;have a:id<(m.p.1+m.extra).toNat:=by omega
  obtain⟨k,c,d,q,o⟩:=F.all e g i b id a;exact S.afL g b (S.Sj a) (by rw[F.bg];exact c) q o
theorem GO(m:aD)(d:bv)(N:Int):(dS m d N).lost=d.lost/\(dS m d N).room=d.room:=by
 unfold dS;split<;>exact⟨rfl,rfl⟩
theorem rH{t:aB}{b:aU}{n:aD}{k:Int}{d:bv}(a:k∈bg ds m.drives):
  (rG m ds t b n k d).lost=d.lost/\(rG m ds t b n k d).room=d.room/\∃N,(rG m ds t b n k d).l=(dS m d N).l++((gP m m.next t (splitB m.p b) (bg ds m.drives) k (splitB m.p b).length).map dI++bf n):=by
 unfold rG;rw[if_pos a];refine⟨by rw[(sE _ _).1,(GO _ _ _).1],by rw[(sE _ _).2,(GO _ _ _).2],_,Cj _ _⟩
theorem Oc{n:aD}(a:bQ n=true){l1 l2:cv}(h:∀c∈bf n,c∈l2):mv n (l1++l2)=true:=by
 unfold mv;rw[a,zU];exact qN.2 fun c b=>decide_eq_true (wW _ (h c b))
theorem Full.put(F:Full m C ds)(S:fX m C ds){name:ByteArray}{b:aU}{t:aB}{g:aX}(M:cQ m (fO w offs) ds name b.length=0)(L:ct m.p m.next (splitB m.p b).length=some t)
  (O:fX (df m ⟨name,m.next,b.length,t⟩) (ji C m.next b) g) (f:∀k,bR g k=(bR ds k).map (rG m ds t b (df m ⟨name,m.next,b.length,t⟩) k)):Full (df m ⟨name,m.next,b.length,t⟩) (ji C m.next b) g:=by
 have a:=F.bg;obtain⟨R,T,z3,z4,z5⟩:=kz M;have u:m.drives≠[]:=by rw[<-a];exact fun h=>z5 (.inl h)
 have B:m.next<=16777215:=by have:¬16777215<m.next:=fun h=>z5 (.inr (.inl h));omega
 refine⟨fun k j=>?_,fun e q i r id hid=>?_⟩
 ·have j:k∈m.drives:=j;obtain⟨d,y,G,h3⟩:=F.live k j;obtain⟨x,E,N,s⟩:=rH (m:=m) (t:=t) (b:=b) (n:=df m ⟨name,m.next,b.length,t⟩) (d:=d) (show k∈Wl.bg ds m.drives by rw[a];exact j);refine⟨_,by rw[f,y,qR],by rw[x];exact G,?_⟩;rw[s];exact Oc O.may fun c A=>wW _ A
 ·have hid:id<(m.p.1+m.extra).toNat:=hid;rcases nT.1 q with q|rfl
  ·have K:=S.old q;obtain⟨k,j,d,H,A⟩:=F.all e q i r id hid;obtain⟨x,E,N,s⟩:=rH (m:=m) (t:=t) (b:=b) (n:=df m ⟨name,m.next,b.length,t⟩) (d:=d) (show k∈Wl.bg ds m.drives by rw[a];exact j);refine⟨k,j,_,by rw[f,H,qR],?_⟩;rw[s];have D:fI (df m ⟨name,m.next,b.length,t⟩) (ji C m.next b) e.object i=fI m C e.object i:=DD rfl (by unfold ji;rw[if_neg (by omega)]);rw[D];exact yN _ (Sb S.may (S.cells k d H) A (rQ (S.Lm q r (S.Sj hid)) (lA _ _ _)) (S.counts q r (S.Sj hid)))
  ·have r:i<t.length:=r;have P:=iH L;have h8:=Ci S.Sf (fun h=>z4 (.inl h));have v:=((dW m).1 ((cD m).1 S.may).1).2.1.1;have I:(0:Int)<=(i:Int)/\(i:Int)<8:=⟨by omega,by omega⟩
   have J:=WE (o:=m.next) (b:=(i:Int)) (live:=m.drives) ⟨v,B⟩ I (CQ S.may) (ne S.may);obtain⟨Q,z⟩:=J;have one:gH m.next i m.drives≠[]:=fun h=>by rw[h]at z;exact u (List.nil_perm.1 z)
   have l:sB (gH m.next i m.drives) id∈m.drives:=by
    rw[aff one];exact z.mem_iff.1 (qh _)
   obtain⟨d,y,G,h3⟩:=F.live _ l;obtain⟨x,E,N,s⟩:=rH (m:=m) (t:=t) (b:=b) (n:=df m ⟨name,m.next,b.length,t⟩) (d:=d) (show sB (gH m.next i m.drives) id∈Wl.bg ds m.drives by rw[a];exact l);refine⟨_,l,_,by rw[f,y,qR],?_⟩;rw[s];refine wW _ (yN _ (qC.2 ⟨_,?_,rfl⟩));have D:fI (df m ⟨name,m.next,b.length,t⟩) (ji C m.next b) m.next i=(splitB m.p b).getD i []:=by
    unfold fI ji;rw[if_pos rfl,qp];rfl
   show kV m m.next i (cE m.next i (t.getD i 0)) (fI (df m ⟨name,m.next,b.length,t⟩) (ji C m.next b) m.next i) id∈_;rw[D,a];unfold gP;refine zQ.2 ⟨i,qI.2 (by omega),?_⟩;unfold rn;exact qC.2 ⟨id,qJ.2 ⟨qI.2 hid,decide_eq_true rfl⟩,rfl⟩
theorem Full.Sk(F:Full m C ds)(S:fX m C ds){n:aD}{l:aX}(y:bQ n=true)(r:n.p=m.p)(v:n.extra=m.extra)(g:n.drives=m.drives)(j:∀x∈n.aL,x∈m.aL)
  (a:∀k,bR l k=(bR ds k).map fun d=>if k∈Wl.bg ds n.drives then eE (bf n) (dS m d (bf n).length)else d):Full n C l:=by
 have f:=F.bg;rw[g,f]at a;refine⟨fun k h=>?_,fun e u i o id hid=>?_⟩
 ·rw[g]at h;obtain⟨d,t,w,h3⟩:=F.live k h;refine⟨_,by rw[a,t,qR,if_pos h],by rw[(sE _ _).1,(GO _ _ _).1];exact w,?_⟩;rw[Cj];exact Oc y fun c q=>q
 ·rw[r,v]at hid;have b:=j e u;obtain⟨k,h,d,s,q⟩:=F.all e b i o id hid;refine⟨k,by rw[g];exact h,_,by rw[a,s,qR,if_pos h],?_⟩;have z:kV n e.object i (cE e.object i (e.tries.getD i 0)) (fI n C e.object i) id=kV m e.object i (cE e.object i (e.tries.getD i 0)) (fI m C e.object i) id:=by
   unfold kV;rw[DD r rfl,r]
  rw[Cj,z];exact yN _ (Sb S.may (S.cells k d s) q (rQ (S.Lm b o (S.Sj hid)) (lA _ _ _)) (S.counts b o (S.Sj hid)))
end
section
variable {m:aD} {C:Int->aU} {ds:aX} {offs:Int} {w:Pow}
theorem Sm{d:bv}{N:Int}{c:aU}(h:c∈(dS m d N).l):c∈d.l∨c∈bf m:=by
 unfold dS at h;split at h
 ·exact .inl h
 ·rcases qF.1 h with h|h
  ·exact .inr h
  ·obtain⟨r,a,rfl⟩:=qC.1 h;exact .inl (AG a).1
theorem Im.put(L:Im m ds)(S:fX m C ds){name:ByteArray}{b:aU}{t:aB}{o:aX}(J:cQ m (fO w offs) ds name b.length=0)(H:ct m.p m.next (splitB m.p b).length=some t)
  (q:∀k,bR o k=(bR ds k).map (rG m ds t b (df m ⟨name,m.next,b.length,t⟩) k)):Im (df m ⟨name,m.next,b.length,t⟩) o:=by
 obtain⟨M,P,z3,z4,z5⟩:=kz J;have v:m.next<=16777215:=by have:¬16777215<m.next:=fun h=>z5 (.inr (.inl h));omega
 have G:=((dW m).1 ((cD m).1 S.may).1)
 have h8:=Ci S.Sf (fun h=>z4 (.inl h));have g:∀k f,bR ds k=some f->∀c∈f.l,∀r,cP c=some r->dv (df m ⟨name,m.next,b.length,t⟩) r=true->r.id<m.p.1+m.extra:=fun k f h0 c j r a e=>by
  have F:=(S.cells k f h0 c j).old r a;obtain⟨A,B,x,u,y,E⟩:=gY.1 e;rcases nT.1 u with u|rfl
  ·exact L k f h0 c j r a (gY.2 ⟨A,B,x,u,y,E⟩)
  ·have:m.next=r.object:=y;omega
 intro k d I c j r a e;show r.id<m.p.1+m.extra;obtain⟨f,h0,rfl⟩:=DE q I;by_cases z:k∈bg ds m.drives
 ·obtain⟨_,_,N,K⟩:=rH (m:=m) (t:=t) (b:=b) (n:=df m ⟨name,m.next,b.length,t⟩) (d:=f) z;rw[K]at j;rcases qF.1 j with h|h
  ·rcases Sm h with h|h
   ·exact g k f h0 c h r a e
   ·rw[lx h]at a;cases a
  ·rcases qF.1 h with h|h
   ·obtain⟨O,s,rfl⟩:=qC.1 h;obtain⟨i,id,rfl,D,hid⟩:=KT s;rw[rQ (Mr S.may v h8 H D hid) (lA _ _ _)]at a;injection a with a
    subst a;show(id:Int)<_;omega
   ·rw[lx h]at a;cases a
 ·unfold rG at j;rw[if_neg z]at j;exact g k f h0 c j r a e
theorem Im.Sk(L:Im m ds){n:aD}{g:aX}(q:n.p=m.p)(s:n.extra=m.extra)(b:∀x∈n.aL,x∈m.aL)
  (j:∀k,bR g k=(bR ds k).map fun d=>if k∈Wl.bg ds n.drives then eE (bf n) (dS m d (bf n).length)else d):Im n g:=by
 intro k d t c i r a l;rw[q,s];have e:=Lh q b l;obtain⟨o,h0,rfl⟩:=DE (f:=fun k d=>if k∈Wl.bg ds n.drives then eE (bf n) (dS m d (bf n).length)else d) j t;split at i
 ·rw[Cj]at i;rcases qF.1 i with h|h
  ·rcases Sm h with h|h
   ·exact L k o h0 c h r a e
   ·rw[lx h]at a;cases a
  ·rw[lx h]at a;cases a
 ·exact L k o h0 c i r a e
theorem Im.eP(L:Im m ds){k:Int}{d:bv}(e:bR ds k=some d):∀r∈jm m d.l,r.id<m.p.1+m.extra:=fun r c=>by
 obtain⟨f,b,a⟩:=AG c;exact L k d e _ f r b a
theorem ZU{t:aB}{b:aU}{live:aB}{k:Int}{nb:Nat}:(jV (cR m m.next t (splitB m.p b) live nb) k).length<=nb*(m.p.1+m.extra).toNat:=by
 rw[RF,qD];exact TJ m m.next t (splitB m.p b) live k nb
theorem adW{t:aB}{b:aU}{live:aB}{n:aD}(a:bQ n=true)(k:Int){nb c:Nat}(d:nb<=c):0<=iJ (bf n).length (cR m m.next t (splitB m.p b) live nb) k/\iJ (bf n).length (cR m m.next t (splitB m.p b) live nb) k<=((9+c*(m.p.1+m.extra).toNat:Nat):Int):=by
 have f:=ZU (m:=m) (t:=t) (b:=b) (live:=live) (k:=k) (nb:=nb);have e:=Zj a;have h3:=zp (m.p.1+m.extra).toNat d;rw[Gz];omega
end
end Go.Qw
namespace Wl
open Go Go.Qw Go.Vc
def Bl(m:aD)(i:Nat):aD:={m with seq:=m.seq+1,aL:=m.aL.take i++m.aL.drop (i+1)}
def uw(m:aD)(offs:Int)(w:Pow)(ds:aX)(name:ByteArray):Int×aD×Pow×aX:=
 if fO w offs then(14,m,w,ds)else if m.aL.any (dX name)=false then(5,m,w,ds)else if m.seq>=2147483647 then(7,m,w,ds)else
 oJ m offs w ds (Bl m (m.aL.findIdx (dX name)))
end Wl
namespace Go.Vc
open Go
end Go.Vc
namespace Go.Qw
open Go Go.Vc Go.Proofs Wl
section
variable {B:aA} {h0 h:Heap} {As:List HP} {a pw:Addr} {offs:Int} {da:List aP} {w:Pow} {ds:aX} {m:aD} {s:Sl}
end
end Go.Qw
namespace Wl
structure Mv where
 kind:Int
 name:ByteArray
 data:aU
 slot:Int
 n:Int
 m:Int
 mask:Int
 keeps:aB
 torns:aB
def UM:List ByteArray:=[⟨#[97]⟩,⟨#[98]⟩,⟨#[99,97,116,45,55]⟩,⟨#[100]⟩,⟨#[101,49,50,51,52,53,54,55,56,57,48,49]⟩]
def MC(p:Int×Int×Int)(b:Mv):Prop:=
 (b.kind=1/\b.name∈UM/\(b.data.length:Int)<=3*(p.1*p.2.2)+1)∨((b.kind=2∨b.kind=3∨b.kind=5)/\b.name∈UM)∨b.kind=4∨
 (b.kind=6/\(0<=b.slot/\b.slot<9)/\6<=b.n/\b.n<66)∨(b.kind=7/\0<=b.slot/\b.slot<8)∨(b.kind=8/\(0<=b.slot/\b.slot<8)/\6<=b.n/\b.n<66)∨(b.kind=9/\0<=b.slot/\b.slot<8)∨
 (b.kind=10/\(-1<=b.n/\b.n<=7)/\-1<=b.m/\b.m<=68)∨(b.kind=11/\(0<=b.slot/\b.slot<7)/\(0<=b.n/\b.n<40)/\(0<=b.m/\b.m<61)/\0<=b.mask/\b.mask<4294967296)
end Wl
namespace Go.Vc
open Go Wl
end Go.Vc
namespace Go.Qw
open Go Go.Vc Go.Proofs Wl
theorem MC.put{p:Pm}{b:Mv}(h:MC p b)(a:b.kind=1):b.name∈UM/\(b.data.length:Int)<=3*(p.1*p.2.2)+1:=by
 unfold MC at h;rw[a]at h;rcases h with h|h|h|h|h|h|h|h|h
 ·exact h.2
 ·exact absurd h.1 (by decide)
 ·exact absurd h (by decide)
 all_goals exact absurd h.1 (by decide)
theorem MC.named{p:Pm}{b:Mv}(h:MC p b)(a:b.kind=2∨b.kind=3∨b.kind=5):b.name∈UM:=by
 unfold MC at h;rcases h with h|h|h|h|h|h|h|h|h
 ·exact h.2.1
 ·exact h.2
 ·omega
 all_goals omega
theorem ZV{p:Pm}{extra:Int}{l:aB}{D:aX}{m:aD}(i:m=de p extra l)(w:Bg p extra l=0)(v:l.length<=64)(j:D.length=64)
  (t:∀s,bR D s=if s∈bi l l.length then some ⟨(l.getD s.toNat 0).toNat,bf m,0,[],false,false⟩else none) (C:Int->aU):fX m C D/\Full m C D/\Im m D:=by
 have b:bQ m=true:=by rw[i];exact Rx v w
 have n:m.drives=bi l l.length:=by rw[i];rfl
 have o:m.aL=[]:=by rw[i];rfl
 have f:∀k d,bR D k=some d->∀c∈d.l,c∈bf m:=fun k d a c f=>by
  rw[t]at a;split at a
  ·injection a with a;subst a;exact f
  ·cases a
 refine⟨⟨b,j,fun k d a c h=>Ht C b (f k d a c h),fun e g=>by rw[o]at g;cases g⟩,⟨fun k q=>?_,fun e g=>by rw[o]at g;cases g⟩,fun k d a c h r u=>?_⟩
 ·rw[n]at q;refine⟨_,by rw[t,if_pos q],rfl,?_⟩;unfold mv;rw[b,zU];exact qN.2 fun c f=>decide_eq_true f
 ·rw[lx (f k d a c h)]at u;cases u
theorem Cn{m:aD}{i:Nat}{e:Wl.cm}(h:e∈(Bl m i).aL):e∈m.aL:=by
 have h:e∈m.aL.take i++m.aL.drop (i+1):=h;rcases qF.1 h with h|h
 ·exact zP h
 ·exact List.mem_of_mem_drop h
theorem afs(m:aD)(i:Nat):(Bl m i).aL=m.aL.eraseIdx i:=by
 show m.aL.take i++m.aL.drop (i+1)=_;rw[List.eraseIdx_eq_take_drop_succ]
theorem abP{m:aD}(f:bQ m=true)(l:m.seq<=2147483646)(i:Nat):bQ (Bl m i)=true:=by
 obtain⟨j,d,h3,c,h,b,g⟩:=(cD m).1 f;obtain⟨n,a2,a3,a4⟩:=(dW m).1 j;have a:(Bl m i).aL.Sublist m.aL:=by rw[afs];exact List.eraseIdx_sublist ..
 refine(cD _).2 ⟨(dW _).2 ⟨⟨?_,?_⟩,a2,a3,a4⟩,d,h3,zk a.length_le c,fun e k=>?_,b.sublist a,g.sublist a⟩
 ·show 1<=m.seq+1;omega
 ·show m.seq+1<=_;omega
 ·exact(iv _ _).2 ((iv _ _).1 (h e (Cn k)))
structure Inv (m:aD) (C:Int->aU) (ds:aX) (N:Nat):Prop where
 sto:fX m C ds
 full:Full m C ds
 low:Im m ds
 nm:∀e∈m.aL,e.name∈UM
 dr:m.drives≠[]
 seq:m.seq<=1+N
 nx:m.next<=N
theorem Inv.step{m:aD}{C:Int->aU}{ds:aX}{N:Nat}(I:Inv m C ds N):Inv m C ds (N+1):=⟨I.sto,I.full,I.low,I.nm,I.dr,by have:=I.seq;omega,by have:=I.nx;omega⟩
theorem Inv.put{m:aD}{C:Int->aU}{ds:aX}{N:Nat}{name:ByteArray}{b:aU}(I:Inv m C ds N)(d:name∈UM):
  (∃e,e≠0/\cK m 0 Pow.new ds name b=(e,m,Pow.new,ds))∨(cQ m false ds name b.length=0/\∃t a,ct m.p m.next (splitB m.p b).length=some t/\cK m 0 Pow.new ds name b=(0,df m ⟨name,m.next,b.length,t⟩,Pow.new,a)/\Inv (df m ⟨name,m.next,b.length,t⟩) (ji C m.next b) a (N+1)):=by
 rcases UJ (offs:=0) (name:=name) (b:=b) xG I.sto with⟨h,_⟩|⟨hr,t,a,ht,c,S',hds⟩
 ·exact .inl h
 ·refine .inr ⟨hr,t,a,ht,c,S',I.full.put I.sto hr ht S' hds,I.low.put I.sto hr ht hds,fun e c=>?_,I.dr,?_,?_⟩
  ·rcases nT.1 c with c|rfl
   ·exact I.nm e c
   ·exact d
  ·have:=I.seq;show m.seq+1<=_;omega
  ·have:=I.nx;show m.next+1<=_;omega
theorem Inv.del{m:aD}{C:Int->aU}{ds:aX}{N:Nat}{name:ByteArray}(I:Inv m C ds N)(h:N<=1000):
  (m.aL.any (dX name)=false/\uw m 0 Pow.new ds name=(5,m,Pow.new,ds))∨(m.aL.any (dX name)=true/\((cU m ds m.drives (fun _=>((bf (Bl m (m.aL.findIdx (dX name)))).length:Int))=false/\uw m 0 Pow.new ds name=(7,m,Pow.new,ds))∨
   ∃a,uw m 0 Pow.new ds name=(0,Bl m (m.aL.findIdx (dX name)),Pow.new,a)/\Inv (Bl m (m.aL.findIdx (dX name))) C a (N+1))):=by
 have j:=I.seq;cases ha:m.aL.any (dX name)with
 |false=>exact .inl ⟨rfl,by unfold uw;rw[if_neg (by decide),if_pos ha]⟩
 |true=>
  obtain⟨i,f⟩:∃i,i=m.aL.findIdx (dX name):=⟨_,rfl⟩
  have e:uw m 0 Pow.new ds name=oJ m 0 Pow.new ds (Bl m i):=by
   unfold uw;rw[if_neg (by decide),if_neg (by rw[ha];decide),if_neg (by omega),f]
  have d:bg ds (Bl m i).drives=m.drives:=I.full.bg;rw[e,<-f];refine .inr ⟨rfl,?_⟩;have c:=abP I.sto.may (by omega) i;rcases WY (offs:=0) xG I.sto rfl c rfl rfl (Int.le_refl _) (fun x b=>Cn b)with⟨h1,h2⟩|⟨_,a,h1,S',hds⟩
  ·rw[d]at h1;exact .inl ⟨h1.resolve_left I.dr,h2⟩
  ·exact .inr ⟨a,h1,S',I.full.Sk I.sto c rfl rfl rfl (fun x b=>Cn b) hds,I.low.Sk rfl rfl (fun x b=>Cn b) hds,fun e g=>I.nm e (Cn g),I.dr,by show m.seq+1<=_;omega,by have:=I.nx;show m.next<=_;omega⟩
theorem Inv.get{m:aD}{C:Int->aU}{ds:aX}{N:Nat}(I:Inv m C ds N){e:Wl.cm}(a:e∈m.aL):iL m 0 Pow.new ds e.name=(C e.object,0):=by
 rw[(I.sto.get rfl e.name).1 e a rfl,if_pos (I.full.can I.sto I.dr a)]
end Go.Qw
