/- Part of the proofs that the laws of this seat answer true whatever the input reads, and leave it as it was; no condition. -/
import Derived.Test.YtdhamoojccmbdaaGreatDoorKB
import Derived.Test.YtdhamoojccmbdaaGreatDoorPlI
import Derived.Test.YtdhamoojccmbdaaGreatDoorTabS
import Derived.Test.YtdhamoojccmbdaaGreatDoorPlA
import Derived.Test.YtdhamoojccmbdaaGreatDoorKA
import Derived.Test.YtdhamoojccmbdaaGreatDoorPlG
set_option linter.unusedVariables false
set_option maxHeartbeats 4000000
set_option linter.unusedSimpArgs false
open Go.Proofs.Tryz renaming prog -> vV
open List renaming all_append -> yz, all_cons -> vI, all_eq_false -> ye, all_eq_true -> qM, any_append -> yP, any_eq_false -> zZ, any_eq_true -> wR, append_assoc -> qo, append_nil -> qP, cons_append -> zu, drop -> vK, drop_drop -> zx, drop_eq_getElem_cons -> qT, drop_of_length_le -> q9, eq_nil_of_length_eq_zero -> qW, eq_replicate_iff -> vq, exists_mem_of_ne_nil -> y5, ext_getElem -> we, filter_append -> zh, filter_cons -> zm, filter_eq_self -> wg, find?_eq_none -> wL, findIdx_lt_length -> ym, flatMap_append -> zb, flatMap_cons -> zr, foldl_append -> wE, foldl_cons -> zB, foldl_nil -> wI, getD_eq_getElem?_getD -> qe, getElem?_append_left -> qn, getElem?_append_right -> qj, getElem?_drop -> wq, getElem?_eq_getElem -> qd, getElem?_eq_none -> ze, getElem?_eq_some_iff -> qm, getElem?_map -> qN, getElem?_replicate -> zX, getElem?_set -> qZ, getElem?_set_self -> zy, getElem?_zip_eq_some -> y6, getElem_append_left -> w5, getElem_append_right -> z7, getElem_drop -> zR, getElem_map -> zY, getElem_mem -> qg, getElem_of_mem -> qF, getElem_set_self -> vp, getElem_take -> wX, getElem_zip -> yK, length_append -> qu, length_cons -> zi, length_drop -> qY, length_eq_zero_iff -> vi, length_filter_le -> q7, length_map -> qw, length_nil -> yj, length_range -> zt, length_replicate -> yx, length_take -> qX, map_append -> qQ, map_cons -> w4, map_map -> wK, map_nil -> vn, mem_append -> qE, mem_append_left -> yA, mem_append_right -> wF, mem_cons -> zc, mem_cons_of_mem -> qU, mem_cons_self -> q8, mem_filter -> qI, mem_flatMap -> zO, mem_iff_getElem? -> yw, mem_map -> qx, mem_mergeSort -> yt, mem_of_find?_eq_some -> y0, mem_of_mem_take -> zK, mem_range -> qH, mem_replicate -> wM, mem_singleton -> qG, mem_take_iff_getElem -> wZ, nil_append -> zV, nodup_cons -> yi, pairwise_cons -> zL, pairwise_iff_getElem -> zq, range -> qC, range_succ -> zF, replicate -> qh, replicate_append_replicate -> yF, replicate_succ -> yG, set_append_right -> za, set_cons_succ -> wv, set_cons_zero -> zw, set_set -> yY, take_append_drop -> qD, take_append_of_le_length -> w9, take_left -> vj, take_length -> qR, take_of_length_le -> qi, zipWith -> zj, zipWith_append -> yH
open Option renaming map_some -> qO, some -> zJ
open Go.Value renaming agg -> vQ, bool -> vP, int -> vL, pointer -> vN, slice -> vM, string -> vO
open Go.IntKind renaming bits -> qk, i64 -> vR, u32 -> vT, u8 -> vS, wrap -> qc
open Nat renaming add_sub_cancel -> yN, add_sub_cancel_left -> zk, add_zero -> yl, le_of_ble_eq_true -> zC, le_refl -> ql, le_trans -> zl, lt_of_lt_of_le -> qV, lt_succ_iff_lt_or_eq -> zn, lt_trichotomy -> yd, mul_le_mul -> wb, sub_self -> zf, succ_mul -> zI, zero_le -> w8
open UInt8 renaming toNat_inj -> yh
open Bool renaming and_eq_false_iff -> yR, and_eq_true -> qy, and_self -> vG, eq_iff_iff -> yQ, false_eq_true -> zd, not_eq_true' -> wV, not_false -> wU, not_true -> wS, or_eq_false_iff -> w7, true_and -> zS
open Go.Instr renaming makeSlice -> qB, storeAt -> qf
open BitVec renaming ofInt -> qA
open Int renaming emod_lt_of_pos -> z8, le_refl -> vE, natCast_mul -> wz, natCast_nonneg -> zT, ofNat_le -> yD, toNat_natCast -> qp
open Prod renaming ext -> yL, fst -> qK, snd -> zA
set_option maxRecDepth 100000
namespace Go.Proofs.YtdhamoojccmbdaaGreatDoor
open Go Go.Vc Go.Proofs Wl
theorem aaV(a b c:Int):bM (CW a b c)=true:=by
 rw[bU];unfold CW;dsimp only;omega
theorem Yu{m:aG}{ds:bc}{name:ByteArray}{n:Nat}(a:jF name=true)(b:∀e∈m.objs,e.name≠name)(h3:(n:Int)<=m.p.1*m.p.2.2*8)(i:m.objs.length<=11)(f:bi ds m.drives≠[])(g:m.next<=16777215)(j:m.seq<=2147483646):cP m false ds name n=0:=by
 have c:m.objs.any (dm name)=false:=zZ.2 fun e d h=>b e d (uD (by unfold dm at h;simpa using h));unfold cP;rw[if_neg (by decide),if_neg (by simp[a]),if_neg (by simp[c]),if_neg (by omega),if_neg (by rintro(h|h|h);exact f h;omega;omega)]
theorem TM{m:aG}{offs:Int}{w:Pow}{ds:bc}{n:aG}(s:w.calm)(i:ds.length=64)(v:fu w offs=false)(r:bS n=true)(t:n.seq=m.seq+1):
  let live:=bi ds n.drives;let N:Int->Int:=fun _=>((bh n).length:Int)
  (live=[]∨df m ds live N=false->dO m offs w ds n=(7,m,w,ds))/\(live≠[]->df m ds live N=true->∃a,dO m offs w ds n=(0,n,w,a)/\a.length=64/\
   ∀k,cb a k=(cb ds k).map fun d=>if k∈live then eu (bh n) (dQ m d (bh n).length)else d):=by
 intro live N;have c:live.Nodup:=Hx (Dv r);have e:dO m offs w ds n=(if live=[]∨df m ds live N=false then(7,m,w,ds)else
   if(makes m N live w ds).1≠0 then((makes m N live w ds).1,m,(makes m N live w ds).2)else
   ((layAll (bx n live) (makes m N live w ds).2.1 (makes m N live w ds).2.2).1,if(layAll (bx n live) (makes m N live w ds).2.1 (makes m N live w ds).2.2).1=0 then n else m,(layAll (bx n live) (makes m N live w ds).2.1 (makes m N live w ds).2.2).2)):=by
  unfold dO;rw[if_neg (by rw[v];decide),if_neg (by rw[r,decide_eq_false (by simpa using t)];decide)]
 refine⟨fun h=>by rw[e,if_pos h],fun p j=>?_⟩;rw[e,if_neg (by rintro(h|h);exact p h;rw[j]at h;cases h)];obtain⟨y,F,G,q⟩:=Ed s (N:=N) c i j;rw[F];dsimp only;rw[if_neg (by simp)];obtain⟨I,z,A,D⟩:=MB s (ds:=y) (P:=bx n live) G fun x E=>by
  obtain⟨b,g⟩:=ka E;obtain⟨H,o,l⟩:=BN (qM.1 j x.1 b);obtain⟨u,B,J⟩:=Mz l;refine⟨g,dQ m H (N x.1),?_,u,?_⟩
  ·rw[q,o,qO,if_pos b]
  ·rw[oR c,if_pos b,B];have:N x.1=((bh n).length:Int):=rfl;omega
 rw[z];refine⟨I,rfl,A,fun k=>?_⟩;rw[D,q,Option.map_map];congr 1;funext d;show eu (kF (bx n live) k) (if k∈live then dQ m d (N k)else d)=_;rw[oR c];by_cases f:k∈live
 ·rw[if_pos f,if_pos f,if_pos f]
 ·rw[if_neg f,if_neg f,if_neg f];rfl
end Go.Proofs.YtdhamoojccmbdaaGreatDoor
namespace Wl
open Go
structure Pg where
 seq:Int
 num:Int
 many:Int
 bears:List UInt8
 cell:List UInt8
def afV(x c:List UInt8):Pg:=⟨cT (x.take 4),((x.getD 4 0).toNat:Int),((x.getD 5 0).toNat:Int),(x.drop 7).take (x.getD 6 0).toNat,c⟩
def CX(c:List UInt8):Option Pg:=
 match jG c with
 |some (k,x)=>if k=2/\(x.getD 6 0).toNat<=48/\(x.drop (7+(x.getD 6 0).toNat)).all (fun b=>decide (b=0))=true then some (afV x c)else none
 |none=>none
theorem Yv{seq c a:Int}{b:List UInt8}(i:0<=seq/\seq<4294967296)(q:0<=c/\c<256)(h3:0<=a/\a<256)(r:b.length<=48):CX (jA seq c a b)=some ⟨seq,c,a,b,jA seq c a b⟩:=by
 have o:(bJ seq 4++([b8 c,b8 a,b8 b.length]++b)).length=7+b.length:=by simp[ci];omega
 obtain⟨x,e⟩:∃x,x=bJ seq 4++([b8 c,b8 a,b8 b.length]++b)++qh (55-(bJ seq 4++([b8 c,b8 a,b8 b.length]++b)).length) 0:=⟨_,rfl⟩
 have p:jG (jA seq c a b)=some (2,x):=by
  unfold jA;rw[Ao (by decide) (by decide) (by omega),e]
 have d:=KL seq;have f:x.getD 6 0=b8 b.length:=by rw[e,d];rfl
 have m:x.getD 5 0=b8 a:=by rw[e,d];rfl
 have k:x.getD 4 0=b8 c:=by rw[e,d];rfl
 have n:x.take 4=bJ seq 4:=by rw[e,d];rfl
 have g:x.drop 7=b++qh (55-(7+b.length)) 0:=by rw[e,o,d];rfl
 have h:((b8 (b.length:Int)).toNat)=b.length:=by have:=su (b.length:Int);omega
 unfold CX;rw[p];dsimp only;have l:(b8 (b.length:Int)).toNat<=48:=by omega
 rw[if_pos ⟨rfl,by rw[f];exact l,by
  rw[f,h,<-zx,g,List.drop_left];exact qM.2 fun y j=>decide_eq_true (List.eq_of_mem_replicate j)⟩]
 unfold afV;rw[n,k,m,f,g,OJ i.1 i.2,h,vj];have:=su c;have:=su a;congr 2<;>omega
def pgN(m:aG)(i:Nat):Pg:=⟨m.seq,i,gM (ga m),((ga m).drop (48*i)).take 48,jA m.seq i (gM (ga m)) (((ga m).drop (48*i)).take 48)⟩
theorem PA(m:aG):bh m=(qC (gM (ga m))).map fun i=>(pgN m i).cell:=rfl
theorem aeL{m:aG}(a:bS m=true):gM (ga m)<=9:=by
 have:=Go.Proofs.YtdhamoojccmbdaaGreatDoor.afT a;unfold bh at this
 rwa [qw,zt]at this
theorem Yw{m:aG}(a:bS m=true){i:Nat}(c:i<gM (ga m)):CX (pgN m i).cell=some (pgN m i):=by
 have d:=aeL a;have b:=((dK m).1 ((ce m).1 a).1).1;exact Yv ⟨by omega,by omega⟩ ⟨by omega,by omega⟩ ⟨by omega,by omega⟩ (by simp;omega)
end Wl
namespace Go.Proofs.YtdhamoojccmbdaaGreatDoor
open Go Go.Vc Go.Proofs Wl
theorem Oq(s:Sl)(l:Row)(c:UInt8)(h:Heap)(p:Rd h s 1 aC l)(w:s.len<=s.cap)(y:l.length<=2^30):
  ac vV BE #[vM s.ptr s.len s.cap,vL vS c.toNat] h fun v h'=>∃k:Nat,v=vM s.ptr k s.cap/\k<=l.length/\(∀j (f:j<l.length),k<=j->l[j]=c)/\(∀(d:k-1<l.length),0<k->l[k-1]≠c)/\h'=h:=by
 refine Ad s _ ?_;unfold oM;have m:=p.len;refine ba ?_;refine av (fun k:Nat=>(⟨s.ptr,k,s.cap⟩:Sl)) (fun k h'=>h'=h/\k<=l.length/\∀j (f:j<l.length),k<=j->l[j]=c) (fun k=>k) l.length (by rw[<-m]) ⟨rfl,ql _,fun j f d=>by omega⟩ ?_;rintro k u ⟨rfl,d,b⟩;dsimp only;refine ba (ak (fun e=>?_) (fun e=>?_))
 ·have r:0<k:=by omega
  rw[Go.Vc.wrap_small _ (by omega) (by omega)];refine(p.take k d).bv (g:=fun x:UInt8=>Value.int .u8 x.toNat) (k-1) (by omega) (by simp;omega) (l[k-1]'(by omega)) (by simp[aC]) ?_|>fun⟨a,ha,x,hx,hK⟩=>⟨a,ha,x.toNat,hx,hK⟩
  refine cx (fun o=>?_) (fun o=>?_)
  ·have n:l[k-1]'(by omega)=c:=by
    have:(l[k-1]'(by omega)).toNat=c.toNat:=by exact_mod_cast o
    exact yh.1 this
   refine⟨⟨by omega,by omega⟩,k-1,by congr 1;omega,⟨rfl,by omega,fun j f q=>?_⟩,by omega⟩;by_cases i:j=k-1
   ·subst i;exact n
   ·exact b j f (by omega)
  ·refine⟨k,rfl,d,b,fun _ _ t=>o (by rw[t]),rfl⟩
 ·exact⟨k,rfl,d,b,fun _ h0=>by omega,rfl⟩
theorem QH(s:Sl)(l:Row)(c:UInt8)(h:Heap)(p:Rd h s 1 aC l)(A:s.len<=s.cap)(E:l.length<=2^30):
  ac vV CD #[vM s.ptr s.len s.cap,vL vS c.toNat] h fun v h'=>(∃r:Sl,v=vM r.ptr r.len r.cap/\(r.len=0↔∀x∈l,x=c))/\h'=h:=by
 refine BD s _ ?_;unfold pG;have u:=p.len;refine cl (fun r h'=>h'=h/\(r.len=0↔∀x∈l,x=c)) ?_ ?_
 ·refine av (fun t:Sl×Nat=>t.1) (fun t h'=>h'=h/\t.2<=l.length/\(∀j (d:j<l.length),j<t.2->l[j]=c)/\Rd h t.1 1 aC (l.drop t.2)/\t.1.len<=t.1.cap) (fun t=>l.length-t.2) (s,0) rfl ⟨rfl,by simp,fun j _ d=>by omega,by simpa using p,A⟩ ?_;rintro⟨r,k⟩ z ⟨rfl,D,a,b,f⟩;dsimp only at*;have g:=b.len;rw[qY]at g;refine ba (ak (fun e=>?_) (fun e=>?_))
  ·have i:k<l.length:=by omega
   refine b.bv 0 rfl (by rw[qY];omega) _ rfl ?_;have q:(l.drop k)[0]'(by rw[qY];omega)=l[k]:=by simp
   rw[q];refine cx (fun n=>?_) (fun n=>?_)
   ·have m:l[k]=c:=by
     have:(l[k]).toNat=c.toNat:=by exact_mod_cast n
     exact yh.1 this
    refine⟨⟨by omega,by omega⟩,(⟨if r.cap=1 then r.ptr else r.ptr.map (·.add (1*1)),r.len-1,r.cap-1⟩,k+1),rfl,⟨rfl,by omega,fun j d o=>?_,?_,by dsimp only;omega⟩,by dsimp only;omega⟩
    ·rcases zn.1 o with h2|rfl
     ·exact a j d h2
     ·exact m
    ·have:=b.drop 1 f;rw[zx]at this;exact this
   ·refine⟨rfl,⟨fun h0=>by omega,fun B=>absurd ?_ n⟩⟩;rw[B _ (qg i)]
  ·have w:k=l.length:=by omega
   refine⟨rfl,⟨fun _ x y=>?_,fun _=>by show r.len=0;omega⟩⟩;obtain⟨j,d,rfl⟩:=qF y;exact a j d (by omega)
 ·rintro r z ⟨rfl,b⟩;refine cx (fun e=>?_) (fun e=>?_)
  ·exact⟨⟨⟨none,0,0⟩,rfl,by rw[<-b];exact⟨fun _=>by omega,fun _=>rfl⟩⟩,rfl⟩
  ·exact⟨⟨r,rfl,b⟩,rfl⟩
theorem PB(s:Sl)(l:Row)(cut:ByteArray)(a:cut=⟨#[0]⟩)(h:Heap)(c:Rd h s 1 aC l)(p:s.len<=s.cap)(q:l.length<=2^30):
  ac vV Qn #[vM s.ptr s.len s.cap,vO cut] h fun v h'=>(∃r:Sl,v=vM r.ptr r.len r.cap/\(r.len=0↔∀x∈l,x=0))/\h'=h:=by
 subst a;refine NQ s _ ?_;unfold GM;have m:=c.len;refine cx (fun e=>?_) (fun e=>?_)
 ·refine⟨⟨⟨none,0,0⟩,rfl,⟨fun _ x b=>?_,fun _=>rfl⟩⟩,rfl⟩;have:l=[]:=qW (by omega);subst this;cases b
 ·refine Dg (by decide+kernel) (ba (MV (by decide+kernel) ?_));refine⟨0,⟨by decide,rfl⟩,MV (by decide) ?_⟩;refine⟨0,⟨by decide,rfl⟩,0,⟨by decide,rfl⟩,?_⟩;refine(Oq s l 0 h c p q).mono ?_;rintro v o ⟨k,rfl,i,g,h3,rfl⟩;refine⟨⟨s.ptr,k,s.cap⟩,rfl,trivial,?_⟩;refine(QH ⟨s.ptr,k,s.cap⟩ (l.take k) 0 o (c.take k i) (by show k<=s.cap;omega) (by simp;omega)).mono ?_;rintro v u ⟨⟨r,rfl,f⟩,rfl⟩;refine⟨r,rfl,trivial,⟨r,rfl,f.trans ⟨fun d x b=>?_,fun d x b=>d x (zK b)⟩⟩,rfl⟩;obtain⟨j,n,rfl⟩:=qF b;by_cases t:j<k
  ·exact d _ (by rw[wZ];exact⟨j,by omega,rfl⟩)
  ·exact g j n (by omega)
def qv(x:Sl×Sl):List Value:=[vM x.1.ptr x.1.len x.1.cap,vM x.2.ptr x.2.len x.2.cap]
theorem aaW:∀x,∀c∈qv x,c.oneCell'=true:=fun x c a=>by
 simp only[qv,zc,List.not_mem_nil,or_false]at a;rcases a with rfl|rfl<;>rfl
def iR:iC (Sl×Sl) eF:=⟨fun h q a e=>Seq h q a.1 1 aE e.1/\Seq h q a.2 1 aC e.2,fun a c=>⟨a.1.ai c,a.2.ai c⟩,fun a b=>⟨a.1.mono b,a.2.mono b⟩⟩
abbrev pQ:iC Sl (List eF):=cm iR 2 qv
abbrev agx:iC Sl aR:=cm (tv 1 aC) 1 bI
abbrev eQ:bN C.toBR UH dG 2 [vM none 0 0,vM none 0 0] 48:=⟨_,_,rfl,rfl,rfl,rfl,rfl,rfl⟩
abbrev aaX:bN C.toBR dq aF 1 [vM none 0 0] 24:=⟨_,_,rfl,rfl,rfl,rfl,rfl,rfl⟩
abbrev adP:bN C.toBR ZX gq 1 [vP false] 1:=⟨_,_,rfl,rfl,rfl,rfl,rfl,rfl⟩
theorem pQ.get{h:Heap}{q:aA}{s:Sl}{L:List eF}(x:pQ.p h q s L){i:Int}(n:Nat)(d:i=n)(b:n<L.length){K:Sl×Sl->Prop}(e:∀r,iR.p h q r L[n]->K r):
  ∃a:Addr,(s.ptr=some a/\0<=i/\i<((s.len:Nat):Int))/\∃x:Sl×Sl,aj h (a.add (i.toNat*2)) 0 [vM x.1.ptr x.1.len x.1.cap,vM x.2.ptr x.2.len x.2.cap]/\K x:=by
 obtain⟨rs,c,f,h3⟩:=cm.oW x;exact c.dD (g:=qv) n d (by omega) (rs[n]'(by omega)) rfl (e _ (h3 n (by omega) b))
structure xM (h:Heap) (p:Addr) (l k v:Sl) (L:List eF) (kn:List Bool) (vs:aR):Prop where
 box:cw h p iA [vM l.ptr l.len l.cap,vM k.ptr k.len k.cap,vM v.ptr v.len v.cap]
 eqs:fA pQ h l L
 known:Rd h k 1 dY kn
 vals:fA agx h v vs
theorem xM.up{h h':Heap}{p:Addr}{l k v:Sl}{L:List eF}{kn:List Bool}{vs:aR}(x:xM h p l k v L kn vs)(a:aU (fun b=>b<h.size) h h'):xM h' p l k v L kn vs:=
 ⟨x.box.ai a x.box.lt,fA.up x.eqs a,Seq.up x.known a,fA.up x.vals a⟩
theorem TN{kn:List Bool}{c:Int}(b:0<=c)(a:c.toNat<kn.length):Wl.kn kn c=kn[c.toNat]:=by
 unfold Wl.kn;rw[qe,qd a];rfl
theorem lJ{m:aR}{i:Nat}(h:i<m.length):az m i=m[i]:=bt h
theorem iZ{α:Type}(f:α->Bool)(l:List α){k:Nat}(a:k<l.length):(l.take (k+1)).filter f=(l.take k).filter f++if f l[k]then[l[k]]else[]:=by
 rw[aH _ _ a,zh,zm];cases f l[k]<;>rfl
theorem tl(V:aR)(a:Row)(l:List Int)(c:Int):cB V a (l++[c])=cW 1 (az V c.toNat) (cB V a l):=by
 unfold cB;rw[wE];rfl
theorem WE(a t:Row):cW 1 a t=zj (fun x y=>y^^^x) a t:=by
 unfold cW;congr 1;funext x y;rw[Gf.one_mul]
theorem Hy{a t:Row}(c:a.length=t.length){k:Nat}(b:k<t.length):(zj (fun x y=>y^^^x) (a.take k) (t.take k)++t.drop k).set k (t[k]^^^(a[k]'(by omega)))=zj (fun x y=>y^^^x) (a.take (k+1)) (t.take (k+1))++t.drop (k+1):=by
 have d:(zj (fun x y=>y^^^x) (a.take k) (t.take k)).length=k:=by simp;omega
 rw[za _ _ (by omega),d,zf,qT b,zw,aH _ _ b,aH _ _ (show k<a.length by omega),yH (by simp;omega)];simp
theorem TO(p:Addr)(l k v:Sl)(L:List eF)(kn:List Bool)(vs:aR)(n:Nat)(h:Heap)(u:xM h p l k v L kn vs)(F:kn.length=n)(P:∀e∈L,∀c∈e.1,0<=c/\c<(n:Int))(R:L.length<=2^30)(z:∀e∈L,e.1.length<=2^30):
  ac vV Fx #[vN (some p)] h fun v h'=>(∃i:Int,v=vL vR i/\(0<=i->∃(G:i.toNat<L.length),((L[i.toNat]).1.filter fun c=>!Wl.kn kn c).length=1))/\Sp h h' []:=by
 refine DV (some p) ?_;unfold sY;have J:=cm.len u.eqs;refine⟨p,rfl,l,u.box.cell0 rfl,?_⟩;refine av (fun i:Nat=>(i:Int)) (fun i h'=>i<=L.length/\Sp h h' []) (fun i=>L.length-i) 0 rfl ⟨by omega,Sp.refl h⟩ ?_;rintro i O ⟨G,D⟩;refine ak (fun e=>?_) (fun e=>⟨⟨-1,rfl,fun V=>by omega⟩,D⟩);have g:i<L.length:=by omega
 refine pQ.get (fA.up u.eqs D.ai) i rfl g fun x N=>?_;refine(Sp.refl O).alloc ae rfl fun a S H=>?_;refine H.storeAll ae 0 rfl rfl (qv x) rfl rfl rfl rfl fun h3 t=>?_;have y:=up D.ai t.ai;have r:=u.up y;have q:=iR.mono (iR.loc N t.ai) fun b K=>qV K t.ai.1;have w:=t.box 0 rfl;refine⟨x.1,w.cell0 rfl,?_⟩;have M:=q.1.len;have E:=z _ (qg g);let d:Nat->Nat:=fun j=>(((L[i]).1.take j).filter fun c=>!Wl.kn kn c).length;refine av (fun j:Nat=>(((d j:Nat):Int),(j:Int))) (fun j h'=>h'=h3/\j<=(L[i]).1.length) (fun j=>(L[i]).1.length-j) 0 (by simp[d]) ⟨rfl,by omega⟩ ?_;rintro j T ⟨rfl,U⟩;dsimp only;have I:d j<=j:=zl (q7 _ _) (by simp;omega);refine ak (fun Q=>?_) (fun Q=>?_)
 ·have f:j<(L[i]).1.length:=by omega
  have B:=P _ (qg g) _ (qg f);refine q.1.bv j rfl f _ rfl ?_;refine⟨p,rfl,k,r.box.cell rfl,?_⟩;refine r.known.bv (L[i]).1[j].toNat (by omega) (by omega) _ rfl ?_;rw[Go.Vc.wrap_small ((j:Int)+1) (by omega) (by omega),Go.Vc.wrap_small _ (by omega) (by omega)];have o:=TN (kn:=kn) B.1 (by omega);refine bg (fun m=>?_) (fun m=>?_)
  ·refine⟨j+1,?_,⟨rfl,by omega⟩,by omega⟩;have:d (j+1)=d j+1:=by simp only[d];rw[iZ _ _ f,o,m];simp
   rw[this];rfl
  ·refine⟨j+1,?_,⟨rfl,by omega⟩,by omega⟩;have:d (j+1)=d j:=by simp only[d];rw[iZ _ _ f,o,m];simp
   rw[this];rfl
 ·have A:j=(L[i]).1.length:=by omega
  subst A;have s:d (L[i]).1.length=((L[i]).1.filter fun c=>!Wl.kn kn c).length:=by simp only[d];rw[qR]
  rw[s];refine cx (fun m=>⟨⟨i,rfl,fun _=>⟨by omega,by exact_mod_cast m⟩⟩,.zip y⟩) (fun m=>?_);exact⟨i+1,by rw[Go.Vc.wrap_small _ (by omega) (by omega)];rfl,⟨by omega,.zip y⟩,by omega⟩
theorem PC(p:Addr)(l k v:Sl)(L:List eF)(kn:List Bool)(vs:aR)(n w:Nat)(x:Sl×Sl)(e:eF)(h:Heap)(Z:xM h p l k v L kn vs)(N:jl n w L kn vs)(R:fA iR h x e)(I:il n w e)(hw:w<=2^20)(ap:e.1.length<=2^20):
  ac vV Fv #[vN (some p),vQ #[vM x.1.ptr x.1.len x.1.cap,vM x.2.ptr x.2.len x.2.cap]] h fun r h'=>∃a b:Sl,r=vQ #[vM a.ptr a.len a.cap,vM b.ptr b.len b.cap]/\Sp h h' [an aS a 1 aE (eK kn vs e).1,an aD b 1 aC (eK kn vs e).2]:=by
 refine DT (some p) x ?_;unfold sX;refine(Sp.refl h).boxed fun W h1 H1=>?_;refine H1.alloc ae rfl fun X h2 U=>?_;have P2:=U.ai;refine⟨x.2,(U.box 0 rfl).cell rfl,(fH x.2 e.2 h2 (Seq.up R.2 P2) (by have:=I.len;omega)).mono ?_⟩;rintro vv h3 ⟨d,rfl,R3⟩;have H3:=U.comp R3;refine⟨d,rfl,H3.alloc ae rfl fun a5 h4 H4=>?_⟩;refine H4.storeAll ae 3 rfl rfl (qv (⟨none,0,0⟩,d)) rfl rfl rfl rfl fun h5 H5=>?_;have H6:Sp h h5 [au W dG (qv x),au X dG [vM none 0 0,vM none 0 0],an aD d 1 aC e.2,au a5 dG (qv (⟨none,0,0⟩,d)),an aS ⟨none,0,0⟩ 1 aE []]:=H5.nil aS 1 aE;refine⟨x.1,(H6.box 0 rfl).cell0 rfl,?_⟩;have ad:=R.1.len;have am:=N.klen;have ao:=N.vlen;refine av (fun t:Nat×Sl=>(t.1:Int)) (fun t h'=>t.1<=e.1.length/\Sp h h' [au W dG (qv x),au X dG [vM none 0 0,vM none 0 0],an aD d 1 aC (cB vs e.2 ((e.1.take t.1).filter fun c=>Wl.kn kn c)),au a5 dG (qv (t.2,d)),an aS t.2 1 aE ((e.1.take t.1).filter fun c=>!Wl.kn kn c)]) (fun t=>e.1.length-t.1) (0,⟨none,0,0⟩) rfl ⟨by simp,by simpa[cB]using H6⟩ ?_;rintro⟨j,o⟩ h7 ⟨hj,q⟩;dsimp only at*;have s:(cB vs e.2 ((e.1.take j).filter fun c=>Wl.kn kn c)).length=w:=jk I.len fun c hc=>by
  have G:=qI.1 hc;have E:=zK G.1;exact N.Gd (I.cD c E).1 (I.cD c E).2 G.2
 have ab:((e.1.take j).filter fun c=>!Wl.kn kn c).length<=j:=zl (q7 _ _) (by simp;omega);refine ak (fun e2=>?_) (fun e2=>?_)
 ·have f:j<e.1.length:=by omega
  have z:=I.cD _ (qg f);have u:=Z.up q.ai;refine(Seq.up R.1 q.ai).bv j rfl f _ rfl ?_;refine⟨p,rfl,k,u.box.cell rfl,?_⟩;refine u.known.bv (e.1[j]).toNat (by omega) (by omega) _ rfl ?_;have F:=TN (kn:=kn) z.1 (by omega);refine bg (fun B=>?_) (fun B=>?_)
  ·rw[<-F]at B;refine⟨o,(q.box 3 rfl).cell0 rfl,?_⟩;refine q.push ae 4 rfl nw rfl (by decide) (fun _=>rfl) ja e.1[j] rfl (by decide) (by omega) fun O h8 i=>?_;refine i.jD ae 3 rfl rfl [vM O.ptr O.len O.cap] rfl rfl rfl (by simp[qv]) fun h9 K=>?_;refine⟨(j+1,O),by dsimp only;rw[Go.Vc.wrap_small _ (by omega) (by omega)];rfl,⟨by dsimp only;omega,?_⟩,by dsimp only;omega⟩;dsimp only;rw[iZ _ _ f,iZ _ _ f,B];simp only[wU,if_true,zd,if_false,qP];exact K
  ·rw[<-F]at B;have J:=N.Gd z.1 z.2 B;rw[lJ (by omega)]at J;refine⟨p,rfl,v,u.box.cell rfl,?_⟩;obtain⟨vr,P,ah,T⟩:=cm.oW Z.vals;have g:(e.1[j]).toNat<vs.length:=by omega
   refine(Seq.up P q.ai).nX (e.1[j]).toNat (by omega) (by omega) ?_;have M:=(T (e.1[j]).toNat (by omega) g).1;have H:=M.len;generalize vr[(e.1[j]).toNat]'(by omega)=y at M H⊢;obtain⟨A,hA⟩:∃A,A=vs[(e.1[j]).toNat]'g:=⟨_,rfl⟩
   obtain⟨D,hD⟩:∃D,D=cB vs e.2 ((e.1.take j).filter fun c=>Wl.kn kn c):=⟨_,rfl⟩
   rw[<-hA]at J M H;rw[<-hD]at q s;refine av (fun m:Nat=>(m:Int)) (fun m h'=>m<=w/\Sp h h' [au W dG (qv x),au X dG [vM none 0 0,vM none 0 0],an aD d 1 aC (zj (fun x y=>y^^^x) (A.take m) (D.take m)++D.drop m),au a5 dG (qv (o,d)),an aS o 1 aE ((e.1.take j).filter fun c=>!Wl.kn kn c)]) (fun m=>w-m) 0 rfl ⟨by omega,by simpa using q⟩ ?_;rintro m h8 ⟨hm,i⟩;have Y:(zj (fun x y=>y^^^x) (A.take m) (D.take m)).length=m:=by simp;omega
   refine ak (fun e4=>?_) (fun e4=>?_)
   ·have ax:m<w:=by omega
    refine(Seq.up M i.ai).bv m rfl (by omega) _ rfl ?_;refine⟨d,(i.box 3 rfl).cell rfl,?_⟩;refine(i.seq 2 rfl (fun _=>rfl)).bv m rfl (by simp;omega) _ rfl ?_;have Q:((zj (fun x y=>y^^^x) (A.take m) (D.take m)++D.drop m)[m]'(by simp;omega))=D[m]'(by omega):=by
     rw[z7 (by omega)];simp[Y]
    rw[Q,pN];refine i.set ae 2 rfl (fun _=>rfl) rfl m rfl (by simp;omega) (D[m]'(by omega)^^^A[m]'(by omega)) rfl rfl rfl fun h9 K=>?_;rw[Hy (by omega) (by omega)]at K;exact⟨m+1,by rw[Go.Vc.wrap_small _ (by omega) (by omega)];rfl,⟨by omega,K⟩,by omega⟩
   ·have V:m=w:=by omega
    subst V;refine⟨(j+1,o),by dsimp only;rw[Go.Vc.wrap_small _ (by omega) (by omega)];rfl,⟨by dsimp only;omega,?_⟩,by dsimp only;omega⟩;dsimp only;rw[iZ _ _ f,iZ _ _ f,B];simp only[wS,if_true,zd,if_false,qP];rw[tl,lJ g,<-hA,<-hD,WE];rw[qi (by omega),qi (by omega),q9 (by omega),qP]at i;exact i
 ·have S:j=e.1.length:=by omega
  subst S;rw[qR]at q;refine⟨(o,d),(q.box 3 rfl).aQ _ rfl,?_⟩;refine q.storeAll ae 1 rfl rfl (qv (o,d)) rfl rfl rfl rfl fun h8 i=>?_;refine⟨(o,d),(i.box 1 rfl).aQ _ rfl,o,d,rfl,?_⟩;exact i.bV [4,2]
theorem aa.agL{B:aA}{c h:Heap}{As:List HP}{e k:Nat}{α:Type}{f:α->List Value}{s:Sl}{l:List α}(H:aa B c h As)(i:Nat)(d:As[i]?=some (an e s k f l))(m:∀x,(f x).length=k)(j:l≠[]):aa B c h (As.set i (EA (tv k f) s l)):=
 H.gf i d fun q ⟨a,b⟩=>⟨a.seq m b,fun g=>absurd g j⟩
theorem count_set{l:List Bool}:∀{i:Nat} (h:i<l.length),l[i]=false->((l.set i true).count false)+1=l.count false:=by
 induction l with
 |nil=>intro i h;simp at h
 |cons a l ih=>
  intro i h b;cases i with
  |zero=>simp at b;subst b;simp
  |succ i=>
   have:=ih (i:=i) (by simpa using h) (by simpa using b);rw[wv,List.count_cons,List.count_cons];omega
theorem aaY(p:Addr)(l k v:Sl)(L:List eF)(n w:Nat)(o h:Heap)(Q:fA pQ o l L)(D:∀e∈L,il n w e)(hn:n<=64)(R:L.length<=2^20)(hw:1<=w/\w<=2^20)(A:∀e∈L,e.1.length<=2^20)
  (H:Sp o h [au p iA [vM l.ptr l.len l.cap,vM k.ptr k.len k.cap,vM v.ptr v.len v.cap],an gq k 1 dY (qh n false),dv aF v 1 bI (tv 1 aC) (qh n [])]):
  ac vV GR #[vN (some p)] h fun r h'=>r=.tuple #[]/\∃kn vs,jl n w L kn vs/\Sp o h' [au p iA [vM l.ptr l.len l.cap,vM k.ptr k.len k.cap,vM v.ptr v.len v.cap],an gq k 1 dY kn,dv aF v 1 bI (tv 1 aC) vs]:=by
 refine Fu (some p) ?_;unfold ud;refine av (fun _:List Bool×aR=>()) (fun t h'=>jl n w L t.1 t.2/\Sp o h' [au p iA [vM l.ptr l.len l.cap,vM k.ptr k.len k.cap,vM v.ptr v.len v.cap],an gq k 1 dY t.1,dv aF v 1 bI (tv 1 aC) t.2]) (fun t=>t.1.count false) (qh n false,qh n []) rfl ⟨Xw n w L,H⟩ ?_;rintro⟨kn,vs⟩ M ⟨j,P⟩;dsimp only at*;have G:=j.klen;have Y:=j.vlen;have mk:∀{s},Sp o s [au p iA [vM l.ptr l.len l.cap,vM k.ptr k.len k.cap,vM v.ptr v.len v.cap],an gq k 1 dY kn,dv aF v 1 bI (tv 1 aC) vs]->xM s p l k v L kn vs:=fun f=>
  ⟨f.box 0 rfl,fA.up Q f.ai,f.seq 1 rfl fun _=>rfl,f.eRd 2 rfl fun _=>rfl⟩
 refine(TO p l k v L kn vs n M (mk P) G (fun e F=>(D e F).cD) (by omega) (fun e F=>by have:=A e F;omega)).mono ?_;rintro _ s ⟨⟨i,rfl,T⟩,S⟩;refine⟨i,rfl,?_⟩;have f:=P.up S.ai;refine ak (fun e=>⟨rfl,kn,vs,j,f⟩) (fun e=>?_);have I:0<=i:=Int.not_lt.1 e;obtain⟨y,B⟩:=T I;have m:=mk f;refine⟨p,rfl,l,m.box.cell0 rfl,?_⟩;refine pQ.get m.eqs i.toNat (by omega) y fun x X=>?_;have d:=qg y;refine(PC p l k v L kn vs n w x L[i.toNat] s m j X (D _ d) hw.2 (A _ d)).mono ?_;rintro _ h3 ⟨a,b,rfl,W⟩;refine⟨(a,b),rfl,?_⟩;obtain⟨c,E⟩:∃c,(eK kn vs L[i.toNat]).1=[c]:=by
  have M:(eK kn vs L[i.toNat]).1.length=1:=B
  match s:(eK kn vs L[i.toNat]).1,M with
  |[c],_=>exact⟨c,rfl⟩
 have z:=j.BZ (D _ d);have N:=z.cD c (by rw[E];simp);have q:Wl.kn kn c=false:=Ge j L[i.toNat] c (by rw[E];simp);rw[TN N.1 (by omega)]at q;have O:=f.comp W;rw[E]at O;refine O.alloc ae rfl fun a8 h4 V=>?_;refine V.storeAll ae 5 rfl rfl (qv (a,b)) rfl rfl rfl rfl fun h5 g=>?_;refine⟨p,rfl,k,(g.box 0 rfl).cell rfl,a,(g.box 5 rfl).cell0 rfl,?_⟩;have u:=g.seq 3 rfl fun _=>rfl;refine u.bv 0 rfl (by simp) c rfl ?_;refine⟨p,rfl,v,(g.box 0 rfl).cell rfl,a,(g.box 5 rfl).cell0 rfl,?_⟩;refine u.bv 0 rfl (by simp) c rfl ?_;refine⟨b,(g.box 5 rfl).cell rfl,?_⟩;refine g.set ae 1 rfl (fun _=>rfl) rfl c.toNat (by omega) (by omega) true rfl rfl rfl fun h6 K=>?_;refine⟨⟨(K.box 5 rfl).cell rfl,(K.box 5 rfl).cell0 rfl,trivial⟩,?_⟩;have J:(eK kn vs L[i.toNat]).2≠[]:=fun Z=>by have:=z.len;rw[Z]at this;simp at this;omega
 have U:=aa.agL K 4 rfl (fun _=>rfl) J;refine U.agE ae 2 4 (by decide) rfl rfl (fun _=>rfl) rfl c.toNat (by omega) (by omega) rfl rfl rfl fun h8 H8=>⟨trivial,?_⟩
 refine⟨(kn.set c.toNat true,vs.set c.toNat (eK kn vs L[i.toNat]).2),rfl,⟨ZM j D d E,H8.bV [0,1,2]⟩,?_⟩;have:=count_set (l:=kn) (i:=c.toNat) (by omega) q;dsimp only;omega
theorem VL(s:Sl)(l:Row)(h:Heap)(a:Rd h s 1 aC l)(c:s.len<=s.cap)(d:l.length<=2^30):
  ac vV NV #[vM s.ptr s.len s.cap] h fun v h'=>v=vP (!(l.any (· !=0)))/\h'=h:=by
 refine LM s ?_;unfold ES;refine(PB s l _ rfl h a c d).mono ?_;rintro _ e ⟨⟨r,rfl,b⟩,rfl⟩;refine⟨r,rfl,?_,rfl⟩;congr 1;rw[yQ];simp only[beq_iff_eq,wV,zZ,bne_iff_ne,ne_eq,Decidable.not_not];rw[<-b];omega
def Ot(l:List Int):Prop:=∀i (h:i+1<l.length),l[i]<l[i+1]
theorem QI(n:Nat)(l:Sl)(L:List eF)(w:Nat)(h:Heap)(q:fA pQ h l L)(B:∀e∈L,il n w e/\Ot e.1)(hn:n<=64)(I:L.length<=2^20)(t:∀e∈L,e.1.length<=2^20):
  ac vV Qt #[vL vR n,vM l.ptr l.len l.cap] h fun v h'=>v=vP true/\Sp h h' []:=by
 refine NU _ l ?_;unfold GQ;have O:=cm.len q;refine ba (ak (fun e=>by omega) fun _=>ak (fun e=>by omega) fun _=>?_);refine av (fun i:Nat=>(i:Int)) (fun i h'=>i<=L.length/\Sp h h' []) (fun i=>L.length-i) 0 rfl ⟨by omega,Sp.refl h⟩ ?_;rintro i W ⟨hi,A⟩;refine ak (fun e=>?_) (fun e=>⟨rfl,A⟩);have f:i<L.length:=by omega
 refine pQ.get (fA.up q A.ai) i rfl f fun x V=>?_;refine(Sp.refl W).alloc ae rfl fun a h2 J=>?_;refine J.storeAll ae 0 rfl rfl (qv x) rfl rfl rfl rfl fun h3 p=>?_;have F:=up A.ai p.ai;have c:=iR.mono (iR.loc V p.ai) fun b R=>qV R p.ai.1;have d:=p.box 0 rfl;refine⟨x.1,d.cell0 rfl,?_⟩;have U:=c.1.len;have D:=t _ (qg f);obtain⟨m,u⟩:=B _ (qg f);refine av (fun j:Nat=>(j:Int)) (fun j h'=>h'=h3/\j<=(L[i]).1.length) (fun j=>(L[i]).1.length-j) 0 rfl ⟨rfl,by omega⟩ ?_;rintro j E ⟨rfl,hj⟩;refine ak (fun Z=>?_) (fun Z=>?_)
 ·have o:j<(L[i]).1.length:=by omega
  have Y:=m.cD _ (qg o);refine c.1.bv j rfl o _ rfl ?_;refine ak (fun e=>by omega) fun _=>ak (fun e=>by omega) fun _=>?_;have G:∃r:Nat,qc vR ((j:Int)+1)=(r:Int)/\(E=E/\r<=(L[i]).1.length)/\(L[i]).1.length-r<(L[i]).1.length-j:=⟨j+1,by rw[Go.Vc.wrap_small _ (by omega) (by omega)];rfl,⟨rfl,by omega⟩,by omega⟩
  refine ak (fun S=>?_) (fun S=>G);refine⟨x.1,d.cell0 rfl,?_⟩;rw[Go.Vc.wrap_small ((j:Int)-1) (by omega) (by omega)];refine c.1.bv (j-1) (by omega) (by omega) _ rfl ?_;have H:=u (j-1) (by omega);have Q:(L[i]).1[j-1+1]'(by omega)=(L[i]).1[j]:=by congr 1;omega
  rw[Q]at H;exact ak (fun e=>absurd H (by omega)) fun _=>G
 ·refine⟨x.2,d.cell rfl,?_⟩;obtain⟨rs,N,h8,T⟩:=cm.oW (fA.up q F);have z:=(T 0 (by omega) (by omega)).2.len;obtain⟨s,P,y,M,X⟩:=N.dD (g:=qv) (i:=(0:Int)) 0 rfl (by omega) (rs[0]'(by omega)) rfl (K:=fun y=>y.2.len=w) (by rw[z];exact(B _ (qg (show 0<L.length by omega))).1.len);refine⟨s,P,y.2,?_,?_⟩
  ·exact M.2.1
  have k:=c.2.len;rw[m.len]at k;refine bQ (fun e=>absurd (by rw[k,X]) e) fun _=>?_;exact⟨i+1,by rw[Go.Vc.wrap_small _ (by omega) (by omega)];rfl,⟨by omega,.zip F⟩,by omega⟩
theorem aa.aaZ{B:aA}{m h:Heap}{As:List HP}{e k:Nat}{α β:Type}{E:iC α β}{f:α->List Value}{s:Sl}{n:Nat}{a:α}{b:β}(H:aa B m h As)(i:Nat)(o:As[i]?=some (an e s k f (qh n a)))(t:∀h,E.p h (fun _=>False) a b):aa B m h (As.set i (dv e s k f E (qh n b))):=
 H.gf i o fun q ⟨x,y⟩=>⟨_,fun _=>False,x,fun c v=>⟨y c v,fun h=>h⟩,fun _ h=>h.elim,by simp,fun j r l d g=>by
  rw[zX]at d g;split at d
  ·rename_i u;rw[if_pos u]at g;cases d;cases g;exact t h
  ·cases d⟩
theorem aa.agM{B:aA}{f h:Heap}{As:List HP}{e o:Nat}{a b:Sl}{l:List Int}{r:Row}(H:aa B f h As)(i j:Nat)(d:i≠j)(m:As[i]?=some (an e a 1 aE l))(n:As[j]?=some (an o b 1 aC r)):aa B f h ((As.set i (EA iR (a,b) (l,r))).set j emp):=
 H.merge i j d m n fun p q _ g k=>⟨g.1.seq (fun _=>rfl) fun x c=>.inl (g.2 x c),k.1.seq (fun _=>rfl) fun x c=>.inr (k.2 x c)⟩
theorem aba(kn:List Bool)(vs:aR)(L:List eF){i:Nat}(a:i<L.length):aW kn vs (L.take (i+1))=if(eK kn vs L[i]).1.isEmpty then aW kn vs (L.take i)else aW kn vs (L.take i)++[eK kn vs L[i]]:=by
 unfold aW;rw[aH _ _ a,qQ,zh];cases h:(eK kn vs L[i]).1.isEmpty<;>simp[h]
theorem Yx(kn:List Bool)(vs:aR)(L:List eF){i:Nat}(a:i<L.length):jI kn vs (L.take (i+1))=(jI kn vs (L.take i)||((eK kn vs L[i]).1.isEmpty&&(eK kn vs L[i]).2.any (· !=0))):=by
 unfold jI;rw[aH _ _ a,qQ,yP];simp
theorem Yy{kn:List Bool}{vs:aR}{L:List eF}{i:Nat}(h:jI kn vs (L.take i)=true):jI kn vs L=true:=by
 rw[<-qD i L];unfold jI at*;rw[qQ,yP,h];rfl
theorem abb(l:Sl)(L:List eF)(n w:Nat)(h:Heap)(D:fA pQ h l L)(R:∀e∈L,il n w e/\Ot e.1)(hn:n<=64)(F:L.length<=2^20)(hw:1<=w/\w<=2^20)(A:∀e∈L,e.1.length<=2^20):
  ac vV SG #[vL vR n,vM l.ptr l.len l.cap] h fun r h'=>∃kn vs,jl n w L kn vs/\((jI kn vs L=true/\r=.tuple #[vM none 0 0,vM none 0 0,vM none 0 0,vL vR 10]/\Sp h h' [])∨
   (jI kn vs L=false/\∃k v s:Sl,r=.tuple #[vM k.ptr k.len k.cap,vM v.ptr v.len v.cap,vM s.ptr s.len s.cap,vL vR 0]/\Sp h h' [an gq k 1 dY kn,dv aF v 1 bI (tv 1 aC) vs,dv dG s 2 qv iR (aW kn vs L)])):=by
 refine Qm _ l ?_;unfold IX;have ao:=cm.len D;refine(QI n l L w h D R hn F A).mono ?_;rintro _ h1 ⟨rfl,R1⟩;refine⟨true,rfl,bg (fun e=>by cases e) fun _=>?_⟩;refine cl (fun s h'=>∃(p:Addr) (k v:Sl),s=some p/\Sp h h' [au p iA [vM l.ptr l.len l.cap,vM k.ptr k.len k.cap,vM v.ptr v.len v.cap],an gq k 1 dY (qh n false),dv aF v 1 bI (tv 1 aC) (qh n [])]) ⟨?_,?_⟩ ?_
 ·refine R1.make ae dY adP (by decide) false rfl rfl n n rfl rfl (ql _) (by omega) fun k h2 U Y S=>⟨trivial,?_⟩
  refine S.make ae bI aaX (by decide) ⟨none,0,0⟩ rfl rfl n n rfl rfl (ql _) (by omega) fun v h3 W P X=>⟨trivial,?_⟩
  refine X.boxed fun p h4 G=>⟨trivial,p,k,v,rfl,?_⟩
  exact(aa.aaZ (E:=tv 1 aC) (b:=[]) G 1 rfl fun h=>⟨Seq.nil _ _ _ _ _ _,fun _=>rfl⟩).bV [2,0,1]
 ·refine R1.make ae bI aaX (by decide) ⟨none,0,0⟩ rfl rfl n n rfl rfl (ql _) (by omega) fun v h3 W P X=>⟨trivial,?_⟩
  refine X.make ae dY adP (by decide) false rfl rfl n n rfl rfl (ql _) (by omega) fun k h2 U Y S=>⟨trivial,?_⟩
  refine S.boxed fun p h4 G=>⟨trivial,p,k,v,rfl,?_⟩
  exact(aa.aaZ (E:=tv 1 aC) (b:=[]) G 0 rfl fun h=>⟨Seq.nil _ _ _ _ _ _,fun _=>rfl⟩).bV [2,1,0]
 rintro s h4 ⟨p,k,v,rfl,G⟩;refine(aaY p l k v L n w h h4 D (fun e he=>(R e he).1) hn F hw A G).mono ?_;rintro _ h5 ⟨rfl,kn,vs,J,H5⟩;refine⟨(),rfl,?_⟩;refine av (fun t:Nat×Sl=>(t.2,(t.1:Int))) (fun t h'=>t.1<=L.length/\jI kn vs (L.take t.1)=false/\Sp h h' [au p iA [vM l.ptr l.len l.cap,vM k.ptr k.len k.cap,vM v.ptr v.len v.cap],an gq k 1 dY kn,dv aF v 1 bI (tv 1 aC) vs,dv dG t.2 2 qv iR (aW kn vs (L.take t.1))]) (fun t=>L.length-t.1) (0,⟨none,0,0⟩) rfl ⟨by simp,rfl,H5.Rr dG 2 qv iR⟩ ?_;rintro⟨i,o⟩ h6 ⟨hi,q,B⟩;dsimp only at*;refine ak (fun e=>?_) (fun e=>?_)
 ·have j:i<L.length:=by omega
  obtain⟨rs,q1,q2,q3⟩:=cm.oW D;have hx:=q3 i (by omega) j;refine(Seq.up q1 B.ai).dD (g:=qv) i rfl (by omega) (rs[i]'(by omega)) rfl ?_;generalize rs[i]'(by omega)=x at hx⊢;refine B.alloc ae rfl fun a h7 H7=>?_;refine H7.storeAll ae 4 rfl rfl (qv x) rfl rfl rfl rfl fun h8 z=>?_;refine⟨x,(z.box 4 rfl).aQ _ rfl,?_⟩;have T:xM h8 p l k v L kn vs:=⟨z.box 0 rfl,fA.up D z.ai,z.seq 1 rfl fun _=>rfl,z.eRd 2 rfl fun _=>rfl⟩
  obtain⟨H,-⟩:=R _ (qg j);have N:fA iR h8 x L[i]:=fA.up hx z.ai;refine(PC p l k v L kn vs n w x L[i] h8 T J N H hw.2 (A _ (qg j))).mono ?_;rintro _ h9 ⟨c,d,rfl,R9⟩;refine⟨(c,d),rfl,?_⟩;have H9:=z.comp R9;refine H9.alloc ae rfl fun a2 ap O=>?_;refine O.storeAll ae 7 rfl rfl (qv (c,d)) rfl rfl rfl rfl fun K f=>?_;refine⟨c,(f.box 7 rfl).cell0 rfl,?_⟩;have y:=(f.own 5 rfl).len;have ah:(aW kn vs (L.take i)).length<=L.length:=by
   unfold aW;refine zl (q7 _ _) ?_;simp;omega
  have u:=aba kn vs L j;have m:=Yx kn vs L j;refine ak (fun e2=>?_) (fun e2=>?_)
  ·have Z:(eK kn vs L[i]).1.isEmpty=false:=by
    cases hh:(eK kn vs L[i]).1 with
    |nil=>rw[hh]at y;simp at y;omega
    |cons a l=>rfl
   rw[Z]at u m;refine⟨(c,d),(f.box 7 rfl).aQ _ rfl,?_⟩;have M:=aa.agM f 5 6 (by decide) rfl rfl;refine M.HR ae 3 5 (by decide) rfl rfl eQ rfl (by decide) (fun _=>rfl) aaW rfl (by decide) (by omega) fun o' ad ab=>?_;refine⟨(i+1,o'),by dsimp only;rw[Go.Vc.wrap_small _ (by omega) (by omega)];rfl,⟨by dsimp only;omega,by dsimp only;rw[m,q];rfl,?_⟩,by dsimp only;omega⟩;dsimp only;rw[u];exact ab.bV [0,1,2,3]
  ·have Q:(eK kn vs L[i]).1.isEmpty=true:=by
    cases hh:(eK kn vs L[i]).1 with
    |nil=>rfl
    |cons a l=>rw[hh]at y;simp at y;omega
   rw[Q]at u m;refine⟨d,(f.box 7 rfl).cell rfl,?_⟩;refine(VL d _ K (f.seq 6 rfl fun _=>rfl) (f.own 6 rfl).cap (by have:=(J.BZ H).len;omega)).mono ?_;rintro _ am ⟨rfl,rfl⟩;refine⟨_,rfl,bg (fun I=>?_) (fun I=>?_)⟩
   ·refine⟨kn,vs,J,.inl ⟨Yy (i:=i+1) ?_,rfl,f.bV []⟩⟩;rw[m];simp at I;simp[I]
   ·refine⟨(i+1,o),by dsimp only;rw[Go.Vc.wrap_small _ (by omega) (by omega)];rfl,⟨by dsimp only;omega,?_,?_⟩,by dsimp only;omega⟩
    ·dsimp only;rw[m,q];simp at I;simp;exact I
    ·dsimp only;rw[u];exact f.bV [0,1,2,3]
 ·have V:i=L.length:=by omega
  subst V;rw[qR]at B q;refine⟨p,rfl,k,(B.box 0 rfl).cell rfl,p,rfl,v,(B.box 0 rfl).cell rfl,kn,vs,J,.inr ⟨q,k,v,o,rfl,B.bV [1,2,3]⟩⟩
def km(pool:List (Sl×Row)):HP:=⟨fun h q=>∀x∈pool,Seq h q x.1 1 aC x.2,fun a d x b=>(a x b).ai d,fun a c x b=>(a x b).mono c⟩
theorem _root_.Go.Vc.aa.pool{B:aA}{c h:Heap}{As:List HP}(H:aa B c h As)(i j:Nat)(b:i≠j){pool:List (Sl×Row)}{r:Sl}{l:Row}(d:As[i]?=some (km pool))(g:As[j]?=some (tu r 1 aC l)):aa B c h ((As.set i (km ((r,l)::pool))).set j emp):=
 H.merge i j b d g fun k m _ e f x a=>by
  rcases zc.1 a with rfl|a
  ·exact Seq.mono f fun _ h=>.inr h
  ·exact(e x a).mono fun _ h=>.inl h
theorem _root_.Go.Vc.aa.MD{B:aA}{b h:Heap}{As:List HP}(H:aa B b h As)(i:Nat){pool:List (Sl×Row)}(c:As[i]?=some (km pool)){r:Sl}{l:Row}(a:(r,l)∈pool):Rd h r 1 aC l:=(H.at i c) _ a
theorem _root_.Go.Vc.aa.acY{B:aA}{e h:Heap}{As:List HP}(H:aa B e h As)(i j:Nat)(c:i≠j){pool:List (Sl×Row)}{s:Sl}{rs:List Sl}{d:aR}(n:As[i]?=some (an aF s 1 bI rs))(q:As[j]?=some (km pool))
  (v:rs.length=d.length) (g:∀(k:Nat) r l,rs[k]?=some r->d[k]?=some l->(r,l)∈pool):aa B e h ((As.set i (fI aF s 1 aC d)).set j emp):=
 H.merge i j c n q fun w u m a p=>⟨rs,u,a.1,fun b f=>⟨.inl (a.2 b f),m b (a.2 b f)⟩,fun _ h=>.inr h,v,fun k r l t o=>p _ (g k r l t o)⟩
def gC(pool:List (Sl×Row))(g:Row->Row)(rs:List Sl)(m:aR):Prop:=rs.length=m.length/\∀(i:Nat) r l,rs[i]?=some r->m[i]?=some l->(r,g l)∈pool
theorem gC.get{pool:List (Sl×Row)}{g:Row->Row}{rs:List Sl}{m:aR}(h:gC pool g rs m){i:Nat}(a:i<m.length):(rs[i]'(by rw[h.1];exact a),g m[i])∈pool:=
 h.2 i _ _ (qd _) (qd _)
theorem gC.mono{pool a:List (Sl×Row)}{g:Row->Row}{rs:List Sl}{m:aR}(h:gC pool g rs m)(d:∀x∈pool,x∈a):gC a g rs m:=⟨h.1,fun i r l b c=>d _ (h.2 i r l b c)⟩
theorem gC.set{pool:List (Sl×Row)}{g:Row->Row}{rs:List Sl}{m:aR}(h:gC pool g rs m)(i:Nat){r:Sl}{l:Row}(e:(r,g l)∈pool):gC pool g (rs.set i r) (m.set i l):=by
 refine⟨by simp[h.1],fun k j f a b=>?_⟩;rw[qZ]at a b;by_cases c:i=k
 ·subst c;rw[if_pos rfl]at a b;split at a
  ·rename_i d;rw[if_pos (by rw[<-h.1];exact d)]at b;cases a;cases b;exact e
  ·cases a
 ·rw[if_neg c]at a b;exact h.2 k j f a b
theorem _root_.Go.Vc.aa.Ee{B:aA}{d h:Heap}{As:List HP}(H:aa B d h As)(i j:Nat){pool:List (Sl×Row)}{e:Nat}{s:Sl}{rs:List Sl}{c:aR}(f:As[i]?=some (an e s 1 bI rs))(m:As[j]?=some (km pool))
  (a:gC pool id rs c):gG h (fun b=>b<h.size) s 1 aC c rs:=⟨H.seq i f fun _=>rfl,a.1,fun k r l n g=>H.MD j m (a.2 k r l n g)⟩
theorem Hz{B:aA}{r h:Heap}{As:List HP}(s f:Addr)(t:UInt8)(g a:Sl)(b c:Row)(H:aa B r h (an aD a 1 aC c::As))(E:St B r As fun h=>cellOf h s=some (vN (some f))/\gA h f/\Rd h g 1 aC b)
  (S:b.length=c.length) (T:b.length<=2^30) {K:Heap->Prop} (P:∀h',aa B r h' (an aD a 1 aC (cW t b c)::As)->K h'):
  aL (σ:=Int) (fun d N i=>
 Br (decide (d<((g.len:Nat):Int)))
 (∃G:Addr,(g.ptr=some G/\0<=d/\d<((g.len:Nat):Int))/\
 ∃I:Int,cellOf i (G.add (d.toNat*1))=some (vL vS I)/\
 ∃A:Addr,(a.ptr=some A/\0<=d/\d<((a.len:Nat):Int))/\
 ∃w:Int,cellOf i (A.add (d.toNat*1))=some (vL vS w)/\
 ∃l:Addr,(some s=some l)/\
 ∃m:Option Addr,cellOf i l=some (.pointer m)/\
 af vV AJ #[(.pointer m),(vL vS (t.toNat:Int)),(vL vS I)] (.one (.sc (.int .u8))) i fun u z=>
 (aq.ok [(A.add (d.toNat*1),(vL vS w))] z)/\
 ∃n:Addr,(a.ptr=some n/\0<=d/\d<((a.len:Nat):Int))/\
 ag vV (qf aD (vN (some (n.add (d.toNat*1)))) (vL vS (qc vS ((qA (qk vS) w^^^(qA (qk vS) u)).toNat:Nat)))) z fun _ h3=>
 (aq.ok [] h3)/\
 N (qc vR (d+(1:Int))) h3) (K i)) (0:Int) h:=by
 have R:g.len=b.length:=(E.at [an aD a 1 aC c] H).2.2.len;refine av (fun k:Nat=>(k:Int)) (fun k h'=>k<=b.length/\aa B r h' (an aD a 1 aC (zj (fun x y=>y^^^Gf.mul t x) (b.take k) (c.take k)++c.drop k)::As)) (fun k=>b.length-k) 0 rfl ⟨by omega,by simpa using H⟩ ?_;rintro k i ⟨L,q⟩;obtain⟨M,Q,J⟩:=E.at [_] q;refine ak (fun e=>?_) (fun e=>?_)
 ·have D:k<b.length:=by omega
  have o:(zj (fun x y=>y^^^Gf.mul t x) (b.take k) (c.take k)).length=k:=by simp;omega
  have O:(zj (fun x y=>y^^^Gf.mul t x) (b.take k) (c.take k)++c.drop k).length=c.length:=by rw[qu,o,qY];omega
  refine J.bv k rfl D _ rfl ?_;have j:(zj (fun x y=>y^^^Gf.mul t x) (b.take k) (c.take k)++c.drop k)[k]'(by omega)=c[k]:=by
   rw[z7 (by omega)];simp[o]
  refine(q.seq 0 rfl fun _=>rfl).QN k rfl (by omega) _ rfl fun ax p=>?_;rw[j]at p⊢;refine⟨s,rfl,some f,M,(Kg f t b[k] i Q).mono ?_⟩;rintro v z ⟨rfl,rfl⟩;refine⟨_,rfl,⟨p,trivial⟩,?_⟩;rw[pN];refine q.set ae 0 rfl (fun _=>rfl) rfl k rfl (by omega) _ rfl rfl rfl fun h3 F=>⟨trivial,?_⟩
  rw[zw,xD S (by omega)]at F;exact⟨k+1,by rw[Go.Vc.wrap_small _ (by omega) (by omega)];rfl,⟨by omega,F⟩,by omega⟩
 ·have:k=b.length:=by omega
  subst this;rw[qi (ql _),qi (by omega),q9 (by omega),qP]at q;exact P i q
def fM(f:Addr)(p:Int×Int×Int)(v r e c d a b:Sl):List Value:=[vN (some f),vL vR p.1,vL vR p.2.1,vL vR p.2.2,vM v.ptr v.len v.cap,vM r.ptr r.len r.cap,vM e.ptr e.len e.cap,vM c.ptr c.len c.cap,vM d.ptr d.len d.cap,vM a.ptr a.len a.cap,vM b.ptr b.len b.cap]
structure CY (h:Heap) (s f:Addr) (wa mo:Sl) (wr mr:List Sl) (W M:aR):Prop where
 fld:cellOf h s=some (vN (some f))
 way:cellOf h (s.add 9)=some (vM wa.ptr wa.len wa.cap)
 more:cellOf h (s.add 10)=some (vM mo.ptr mo.len mo.cap)
 field:gA h f
 rW:gG h (fun b=>b<h.size) wa 1 aC W wr
 rM:gG h (fun b=>b<h.size) mo 1 aC M mr
theorem CY.of{h:Heap}{s f:Addr}{p:Int×Int×Int}{v r l n i c a:Sl}{e g:List Sl}{W M:aR}(d:cw h s AA (fM f p v r l n i c a))(k:gA h f)(m:gG h (fun b=>b<h.size) c 1 aC W e)(j:gG h (fun b=>b<h.size) a 1 aC M g):CY h s f c a e g W M:=
 ⟨d.cell0 rfl,d.cell rfl,d.cell rfl,k,m,j⟩
theorem HB{B:aA}{j h:Heap}{As:List HP}(s f:Addr)(t:UInt8)(c:Int)(b a x n:Sl)(w0 e:Row)(o u:List Sl)(W M:aR)(H:aa B j h (an aD b 1 aC w0::an aD a 1 aC e::As))(g:St B j As fun h=>CY h s f x n o u W M)
  (F:0<=c) (r:c.toNat<W.length) (w:c.toNat<M.length) (z:(az W c.toNat).length=w0.length) (l:(az M c.toNat).length=e.length) (E:w0.length<=2^30) (D:e.length<=2^30):
  ac vV DU #[vN (some s),vL vS t.toNat,vL vR c,vM b.ptr b.len b.cap,vM a.ptr a.len a.cap] h fun v h'=>v=.tuple #[]/\aa B j h' (an aD b 1 aC (cW t (az W c.toNat) w0)::an aD a 1 aC (cW t (az M c.toNat) e)::As):=by
 refine CC (some s) _ c b a ?_;unfold rj;have S:=g.at [_,_] H;refine⟨s,rfl,x,S.way,?_⟩;rw[lJ r]at z⊢;rw[lJ w]at l⊢;have q:=S.rW;have A:=q.len;refine q.top.nX c.toNat (by omega) (by omega) ?_;refine Hz s f t (o[c.toNat]'(by omega)) b (W[c.toNat]) w0 H (St.mk' fun h' k=>?_) z (by omega) fun h3 i=>?_
 ·have d:=g.at [_] k;exact⟨d.fld,d.field,d.rW.row _ _ _ (qd _) (qd r)⟩
 have m:=g.at [_,_] i;refine⟨s,rfl,n,m.more,?_⟩;have y:=m.rM;have p:=y.len;refine y.top.nX c.toNat (by omega) (by omega) ?_;refine Hz s f t (u[c.toNat]'(by omega)) a (M[c.toNat]) e i.uV (St.mk' fun h' k=>?_) l (by omega) fun h3 i=>⟨rfl,i.uV⟩
 ·have d:=g.at [_] k;exact⟨d.fld,d.field,d.rM.row _ _ _ (qd _) (qd w)⟩
def fb:List Int->Bool
 |[]=>true
 |[_]=>true
 |a::b::r=>decide (a<b)&&fb (b::r)
theorem ME:∀(l:List Int) (a b:Int),fb (l++[a,b])=(fb (l++[a])&&decide (a<b))
 |[],a,b=>by simp[fb]
 |[c],a,b=>by simp[fb]
 |c::d::r,a,b=>by
  have:=ME (d::r) a b;simp only[zu]at this⊢;simp only[fb,this,Bool.and_assoc]
theorem abc{l r:List Int}(h:fb l=false):fb (l++r)=false:=by
 induction l with
 |nil=>simp[fb]at h
 |cons a t ih=>
  cases t with
  |nil=>simp[fb]at h
  |cons b t=>
   simp only[fb,yR]at h;simp only[zu,fb,yR];rcases h with h|h
   ·exact .inl h
   ·exact .inr (ih h)
theorem acZ(l:List Int)(k:Nat)(h:k+1<l.length):l.take (k+2)=l.take k++[l[k],l[k+1]]:=by
 have a:l.take (k+2)=l.take (k+1)++[l[k+1]]:=aH l (k+1) h;have b:=aH l k (by omega);rw[a,b,qo];rfl
def fc(n:Int)(r:List Int):Bool:=r.all (fun c=>decide (0<=c/\c<n))&&fb r
theorem abd{n:Int}{l r:List Int}(h:fc n l=false):fc n (l++r)=false:=by
 simp only[fc,yR]at*;rcases h with h|h
 ·left;rw[yz,h];rfl
 ·right;exact abc h
theorem Yz{n:Int}{r:List Int}(h:0<r.length):fc n (r.take 1)=decide (0<=r[0]/\r[0]<n):=by
 cases r with
 |nil=>simp at h
 |cons a t=>simp[fc,fb]
theorem YA{n:Int}{r:List Int}{k:Nat}(h:k+1<r.length):fc n (r.take (k+2))=(fc n (r.take (k+1))&&decide (0<=r[k+1]/\r[k+1]<n)&&decide (r[k]<r[k+1])):=by
 have a:r.take (k+2)=r.take (k+1)++[r[k+1]]:=aH r (k+1) h;have b:fb (r.take (k+2))=(fb (r.take (k+1))&&decide (r[k]<r[k+1])):=by
  rw[acZ r k h,ME,aH r k (by omega)]
 simp only[fc,b];rw[a,yz];simp only[vI,List.all_nil,Bool.and_true]
 cases(r.take (k+1)).all fun c=>decide (0<=c/\c<n)<;>cases fb (r.take (k+1))<;>cases decide (0<=r[k+1]/\r[k+1]<n)<;>simp
theorem xN{n:Int}{r:List Int}{k:Nat}(h:fc n (r.take k)=false):fc n r=false:=by
 rw[<-qD k r];exact abd h
theorem YB{n:Int}{r:List Int}{k:Nat}(c:k<r.length)(h:fc n (r.take k)=true):
  (r[k]<0->fc n r=false)/\(n<=r[k]->fc n r=false)/\(∀(h0:0<k),r[k]<=r[k-1]->fc n r=false)/\
  (0<=r[k]->r[k]<n->(∀h0:0<k,r[k-1]<r[k])->fc n (r.take (k+1))=true):=by
 cases k with
 |zero=>
  have e:=Yz (n:=n) c;refine⟨fun a=>xN (k:=1) ?_,fun a=>xN (k:=1) ?_,fun h0=>by omega,fun a b _=>?_⟩
  ·rw[e,decide_eq_false (by omega)]
  ·rw[e,decide_eq_false (by omega)]
  ·rw[e,decide_eq_true ⟨a,b⟩]
 |succ k=>
  have e:=YA (n:=n) c;refine⟨fun a=>xN (k:=k+2) ?_,fun a=>xN (k:=k+2) ?_,fun h0 a=>xN (k:=k+2) ?_,fun a b h3=>?_⟩
  ·rw[e,decide_eq_false (p:=0<=r[k+1]/\r[k+1]<n) (by omega)];simp
  ·rw[e,decide_eq_false (p:=0<=r[k+1]/\r[k+1]<n) (by omega)];simp
  ·rw[e,decide_eq_false (p:=r[k]<r[k+1]) (by simpa using a)];simp
  ·have d:r[k]<r[k+1]:=by simpa using h3 (by omega)
   rw[e,h,decide_eq_true (p:=0<=r[k+1]/\r[k+1]<n) ⟨a,b⟩,decide_eq_true d];rfl
def jd(n:Int)(a:List (List Int)):Bool:=decide (0<=n/\n<=64)&&a.all (fc n)
theorem ada{α:Type}{f:α->Bool}{l:List α}{k:Nat}(a:k<l.length)(h:(l.take k).all f=true):(l.take (k+1)).all f=f l[k]:=by
 rw[aH _ _ a,yz,h];simp
theorem afX{α:Type}{f:α->Bool}{l:List α}{k:Nat}(a:k<l.length)(h:f l[k]=false):l.all f=false:=by
 rw[ye];exact⟨l[k],qg a,by simp[h]⟩
theorem Ou{p:aA}(n:Int)(a:Sl)(b:List (List Int))(rs:List Sl)(h:Heap)(z:gG h p a 1 aE b rs)(H:b.length<=2^40)(s:∀l∈b,l.length<=2^40):
  ac vV Ob #[vL vR n,vM a.ptr a.len a.cap] h fun v h'=>v=vP (jd n b)/\h'=h:=by
 refine LS n a ?_;unfold EU;have E:=z.Rj;refine cl (fun _ h'=>h'=h/\0<=n/\n<=64) ?_ ?_
 ·refine ak (fun j=>⟨?_,rfl⟩) (fun j=>ak (fun f=>⟨?_,rfl⟩) (fun f=>⟨rfl,by omega,by omega⟩))
  ·rw[jd,decide_eq_false (by omega)];rfl
  ·rw[jd,decide_eq_false (by omega)];rfl
 ·rintro _ h' ⟨rfl,u,t⟩;have y:jd n b=b.all (fc n):=by rw[jd,decide_eq_true ⟨u,t⟩];rfl
  refine av (fun k:Nat=>(k:Int)) (fun k h0=>h0=h'/\k<=b.length/\(b.take k).all (fc n)=true) (fun k=>b.length-k) 0 rfl ⟨rfl,by omega,by simp⟩ ?_;rintro i h0 ⟨rfl,I,c⟩;refine ak (fun w=>?_) (fun m=>?_)
  ·have e:i<b.length:=by omega
   refine z.get i rfl e fun r q _=>?_;have B:=q.len;have F:=s _ (qg e);have d:fc n b[i]=false->jd n b=false:=fun D=>by rw[y];exact afX e D
   refine av (fun k:Nat=>(k:Int)) (fun k f=>f=h0/\k<=b[i].length/\fc n (b[i].take k)=true) (fun k=>b[i].length-k) 0 rfl ⟨rfl,by omega,by simp[fc,fb]⟩ ?_;rintro k f ⟨rfl,J,o⟩;refine ak (fun w=>?_) (fun m=>?_)
   ·have g:k<b[i].length:=by omega
    obtain⟨n1,n2,G,A⟩:=YB g o;refine q.bv k rfl g _ rfl ?_;refine ak (fun j=>⟨by rw[d (n1 j)],rfl⟩) (fun j=>?_);refine ak (fun f=>⟨by rw[d (n2 f)],rfl⟩) (fun f=>?_);rw[Go.Vc.wrap_small (k+1) (by omega) (by omega),Go.Vc.wrap_small (k-1) (by omega) (by omega)];refine ak (fun h3=>?_) (fun h3=>?_)
    ·refine q.bv (k-1) (by omega) (by omega) _ rfl ?_;refine ak (fun x=>⟨by rw[d (G (by omega) x)],rfl⟩) (fun x=>?_);exact⟨k+1,by simp,⟨rfl,by omega,A (by omega) (by omega) (fun _=>by omega)⟩,by omega⟩
    ·exact⟨k+1,by simp,⟨rfl,by omega,A (by omega) (by omega) (fun _=>by omega)⟩,by omega⟩
   ·rw[qi (by omega)]at o;rw[Go.Vc.wrap_small (i+1) (by omega) (by omega)];exact⟨i+1,by simp,⟨rfl,by omega,by rw[ada e c,o]⟩,by omega⟩
  ·rw[qi (by omega)]at c;exact⟨by rw[y,c],rfl⟩
theorem MF{p:aA}(a:Sl)(b:List Bool)(x:Bool)(h:Heap)(i:Seq h p a 1 dY b)(n:b.length<=2^40):
  ac vV uw #[vM a.ptr a.len a.cap,vP x] h fun v h'=>∃r:Int,v=vL vR r/\(0<=r↔x∈b)/\h'=h:=by
 refine tH a x ?_;unfold mD;have l:=i.len;refine av (fun k:Nat=>(k:Int)) (fun k h'=>h'=h/\k<=b.length/\x∉b.take k) (fun k=>b.length-k) 0 rfl ⟨rfl,by omega,by simp⟩ ?_;rintro k h' ⟨rfl,o,g⟩;refine ak (fun m=>?_) (fun j=>?_)
 ·have c:k<b.length:=by omega
  refine i.bv k rfl c _ rfl ?_;refine bA (fun f=>⟨_,rfl,⟨fun _=>?_,fun _=>by omega⟩,rfl⟩) (fun d=>?_)
  ·rw[eq_of_beq f];exact qg c
  ·rw[Go.Vc.wrap_small _ (by omega) (by omega)];refine⟨k+1,by simp,⟨rfl,by omega,?_⟩,by omega⟩;rw[aH _ _ c];simp only[qE,qG,not_or];exact⟨g,fun e=>by rw[e]at d;simp at d⟩
 ·rw[qi (by omega)]at g;exact⟨_,rfl,⟨fun h=>by omega,fun h=>absurd h g⟩,rfl⟩
theorem HC{p:aA}(a:Sl)(b:List Bool)(x:Bool)(h:Heap)(e:Seq h p a 1 dY b)(c:b.length<=2^40):
  ac vV rH #[vM a.ptr a.len a.cap,vP x] h fun v h'=>v=vP (decide (x∈b))/\h'=h:=by
 refine pW a x ?_;unfold kN;refine(MF a b x h e c).mono ?_;rintro v h' ⟨r,rfl,d,rfl⟩;refine⟨r,rfl,?_,rfl⟩;exact congrArg Value.bool (decide_eq_decide.2 d)
theorem VM{α:Type}{f:α->Bool}{l:List α}{k:Nat}(a:k<l.length):(l.take (k+1)).filter f=if f l[k]then(l.take k).filter f++[l[k]]else(l.take k).filter f:=by
 rw[aH _ _ a,zh];by_cases h:f l[k]=true<;>simp[h]
theorem MG{p q:aA}(i:Addr)(o r:Sl)(op:List Bool)(row:List Int)(h:Heap)(u:cellOf h (i.add 1)=some (vM o.ptr o.len o.cap))(w:Seq h p o 1 dY op)(m:Seq h q r 1 aE row)
  (j:∀c∈row,0<=c/\c<op.length) (y:row.length<=2^40):
  ac vV Ae #[vN (some i),vM r.ptr r.len r.cap] h fun v h'=>
   v=.tuple #[vL vR ((cI op row).getLast?.getD 0),vP ((cI op row).length==1)]/\h'=h:=by
 refine xw (some i) r ?_;unfold nP;have s:=m.len;refine av (fun k:Nat=>((cI op (row.take k)).getLast?.getD 0,((cI op (row.take k)).length:Int),(k:Int))) (fun k h'=>h'=h/\k<=row.length) (fun k=>row.length-k) 0 rfl ⟨rfl,by omega⟩ ?_;rintro k h' ⟨rfl,z⟩;dsimp only;refine ak (fun x=>?_) (fun n=>?_)
 ·have d:k<row.length:=by omega
  have A:=j _ (qg d);refine m.bv k rfl d _ rfl ?_;refine⟨i,rfl,o,u,?_⟩;have b:row[k].toNat<op.length:=by omega
  refine w.bv row[k].toNat (by omega) b _ rfl ?_;have a:ju op row[k]=op[row[k].toNat]:=by simp[ju,qe,qd b]
  have g:=VM (f:=ju op) d;have t:(cI op (row.take k)).length<=row.length:=zl (q7 _ _) (by rw[qX];omega);rw[Go.Vc.wrap_small (k+1) (by omega) (by omega),Go.Vc.wrap_small _ (by omega) (by omega)];refine bA (fun l=>?_) (fun l=>?_)
  ·refine⟨k+1,?_,⟨rfl,by omega⟩,by omega⟩;have e:cI op (row.take (k+1))=cI op (row.take k)++[row[k]]:=by rw[cI,g,a,l];rfl
   simp[e]
  ·refine⟨k+1,?_,⟨rfl,by omega⟩,by omega⟩;have e:cI op (row.take (k+1))=cI op (row.take k):=by rw[cI,g,a,l];rfl
   simp[e]
 ·have e:row.take k=row:=qi (by omega);refine⟨?_,rfl⟩;simp only[e];congr 4;congr 1;rw[yQ];simp;omega
structure AS (h:Heap) (p:aA) (a:Addr) (l o u:Sl) (rows:List (List Int)) (rs:List Sl) (op us:List Bool):Prop where
 c0:cellOf h a=some (vM l.ptr l.len l.cap)
 c1:cellOf h (a.add 1)=some (vM o.ptr o.len o.cap)
 c2:cellOf h (a.add 2)=some (vM u.ptr u.len u.cap)
 fh:p a.block
 sRows:gG h p l 1 aE rows rs
 sOp:Seq h p o 1 dY op
 sUs:Seq h p u 1 dY us
 ulen:us.length=rows.length
 cD:∀r∈rows,∀c∈r,0<=c/\c<op.length
 short:∀r∈rows,r.length<=64
theorem AS.ai{h h':Heap}{p:aA}{a:Addr}{l o u:Sl}{rows:List (List Int)}{rs:List Sl}{op us:List Bool}(c:AS h p a l o u rows rs op us)(k:aU p h h'):AS h' p a l o u rows rs op us:=by
 have b:∀n,(a.add n).block=a.block:=fun n=>by unfold Addr.add;split<;>rfl
 exact⟨k.cell c.fh c.c0,k.cell (by rw[b];exact c.fh) c.c1,k.cell (by rw[b];exact c.fh) c.c2,c.fh,c.sRows.ai k,c.sOp.ai k,c.sUs.ai k,c.ulen,c.cD,c.short⟩
theorem QJ{p:aA}(a:Addr)(l o u:Sl)(rows:List (List Int))(rs:List Sl)(op us:List Bool)(h:Heap)(y:AS h p a l o u rows rs op us)(M:rows.length<=2^40):
  ac vV CH #[vN (some a)] h fun v h'=>aU (fun _=>True) h h'/\
   v=match lR rows op us with
    |some i=>.tuple #[vQ #[vL vR i,vL vR (ee rows op i)],vP true]
    |none=>.tuple #[vQ #[vL vR 0,vL vR 0],vP false]:=by
 refine BF (some a) ?_;unfold pI;refine Ai ae rfl fun b K P s c F=>?_;have f:=y.ai (c.mono fun _ _ _=>trivial);refine⟨a,rfl,l,f.c0,?_⟩;have I:=y.sRows.Rj;refine av (fun k:Nat=>(k:Int)) (fun k h'=>h'=K/\k<=rows.length/\∀j,j<k->lQ rows op us j=false) (fun k=>rows.length-k) 0 rfl ⟨rfl,by omega,fun j n=>by omega⟩ ?_;rintro k h' ⟨rfl,O,B⟩;refine ak (fun L=>?_) (fun G=>?_)
 ·have e:k<rows.length:=by omega
  refine f.sRows.get k rfl e fun r H _=>?_;refine⟨a,rfl,u,f.c2,?_⟩;refine f.sUs.bv k rfl (by rw[y.ulen];exact e) _ rfl ?_;have E:us.getD k false=us[k]'(by rw[y.ulen];exact e):=by rw[qe,qd];rfl
  have q:rows.getD k []=rows[k]:=by rw[qe,qd e];rfl
  rw[Go.Vc.wrap_small _ (by omega) (by omega)];refine bA (fun t=>?_) (fun t=>?_)
  ·refine⟨k+1,by simp,⟨rfl,by omega,fun j n=>?_⟩,by omega⟩;rcases zn.1 n with n|rfl
   ·exact B j n
   ·simp only[lQ,E,t];rfl
  ·refine(MG a o r op rows[k] h' f.c1 f.sOp H (y.cD _ (qg e)) (zl (y.short _ (qg e)) (by omega))).mono ?_;rintro v N ⟨rfl,rfl⟩;refine⟨(_,_),rfl,?_⟩;have m:lQ rows op us k=((cI op rows[k]).length==1):=by simp only[lQ,E,t,q];rfl
   refine bA (fun x=>?_) (fun x=>?_)
   ·have g:lQ rows op us k=true:=m.trans x;refine Di ae s rfl _ rfl rfl rfl (ql _) fun h3 d w z=>?_;refine⟨(_,_),d.aQ _ rfl,c.then w (fun J D _=>by omega),?_⟩;have A:ee rows op k=(cI op rows[k]).getLast?.getD 0:=by unfold ee;rw[q]
    rw[lR,ZO e B g];show _=Value.tuple #[vQ #[vL vR k,vL vR (ee rows op k)],vP true];rw[A];rfl
   ·have g:lQ rows op us k=false:=m.trans x;refine⟨k+1,by simp,⟨rfl,by omega,fun j n=>?_⟩,by omega⟩;rcases zn.1 n with n|rfl
    ·exact B j n
    ·exact g
 ·refine Di ae s rfl _ rfl rfl rfl (ql _) fun h3 d w z=>?_;refine⟨(_,_),d.aQ _ rfl,c.then w (fun J D _=>by omega),?_⟩;rw[lR,ZN (fun j n=>B j (by omega))]
theorem Kj{l:List Bool}{i:Nat}(h:i<l.length):l.getD i false=l[i]:=by rw[qe,qd h];rfl
theorem WF(op:List Bool)(a:List Int):∀k,-1<=ib op a k/\ib op a k<k
 |0=>by simp[ib]
 |k+1=>by
  have:=WF op a k;unfold ib;split<;>omega
theorem QK{p:aA}(a:Addr)(l o u:Sl)(rows:List (List Int))(rs:List Sl)(op us:List Bool)(h:Heap)(y:AS h p a l o u rows rs op us)(hs:rows.length<=2^30)(a1:op.length<=2^30):
  ac vV CI #[vN (some a)] h fun v h'=>aU (fun _=>True) h h'/\v=vL vR (go rows op us):=by
 refine BG (some a) ?_;unfold pJ;refine⟨a,rfl,o,y.c1,?_⟩;have a4:=y.sOp.len;refine Go.Vc.run_make (f:=aE) ae ⟨_,_,rfl,rfl,rfl,rfl,rfl,rfl⟩ (by decide) 0 rfl rfl op.length op.length (by omega) (by omega) (ql _) (by omega) fun s h1 J U a5 n a0=>?_;have ad:=y.ai (n.mono fun _ _ _=>trivial);refine⟨a,rfl,l,ad.c0,?_⟩;have a6:=y.sRows.Rj;have B:∀b,s.on b->b=h.size:=by rintro b ⟨o',I⟩;rw[U]at I;cases I;rfl
 have W:∀k,((fun _ r=>r:Nat->List Int->List Int) k (rows.getD k [])).length<=64:=fun k=>by
  show(rows.getD k []).length<=64;by_cases S:k<rows.length
  ·rw[qe,qd S];exact y.short _ (qg S)
  ·rw[qe,ze (by omega)];simp
 let d:=ku (fun _ r=>r) rows us (qh op.length 0);have P:∀k,(d k).length=op.length:=fun k=>by rw[Dw];simp
 have ah:∀k,∀x∈d k,0<=x/\x<=64*k:=fun k x hx=>RU (fun _ r=>r) W k x hx;refine av (fun k:Nat=>(k:Int)) (fun k h'=>aU (fun b=>b<h.size) h h'/\k<=rows.length/\Own h' aS s 1 aE (d k)) (fun k=>rows.length-k) 0 rfl ⟨n.mono fun _ _ _=>trivial,by omega,J⟩ ?_;rintro i h2 ⟨D,hi,q⟩;have t:AS h2 p a l o u rows rs op us:=y.ai (D.mono fun b e _=>e);refine ak (fun L=>?_) (fun G=>?_)
 ·have g:i<rows.length:=by omega
  have M:rows.getD i []=rows[i]:=by rw[qe,qd g];rfl
  have hu:us.getD i false=us[i]'(by rw[y.ulen];exact g):=Kj _;refine t.sRows.get i rfl g fun r hr ab=>?_;have a7:=hr.len;have Q:=y.short _ (qg g);refine av (fun k:Nat=>(k:Int)) (fun k h'=>aU (fun b=>b<h.size) h h'/\k<=rows[i].length/\Own h' aS s 1 aE (if us.getD i false then d i else jJ (d i) (rows[i].take k))) (fun k=>rows[i].length-k) 0 rfl
   ⟨D,by omega,by simpa[jJ]using q⟩ ?_
  rintro j h3 ⟨z,hj,c⟩;have w:AS h3 p a l o u rows rs op us:=y.ai (z.mono fun b e _=>e);refine ak (fun L=>?_) (fun G=>?_)
  ·have F:j<rows[i].length:=by omega
   have V:=w.sRows.row i r _ ab (qd g);have hc:=y.cD _ (qg g) _ (qg F);refine V.bv j rfl F _ rfl ?_;refine⟨a,rfl,u,w.c2,?_⟩;refine w.sUs.bv i rfl (by rw[y.ulen];exact g) _ rfl ?_;rw[Go.Vc.wrap_small (j+1) (by omega) (by omega)];refine bg (fun e=>?_) (fun e=>?_)
   ·rw[hu,e]at c;simp only[zd,if_false]at c;have N:(jJ (d i) (rows[i].take j)).length=op.length:=by rw[Ep,P]
    have m:rows[i][j].toNat<(jJ (d i) (rows[i].take j)).length:=by rw[N];omega
    have a8:=Gg (r:=rows[i].take j) (ah i) _ (qg m);have a3:(rows[i].take j).length<=64:=by rw[qX];omega
    have ap:Seq h3 (fun _=>True) s 1 aE (jJ (d i) (rows[i].take j)):=c.seq (fun _=>rfl) (fun _ _=>trivial);refine ap.bv rows[i][j].toNat (by omega) m _ rfl ?_;rw[Go.Vc.wrap_small _ (by omega) (by omega)];refine c.set ae (fun _=>rfl) rfl rows[i][j].toNat (by omega) m _ rfl rfl rfl fun h4 E R ay=>?_;refine⟨j+1,by simp,⟨z.then R (fun b e _=>fun Y=>by have:=B b Y;omega),by omega,?_⟩,by omega⟩;rw[hu,e];simp only[zd,if_false];rw[aH _ _ F,Ux,getD_lt m];exact E
   ·refine⟨j+1,by simp,⟨z,by omega,?_⟩,by omega⟩;rw[hu,e]at c⊢;exact c
  ·rw[Go.Vc.wrap_small (i+1) (by omega) (by omega)];rw[qi (by omega)]at c;refine⟨i+1,by simp,⟨z,by omega,?_⟩,by omega⟩;have:d (i+1)=if us.getD i false then d i else jJ (d i) rows[i]:=by
    show ku _ _ _ _ (i+1)=_;rw[ku];simp only[M];rfl
   rw[this];exact c
 ·have Z:i=rows.length:=by omega
  subst Z;refine⟨a,rfl,o,t.c1,?_⟩;have O:Seq h2 (fun _=>True) s 1 aE (d rows.length):=q.seq (fun _=>rfl) (fun _ _=>trivial);have ax:=P rows.length;refine av (fun k:Nat=>(ib op (d rows.length) k,(k:Int))) (fun k h'=>h'=h2/\k<=op.length) (fun k=>op.length-k) 0 rfl ⟨rfl,by omega⟩ ?_;rintro k h3 ⟨rfl,S⟩;dsimp only;have a2:=WF op (d rows.length) k;refine ak (fun L=>?_) (fun G=>?_)
  ·have K:k<op.length:=by omega
   refine t.sOp.bv k rfl K _ rfl ?_;rw[Go.Vc.wrap_small (k+1) (by omega) (by omega)];have A:op.getD k false=op[k]:=Kj K;refine bA (fun e=>?_) (fun e=>?_)
   ·refine ak (fun H=>?_) (fun T=>?_)
    ·refine⟨k+1,?_,⟨rfl,by omega⟩,by omega⟩;rw[ib,if_pos (by rw[A,e,decide_eq_true H];rfl)];rfl
    ·refine O.bv k rfl (by omega) _ rfl ?_;refine O.bv (ib op (d rows.length) k).toNat (by omega) (by omega) _ rfl ?_;have e1:(d rows.length).getD k 0=(d rows.length)[k]:=getD_lt (by omega);have e2:(d rows.length).getD (ib op (d rows.length) k).toNat 0=(d rows.length)[(ib op (d rows.length) k).toNat]:=getD_lt (by omega);refine ak (fun X=>?_) (fun ao=>?_)
     ·refine⟨k+1,?_,⟨rfl,by omega⟩,by omega⟩;rw[ib,if_pos (by rw[A,e,e1,e2,decide_eq_true X];simp)];rfl
     ·refine⟨k+1,?_,⟨rfl,by omega⟩,by omega⟩;rw[ib,if_neg (by rw[A,e,e1,e2,decide_eq_false ao,decide_eq_false T];simp)];rfl
   ·refine⟨k+1,?_,⟨rfl,by omega⟩,by omega⟩;rw[ib,if_neg (by rw[A,e];simp)];rfl
  ·have am:k=op.length:=by omega
   subst am;exact⟨D.mono fun b e _=>e,rfl⟩
def fd(p:Int×Int):List Value:=[vL vR p.1,vL vR p.2]
theorem adb:∀x,∀c∈fd x,c.oneCell'=true:=by
 intro x c a;simp only[fd,zc,List.not_mem_nil,or_false]at a;rcases a with rfl|rfl<;>rfl
def Ef(n:Int)(rows:List (List Int)):List (Int×Int)×List Int×List Int:=
 if jd n rows then((dh n.toNat rows).steps,(dh n.toNat rows).dead,eZ (dh n.toNat rows).used rows.length)else([],[],[])
def afY(a h:Heap)(v:Value)(ok:Bool)(e:List (Int×Int))(b c:List Int):Prop:=
 ∃s d f:Sl,v=.tuple #[vQ #[vM s.ptr s.len s.cap,vM d.ptr d.len d.cap,vM f.ptr f.len f.cap],vP ok]/\
  Sp a h [an cM s 2 fd e,an aS d 1 aE b,an aS f 1 aE c]
theorem aeM{α β γ:Type}{g h:Heap}{c:Nat->Nat}{s w r l o q:Nat}{v:α->List Value}{u:β->List Value}{t:γ->List Value}{m j k:Sl}{l1:List α}{l2:List β}{n:List γ}(p:md g h c)(e:dl h c 6 s m l v l1)(f:dl h c 7 w j o u l2)(a3:dl h c 8 r k q t n):
  Sp g h [an s m l v l1,an w j o u l2,an r k q t n]:=by
 refine⟨fun _ h=>h,p.ai,fun b=>c b-5,fun b a=>?_,fun i A d=>?_⟩
 ·have:=p.bp b a;dsimp only;omega
 ·match i,d with
  |0,d=>simp at d;subst d;exact⟨e.own,fun b a=>⟨e.own.lt a,by have:=e.bp b a;dsimp only;omega⟩⟩
  |1,d=>simp at d;subst d;exact⟨f.own,fun b a=>⟨f.own.lt a,by have:=f.bp b a;dsimp only;omega⟩⟩
  |2,d=>simp at d;subst d;exact⟨a3.own,fun b a=>⟨a3.own.lt a,by have:=a3.bp b a;dsimp only;omega⟩⟩
  |i+3,d=>simp at d
theorem aeN{n:Int}{rows:List (List Int)}(h:jd n rows=true):0<=n/\n<=64/\∀r∈rows,fc n r=true:=by
 simp only[jd,qy,decide_eq_true_eq,qM]at h;exact⟨h.1.1,h.1.2,h.2⟩
theorem Kk{n:Int}{r:List Int}(h:fc n r=true):∀c∈r,0<=c/\c<n:=by
 simp only[fc,qy,qM,decide_eq_true_eq]at h;exact h.1
theorem PD:∀{r:List Int} {a n:Int},fb r=true->(∀c∈r,a<=c/\c<n)->(r.length:Int)<=max 0 (n-a)
 |[],a,n,_,_=>by simp;omega
 |[x],a,n,_,h=>by have:=h x (by simp);simp;omega
 |x::y::t,a,n,hr,h=>by
  simp only[fb,qy,decide_eq_true_eq]at hr;have f:=h x (by simp);have g:=h y (by simp);have d:∀(l:List Int) (z:Int),fb (z::l)=true->∀c∈l,z<c:=by
   intro l
   induction l with
   |nil=>intro z _ c b;simp at b
   |cons w t ih=>
    intro z e c b;simp only[fb,qy,decide_eq_true_eq]at e;rcases zc.1 b with rfl|b
    ·exact e.1
    ·have:=ih w e.2 c b;omega
  have:=PD (r:=y::t) (a:=x+1) (n:=n) hr.2 fun c b=>⟨by
   rcases zc.1 b with rfl|b
   ·omega
   ·have:=d t y hr.2 c b;omega,(h c (by simp only[zc]at b⊢;exact .inr b)).2⟩
  simp only[zi]at this⊢;omega
theorem abe{n:Int}{r:List Int}(h:fc n r=true)(c:n<=64):r.length<=64:=by
 have b:=Kk h;simp only[fc,qy]at h;have:=PD (a:=0) h.2 b;omega
theorem adc(n k:Nat)(h:k<n):(qh k true++qh (n-k) false).set k true=qh (k+1) true++qh (n-(k+1)) false:=by
 have e:n-k=(n-(k+1))+1:=by omega
 rw[za _ _ (by simp),e,yG];simp only[yx,zf,zw];rw[List.replicate_succ' (n:=k)];simp
theorem TP{h f:Heap}{c:Nat->Nat}{a:Addr}{l o u:Sl}{rows:List (List Int)}{rs:List Sl}{op us:List Bool}(m:gG f (fun b=>b<f.size) l 1 aE rows rs)(k:md f h c)(e:jT h c 2 a lT [vM l.ptr l.len l.cap,vM o.ptr o.len o.cap,vM u.ptr u.len u.cap])
  (q:dl h c 3 gq o 1 dY op) (p:dl h c 4 gq u 1 dY us) (i:us.length=rows.length) (n:op.length<=64) (j:∀r∈rows,fc op.length r=true):AS h (fun b=>b<h.size) a l o u rows rs op us:=
 ⟨e.box.cell0 rfl,e.box.cell rfl,e.box.cell rfl,e.box.lt,(m.ai k.ai).mono fun b g=>qV g k.ai.1,q.WY fun _=>rfl,p.WY fun _=>rfl,i,fun r d=>Kk (j r d),fun r d=>abe (j r d) (by omega)⟩
theorem abf(n:Int)(l:Sl)(rows:List (List Int))(rs:List Sl)(h:Heap)(hl:gG h (fun b=>b<h.size) l 1 aE rows rs)(hs:rows.length<=2^30)(ed:∀r∈rows,r.length<=2^40):
  ac vV Qu #[vL vR n,vM l.ptr l.len l.cap] h fun v h'=>afY h h' v (jd n rows) (Ef n rows).1 (Ef n rows).2.1 (Ef n rows).2.2:=by
 refine NW n l ?_;unfold GS;have e0:=hl.Rj;refine uf ae (md.refl h) 1 rfl fun a1 h1 b6 d8=>?_;have E:=(md.refl h).keep (m:=1) d8 (by decide);refine(Ou n l rows rs h1 (hl.ai E.ai) (by omega) ed).mono ?_;rintro v h2 ⟨rfl,rfl⟩;refine⟨_,rfl,?_⟩;refine bg (fun hr=>?_) (fun hr=>?_)
 ·refine b6.jD ae rfl _ rfl rfl rfl (ql _) fun h3 ay D=>?_;refine⟨(⟨none,0,0⟩,⟨none,0,0⟩,⟨none,0,0⟩),ay.box.aQ _ rfl,?_⟩;refine⟨⟨none,0,0⟩,⟨none,0,0⟩,⟨none,0,0⟩,by rw[hr],?_⟩;simp only[Ef,hr,zd,if_false];exact(((Sp.zip (E.keep (m:=1) D (by decide)).ai).nil cM 2 fd).nil aS 1 aE).nil aS 1 aE
 ·obtain⟨eq,e1,ch⟩:=aeN hr;obtain⟨N,rfl⟩:∃N:Nat,n=N:=⟨n.toNat,by omega⟩
  have hN:N<=64:=by omega
  refine cl (fun s h'=>∃c a o u,s=some a/\md h h' c/\jT h' c 1 a1 mO [vM none 0 0,vM none 0 0,vM none 0 0]/\jT h' c 2 a lT [vM l.ptr l.len l.cap,vM o.ptr o.len o.cap,vM u.ptr u.len u.cap]/\
   dl h' c 3 gq o 1 dY (qh N false)/\dl h' c 4 gq u 1 dY (qh rows.length false)) ⟨?_,?_⟩ ?_
  ·refine Aj ae E 3 dY ⟨_,_,rfl,rfl,rfl,rfl,rfl,rfl⟩ (by decide) false rfl rfl N rfl rfl (by omega) fun o h3 ho D=>?_;refine⟨trivial,?_⟩;refine Aj ae (E.keep (m:=3) D (by decide)) 4 dY ⟨_,_,rfl,rfl,rfl,rfl,rfl,rfl⟩ (by decide) false rfl rfl rows.length (by omega) (by omega) (by omega) fun u h4 hu G=>?_;refine⟨trivial,?_⟩;refine Rm _ ((E.keep (m:=3) D (by decide)).keep (m:=4) G (by decide)) 2 fun a h5 ha A=>?_;exact⟨trivial,_,a,o,u,rfl,((E.keep D (by decide)).keep G (by decide)).keep A (by decide),((b6.keep D (by decide)).keep G (by decide)).keep A (by decide),ha,(ho.keep G (by decide)).keep A (by decide),hu.keep A (by decide)⟩
  ·refine Aj ae E 4 dY ⟨_,_,rfl,rfl,rfl,rfl,rfl,rfl⟩ (by decide) false rfl rfl rows.length (by omega) (by omega) (by omega) fun u h3 hu D=>?_;refine⟨trivial,?_⟩;refine Aj ae (E.keep (m:=4) D (by decide)) 3 dY ⟨_,_,rfl,rfl,rfl,rfl,rfl,rfl⟩ (by decide) false rfl rfl N rfl rfl (by omega) fun o h4 ho G=>?_;refine⟨trivial,?_⟩;refine Rm _ ((E.keep (m:=4) D (by decide)).keep (m:=3) G (by decide)) 2 fun a h5 ha A=>?_;exact⟨trivial,_,a,o,u,rfl,((E.keep D (by decide)).keep G (by decide)).keep A (by decide),((b6.keep D (by decide)).keep G (by decide)).keep A (by decide),ha,ho.keep A (by decide),(hu.keep G (by decide)).keep A (by decide)⟩
  ·rintro s h3 ⟨c,a,o,u,rfl,c1,bb,ay,ah,c4⟩;refine⟨a,rfl,o,ay.box.cell rfl,?_⟩;have et:o.len=N:=by rw[ah.own.len];simp
   refine av (fun t:Nat×(Nat->Nat)=>(t.1:Int)) (fun t h'=>t.1<=N/\md h h' t.2/\jT h' t.2 1 a1 mO [vM none 0 0,vM none 0 0,vM none 0 0]/\jT h' t.2 2 a lT [vM l.ptr l.len l.cap,vM o.ptr o.len o.cap,vM u.ptr u.len u.cap]/\
    dl h' t.2 3 gq o 1 dY (qh t.1 true++qh (N-t.1) false)/\dl h' t.2 4 gq u 1 dY (qh rows.length false)) (fun t=>N-t.1) (0,c) rfl ⟨by simp,c1,bb,ay,by simpa using ah,c4⟩ ?_
   rintro⟨k,c⟩ h4 ⟨hk,bk,cd,br,bd,b4⟩;dsimp only at*;refine ak (fun d7=>?_) (fun da=>?_)
   ·have d6:k<N:=by omega
    refine⟨a,rfl,o,br.box.cell rfl,?_⟩;refine bd.set ae (fun _=>rfl) rfl k rfl (by simp;omega) true rfl rfl rfl fun h5 bq A=>?_;rw[Go.Vc.wrap_small _ (by omega) (by omega)];rw[adc _ _ d6]at bq;exact⟨(k+1,_),by simp,⟨by simp;omega,bk.keep A (by decide),cd.keep A (by decide),br.keep A (by decide),bq,b4.keep A (by decide)⟩,by simp;omega⟩
   ·have dk:k=N:=by omega
    subst dk;simp only[zf,List.replicate_zero,qP]at bd;refine uf ae bk 5 rfl fun ap h5 d4 A=>?_;have ea:=bk.keep (m:=5) A (by decide);have ei:=cd.keep (m:=5) A (by decide);have ek:=br.keep (m:=5) A (by decide);have bq:=bd.keep (m:=5) A (by decide);have dx:=b4.keep (m:=5) A (by decide);clear bk cd br bd b4 c1 bb ay ah c4;generalize grow c h4.size 5=c5 at*;refine av (τ:=Nat×List Bool×List Bool×(List (Int×Int))×List Int×(Nat->Nat)×Sl×Sl) (fun _=>())
     (fun⟨f,op,us,st,dd,c,V,ds⟩ h'=>op.length=k/\us.length=rows.length/\op.count true<=f/\f<=k/\st.length<=k-f/\dd.length<=k-f/\
      (∃r,ck rows f op us=r/\dh k rows=⟨st++r.steps,dd++r.dead,r.used⟩)/\md h h' c/\
      jT h' c 1 a1 mO [vM none 0 0,vM none 0 0,vM none 0 0]/\jT h' c 2 a lT [vM l.ptr l.len l.cap,vM o.ptr o.len o.cap,vM u.ptr u.len u.cap]/\
      dl h' c 3 gq o 1 dY op/\dl h' c 4 gq u 1 dY us/\
      jT h' c 5 ap mO [vM V.ptr V.len V.cap,vM ds.ptr ds.len ds.cap,vM none 0 0]/\dl h' c 6 cM V 2 fd st/\dl h' c 7 aS ds 1 aE dd)
     (fun t=>t.1) (k,qh k true,qh rows.length false,[],[],c5,⟨none,0,0⟩,⟨none,0,0⟩) rfl
     ⟨by simp,by simp,by simp,by simp,by simp,by simp,⟨_,rfl,by simp[dh]⟩,ea,ei,ek,bq,dx,d4,dl.nil _ _ _ _ _ _,dl.nil _ _ _ _ _ _⟩ ?_
    rintro⟨f,op,us,st,dd,c,V,ds⟩ h6 ⟨a5,I,ep,e3,eo,el,⟨r,a6,b0⟩,M,a4,O,ad,P,K,J,L⟩;dsimp only at*;have H:∀r∈rows,fc op.length r=true:=by rw[a5];exact ch
    have a8:=TP hl M O ad P I (by omega) H;refine⟨a,rfl,o,O.box.cell rfl,?_⟩;refine(HC o op true h6 (ad.WY fun _=>rfl) (by omega)).mono ?_;rintro v h7 ⟨rfl,rfl⟩;refine⟨_,rfl,?_⟩;refine bg (fun hc=>?_) (fun hc=>?_)
    ·have ab:op.contains true=false:=by simpa using hc
     have bb:r=⟨[],[],us⟩:=by rw[<-a6];exact Au ab f
     subst bb;simp only[qP]at b0;refine⟨a,rfl,u,O.box.cell rfl,?_⟩;have er:u.len=rows.length:=by rw[P.own.len,I]
     refine av (fun t:Nat×(Nat->Nat)×Sl=>(t.1:Int)) (fun⟨j,c,fs⟩ h'=>j<=rows.length/\md h h' c/\
      jT h' c 1 a1 mO [vM none 0 0,vM none 0 0,vM none 0 0]/\dl h' c 4 gq u 1 dY us/\
      jT h' c 5 ap mO [vM V.ptr V.len V.cap,vM ds.ptr ds.len ds.cap,vM fs.ptr fs.len fs.cap]/\dl h' c 6 cM V 2 fd st/\dl h' c 7 aS ds 1 aE dd/\dl h' c 8 aS fs 1 aE (eZ us j)) (fun t=>rows.length-t.1) (0,c,⟨none,0,0⟩) rfl
      ⟨by simp,M,a4,P,K,J,L,dl.nil _ _ _ _ _ _⟩ ?_
     rintro⟨j,c,fs⟩ h8 ⟨hj,bl,cc,cf,X,am,ao,a9⟩;dsimp only at*;refine ak (fun d7=>?_) (fun da=>?_)
     ·have ew:j<rows.length:=by omega
      have es:(eZ us j).length<=j:=Ij us j;refine(cf.WY fun _=>rfl).bv j rfl (by omega) _ rfl ?_;have c8:us.getD j false=us[j]:=Kj (by omega);rw[Go.Vc.wrap_small _ (by omega) (by omega)];refine bg (fun hb=>?_) (fun hb=>?_)
      ·refine⟨fs,X.box.cell rfl,?_⟩;refine Jq ae bl 9 aE ⟨_,_,rfl,rfl,rfl,rfl,rfl,rfl⟩ rfl [(j:Int)] rfl (zC rfl) rfl fun v h9 dr p=>?_;refine(a9.keep (m:=9) p (by decide)).append ae ⟨_,_,rfl,rfl,rfl,rfl,rfl,rfl⟩ ⟨_,_,rfl,rfl⟩ rfl (by decide) (fun _=>rfl) (dr.seq fun _=>rfl) ja (by simp;omega) fun ec cn b5 g=>?_;refine((X.keep (m:=9) p (by decide)).keep (m:=8) g (by decide)).store ae rfl 2 _ rfl rfl rfl (zC rfl) fun cp b2 d=>?_;refine⟨(j+1,_,ec),by simp,⟨by simp;omega,((bl.keep p (by decide)).keep g (by decide)).keep d (by decide),((cc.keep p (by decide)).keep g (by decide)).keep d (by decide),((cf.keep p (by decide)).keep g (by decide)).keep d (by decide),b2,
        ((am.keep p (by decide)).keep g (by decide)).keep d (by decide),((ao.keep p (by decide)).keep g (by decide)).keep d (by decide),?_⟩,by simp;omega⟩
       have e:eZ us (j+1)=eZ us j++[(j:Int)]:=by rw[eZ,c8,hb];rfl
       rw[e];exact b5.keep d (by decide)
      ·have e:eZ us (j+1)=eZ us j:=by rw[eZ,c8,hb];rfl
       exact⟨(j+1,c,fs),by simp,⟨by simp;omega,bl,cc,cf,X,am,ao,by rw[e];exact a9⟩,by simp;omega⟩
     ·have d0:j=rows.length:=by omega
      subst d0;refine⟨(V,ds,fs),X.box.aQ _ rfl,?_⟩;refine cc.jD ae rfl _ rfl rfl rfl (ql _) fun h9 ej p=>?_;refine⟨(V,ds,fs),ej.box.aQ _ rfl,?_⟩;refine⟨V,ds,fs,by rw[hr],?_⟩;simp only[Ef,hr,if_true,qp,b0];exact aeM (bl.keep (m:=1) p (by decide)) (am.keep (m:=1) p (by decide)) (ao.keep (m:=1) p (by decide)) (a9.keep (m:=1) p (by decide))
    ·have ab:op.contains true=true:=by simpa using hc
     obtain⟨f',rfl⟩:∃f',f=f'+1:=by
      obtain⟨j,hj,e⟩:=Gh ab;have:=jX e;exact⟨f-1,by omega⟩
     refine ba ?_;refine(QJ a l o u rows rs op us h7 a8 (by omega)).mono ?_;rintro v h8 ⟨z,rfl⟩;have z:=z.bp c 9;cases hst:lR rows op us with
     |some i=>
      obtain⟨hi,d2⟩:=ul hst;obtain⟨e2,d9,ah⟩:=Dx d2;have c7:rows.getD i []=rows[i]:=by rw[qe,qd hi];rfl
      have en:=Kk (H _ (qg hi)) _ (c7▸d9);refine⟨((i,ee rows op i),true),rfl,?_⟩;dsimp only;refine uf ae (M.keep (m:=9) z (by decide)) 9 rfl fun ax h9 has p=>?_;refine has.jD ae rfl _ rfl rfl rfl (ql _) fun cn R g=>?_;refine MV rfl ?_;have F:=((M.keep (m:=9) z (by decide)).keep (m:=9) p (by decide)).keep (m:=9) g (by decide);have a7:=((a4.keep (m:=9) z (by decide)).keep (m:=9) p (by decide)).keep (m:=9) g (by decide);have U:=((O.keep (m:=9) z (by decide)).keep (m:=9) p (by decide)).keep (m:=9) g (by decide);have W:=((ad.keep (m:=9) z (by decide)).keep (m:=9) p (by decide)).keep (m:=9) g (by decide);have Y:=((P.keep (m:=9) z (by decide)).keep (m:=9) p (by decide)).keep (m:=9) g (by decide);have B:=((K.keep (m:=9) z (by decide)).keep (m:=9) p (by decide)).keep (m:=9) g (by decide);have Q:=((J.keep (m:=9) z (by decide)).keep (m:=9) p (by decide)).keep (m:=9) g (by decide);have T:=((L.keep (m:=9) z (by decide)).keep (m:=9) p (by decide)).keep (m:=9) g (by decide);clear M a4 O ad P K J L z p has a8;generalize grow (grow (grow c h7.size 9) h8.size 9) h9.size 9=c10 at*;refine⟨V,B.box.cell0 rfl,(_,_),R.box.aQ _ rfl,?_⟩;dsimp only;refine Jq ae F 10 fd ⟨_,_,rfl,rfl,rfl,rfl,rfl,rfl⟩ rfl [((i:Int),ee rows op i)] rfl (zC rfl) rfl fun v cp c6 d=>?_;refine(Q.keep (m:=10) d (by decide)).append ae ⟨_,_,rfl,rfl,rfl,rfl,rfl,rfl⟩ ⟨_,_,rfl,rfl⟩ rfl (by decide) (fun _=>rfl) (c6.seq fun _=>rfl) adb (by simp;omega) fun dy eh b3 q=>?_;refine((B.keep (m:=10) d (by decide)).keep (m:=6) q (by decide)).jD ae rfl _ rfl rfl rfl (zC rfl) fun ef b7 x=>?_;have S:=((R.keep (m:=10) d (by decide)).keep (m:=6) q (by decide)).keep (m:=5) x (by decide);have a2:=((U.keep (m:=10) d (by decide)).keep (m:=6) q (by decide)).keep (m:=5) x (by decide);have cq:=((Y.keep (m:=10) d (by decide)).keep (m:=6) q (by decide)).keep (m:=5) x (by decide);have c2:=((W.keep (m:=10) d (by decide)).keep (m:=6) q (by decide)).keep (m:=5) x (by decide);refine⟨a,rfl,u,a2.box.cell rfl,(i:Int),S.box.cell0 rfl,a,rfl,o,a2.box.cell rfl,ee rows op i,S.box.cell rfl,?_⟩;refine cq.set ae (fun _=>rfl) rfl i rfl (by omega) true rfl rfl rfl fun d5 cr w=>?_;have a3:=S.keep (m:=4) w (by decide);have Z:=a2.keep (m:=4) w (by decide);refine⟨⟨a3.box.cell rfl,trivial⟩,?_⟩;refine(c2.keep (m:=4) w (by decide)).set ae (fun _=>rfl) rfl (ee rows op i).toNat (by omega) (by omega) false rfl rfl rfl fun d1 a0 y=>?_;have eb:=a3.keep (m:=3) y (by decide);have c0:=Z.keep (m:=3) y (by decide);refine⟨trivial,?_⟩;have eg:=jX (op:=op) (j:=(ee rows op i).toNat) ah;rw[ov ab hst]at a6;refine⟨(f',op.set (ee rows op i).toNat false,us.set i true,st++[((i:Int),ee rows op i)],dd,_,dy,ds),rfl,⟨by simp[a5],by simp[I],by dsimp only;omega,by dsimp only;omega,by simp;omega,by dsimp only;omega,⟨_,rfl,?_⟩,
       ((((F.keep d (by decide)).keep q (by decide)).keep x (by decide)).keep w (by decide)).keep y (by decide),
       ((((a7.keep d (by decide)).keep q (by decide)).keep x (by decide)).keep w (by decide)).keep y (by decide),
       c0,a0,cr.keep y (by decide),(b7.keep w (by decide)).keep y (by decide),((b3.keep x (by decide)).keep w (by decide)).keep y (by decide),
       ((((T.keep d (by decide)).keep q (by decide)).keep x (by decide)).keep w (by decide)).keep y (by decide)⟩,by dsimp only;omega⟩
      rw[b0,<-a6];simp
     |none=>
      have d3:=sA (rows:=rows) (us:=us) ab;refine⟨((0,0),false),rfl,?_⟩;dsimp only;refine uf ae (M.keep (m:=9) z (by decide)) 9 rfl fun ax h9 has p=>?_;refine has.jD ae rfl _ rfl rfl rfl (ql _) fun cn R g=>?_;refine Dg rfl ?_;have F:=((M.keep (m:=9) z (by decide)).keep (m:=9) p (by decide)).keep (m:=9) g (by decide);have a7:=((a4.keep (m:=9) z (by decide)).keep (m:=9) p (by decide)).keep (m:=9) g (by decide);have U:=((O.keep (m:=9) z (by decide)).keep (m:=9) p (by decide)).keep (m:=9) g (by decide);have W:=((ad.keep (m:=9) z (by decide)).keep (m:=9) p (by decide)).keep (m:=9) g (by decide);have Y:=((P.keep (m:=9) z (by decide)).keep (m:=9) p (by decide)).keep (m:=9) g (by decide);have B:=((K.keep (m:=9) z (by decide)).keep (m:=9) p (by decide)).keep (m:=9) g (by decide);have Q:=((J.keep (m:=9) z (by decide)).keep (m:=9) p (by decide)).keep (m:=9) g (by decide);have T:=((L.keep (m:=9) z (by decide)).keep (m:=9) p (by decide)).keep (m:=9) g (by decide);clear M a4 O ad P K J L z p has a8;generalize grow (grow (grow c h7.size 9) h8.size 9) h9.size 9=c10 at*;have a8:=TP hl F U W Y I (by omega) H;refine(QK a l o u rows rs op us cn a8 (by omega) (by omega)).mono ?_;rintro v cp ⟨d,rfl⟩;have d:=d.bp c10 9;refine⟨_,rfl,?_⟩;refine⟨ds,(B.keep (m:=9) d (by decide)).box.cell rfl,?_⟩;refine Jq ae (F.keep (m:=9) d (by decide)) 10 aE ⟨_,_,rfl,rfl,rfl,rfl,rfl,rfl⟩ rfl [go rows op us] rfl (zC rfl) rfl fun v eh cs q=>?_;refine((T.keep (m:=9) d (by decide)).keep (m:=10) q (by decide)).append ae ⟨_,_,rfl,rfl,rfl,rfl,rfl,rfl⟩ ⟨_,_,rfl,rfl⟩ rfl (by decide) (fun _=>rfl) (cs.seq fun _=>rfl) ja (by simp;omega) fun du ef b1 x=>?_;refine(((B.keep (m:=9) d (by decide)).keep (m:=10) q (by decide)).keep (m:=7) x (by decide)).store ae rfl 1 _ rfl rfl rfl (zC rfl) fun d5 b9 w=>?_;have Z:=(((U.keep (m:=9) d (by decide)).keep (m:=10) q (by decide)).keep (m:=7) x (by decide)).keep (m:=5) w (by decide);have c9:=(((W.keep (m:=9) d (by decide)).keep (m:=10) q (by decide)).keep (m:=7) x (by decide)).keep (m:=5) w (by decide);refine⟨a,rfl,o,Z.box.cell rfl,?_⟩;refine c9.set ae (fun _=>rfl) rfl (go rows op us).toNat (by omega) (by omega) false rfl rfl rfl fun d1 a0 y=>?_;have eg:=jX (op:=op) (j:=(go rows op us).toNat) d3.2.2;rw[ow ab hst]at a6;refine⟨(f',op.set (go rows op us).toNat false,us,st,dd++[go rows op us],_,V,du),rfl,⟨by simp[a5],I,by dsimp only;omega,by dsimp only;omega,by dsimp only;omega,by simp;omega,⟨_,rfl,?_⟩,
       ((((F.keep d (by decide)).keep q (by decide)).keep x (by decide)).keep w (by decide)).keep y (by decide),
       ((((a7.keep d (by decide)).keep q (by decide)).keep x (by decide)).keep w (by decide)).keep y (by decide),
       Z.keep y (by decide),a0,((((Y.keep d (by decide)).keep q (by decide)).keep x (by decide)).keep w (by decide)).keep y (by decide),b9.keep y (by decide),
       ((((Q.keep d (by decide)).keep q (by decide)).keep x (by decide)).keep w (by decide)).keep y (by decide),
       (b1.keep w (by decide)).keep y (by decide)⟩,by dsimp only;omega⟩
      rw[b0,<-a6];simp
theorem MH(pool:List (Sl×Row))(d:(⟨none,0,0⟩,[])∈pool)(n:Nat):gC pool id (qh n ⟨none,0,0⟩) (qh n []):=
 ⟨by simp,fun i r l a b=>by
  rw[zX]at a b;split at a
  ·rename_i c;rw[if_pos c]at b;cases a;cases b;exact d
  ·cases a⟩
theorem aa.aeO{B:aA}{b h:Heap}{As:List HP}(H:aa B b h As)(i:Nat){pool:List (Sl×Row)}(d:As[i]?=some (km pool)):aa B b h (As.set i (km ((⟨none,0,0⟩,[])::pool))):=
 H.gf i d fun q c x a=>by
  rcases zc.1 a with rfl|a
  ·exact Seq.nil _ _ _ _ _ _
  ·exact c x a
structure YC (h:Heap) (f:Addr) (r st dd lf:Sl) (rr:List (Sl×Sl)) (R:List eF) (ST:List (Int×Int)) (D L:List Int):Prop where
 field:gA h f
 rest:nE iR 2 qv h r rr R
 steps:Rd h st 2 fd ST
 dead:Rd h dd 1 aE D
 left:Rd h lf 1 aE L
abbrev SA(s:Addr)(a:List Value):HP:=au s AA a
abbrev HA(s:Sl)(rs:List Sl):HP:=an aF s 1 bI rs
abbrev RA(s:Sl)(l:Row):HP:=an aD s 1 aC l
theorem PE{R:List (List Int)}:∀{l1 l2:List (Int×Int)} {D:Int->Prop},sC R D (l1++l2)->sC R D l1/\sC R (fun x=>D x∨∃i,(i,x)∈l1) l2
 |[],l2,D,h=>⟨trivial,by
  have:(fun x=>D x∨∃i,(i,x)∈([]:List (Int×Int)))=D:=by funext x;simp
  rw[this];exact h⟩
 |(i,c)::l1,l2,D,h=>by
  obtain⟨a,b,g,d,e⟩:=h;obtain⟨f,k⟩:=PE e;refine⟨⟨a,b,g,d,f⟩,?_⟩;have:(fun x=>D x∨∃j,(j,x)∈(i,c)::l1)=fun x=>(D x∨x=c)∨∃j,(j,x)∈l1:=by
   funext x;simp only[zc,Prod.mk.injEq,eq_iff_iff];constructor
   ·rintro(h|⟨j,⟨_,h⟩|h⟩)
    ·exact .inl (.inl h)
    ·exact .inl (.inr h)
    ·exact .inr ⟨j,h⟩
   ·rintro((h|h)|⟨j,h⟩)
    ·exact .inl h
    ·exact .inr ⟨i,.inl ⟨rfl,h⟩⟩
    ·exact .inr ⟨j,.inr h⟩
  rw[this];exact k
section
variable {B:aA} {h0 h:Heap} {As:List HP}
theorem VN(s f:Addr)(p:Int×Int×Int)(v r Z dd T P R:Sl)(n:Nat)(pool:List (Sl×Row))(H:aa B h0 h (SA s (fM f p v r Z dd T P R)::km pool::As))(m:v.len=n)(hn:n<=64){K:Unit->Heap->Prop}
  (Q:∀d c h',d.len=n->c.len=n->aa B h0 h' (SA s (fM f p v r Z dd T d c)::HA d (qh n ⟨none,0,0⟩)::HA c (qh n ⟨none,0,0⟩)::km pool::As)->K () h'):(fun(e:Option Addr) (N:Unit->Heap->Prop)=>
 ∃a3:Addr,(e=some a3)/\
 ∃b:Sl,cellOf h (a3.add 4)=some (vM b.ptr b.len b.cap)/\
 ∃a5:Addr,(e=some a5)/\
 ∃a:Sl,cellOf h (a5.add 4)=some (vM a.ptr a.len a.cap)/\
 (aw vV (qB dq (vL vR ((b.len:Nat):Int)) (vL vR ((b.len:Nat):Int))) (.one (.sc .slc)) h fun y L=>
 (aq.ok [(a5.add 4,(vM a.ptr a.len a.cap)),(a3.add 4,(vM b.ptr b.len b.cap))] L)/\
 ∃S:Addr,(e=some S)/\
 (aw vV (qB dq (vL vR ((a.len:Nat):Int)) (vL vR ((a.len:Nat):Int))) (.one (.sc .slc)) L fun v9 F=>
 (aq.ok [(a5.add 4,(vM a.ptr a.len a.cap)),(a3.add 4,(vM b.ptr b.len b.cap))] F)/\
 ag vV (qf dq (vN (some (S.add 9))) (vM y.ptr y.len y.cap)) F fun _ h3=>
 (aq.ok [] h3)/\
 ∃D:Addr,(e=some D)/\
 ag vV (qf dq (vN (some (D.add 10))) (vM v9.ptr v9.len v9.cap)) h3 fun _ q=>
 (aq.ok [] q)/\
 N () q)/\(ag vV (qf dq (vN (some (S.add 9))) (vM y.ptr y.len y.cap)) L fun _ Y=>
 (aq.ok [] Y)/\
 aw vV (qB dq (vL vR ((a.len:Nat):Int)) (vL vR ((a.len:Nat):Int))) (.one (.sc .slc)) Y fun t V=>
 (aq.ok [] V)/\
 ∃E:Addr,(e=some E)/\
 ag vV (qf dq (vN (some (E.add 10))) (vM t.ptr t.len t.cap)) V fun _ U=>
 (aq.ok [] U)/\
 N () U))/\(aw vV (qB dq (vL vR ((a.len:Nat):Int)) (vL vR ((a.len:Nat):Int))) (.one (.sc .slc)) h fun w h8=>
 (aq.ok [(a5.add 4,(vM a.ptr a.len a.cap)),(a3.add 4,(vM b.ptr b.len b.cap))] h8)/\
 aw vV (qB dq (vL vR ((b.len:Nat):Int)) (vL vR ((b.len:Nat):Int))) (.one (.sc .slc)) h8 fun x X=>
 (aq.ok [(a5.add 4,(vM a.ptr a.len a.cap)),(a3.add 4,(vM b.ptr b.len b.cap))] X)/\
 ∃z:Addr,(e=some z)/\
 ag vV (qf dq (vN (some (z.add 9))) (vM x.ptr x.len x.cap)) X fun _ M=>
 (aq.ok [] M)/\
 ∃I:Addr,(e=some I)/\
 ag vV (qf dq (vN (some (I.add 10))) (vM w.ptr w.len w.cap)) M fun _ A=>
 (aq.ok [] A)/\
 N () A)) (some s) K:=by
 have W:=H.box 0 rfl;refine⟨s,rfl,v,W.cell rfl,s,rfl,v,W.cell rfl,?_,?_⟩
 ·refine H.make ae bI fq (by decide) ⟨none,0,0⟩ rfl rfl n n (by rw[m]) (by rw[m]) (ql _) (by omega) fun d L o O l=>?_;have l:=l.bL;have i:=l.box 1 rfl;refine⟨⟨i.cell rfl,i.cell rfl,trivial⟩,s,rfl,?_,?_⟩
  ·refine l.make ae bI fq (by decide) ⟨none,0,0⟩ rfl rfl n n (by rw[m]) (by rw[m]) (ql _) (by omega) fun c F k J g=>?_;have g:=g.bL;have j:=g.box 2 rfl;refine⟨⟨j.cell rfl,j.cell rfl,trivial⟩,?_⟩;refine g.store ae 2 rfl rfl 9 [vM d.ptr d.len d.cap] rfl rfl rfl (by simp[fM]) fun h3 u=>⟨trivial,s,rfl,?_⟩
   refine u.store ae 2 rfl rfl 10 [vM c.ptr c.len c.cap] rfl rfl rfl (by simp[fM]) fun q G=>⟨trivial,?_⟩
   exact Q d c q o k (G.bo 4 [2,1,0,3])
  ·refine l.store ae 1 rfl rfl 9 [vM d.ptr d.len d.cap] rfl rfl rfl (by simp[fM]) fun F g=>⟨trivial,?_⟩
   refine g.make ae bI fq (by decide) ⟨none,0,0⟩ rfl rfl n n (by rw[m]) (by rw[m]) (ql _) (by omega) fun c h3 k J u=>⟨trivial,s,rfl,?_⟩
   have u:=u.bL;refine u.store ae 2 rfl rfl 10 [vM c.ptr c.len c.cap] rfl rfl rfl (by simp[fM]) fun q G=>⟨trivial,?_⟩
   exact Q d c q o k (G.bo 4 [2,1,0,3])
 ·refine H.make ae bI fq (by decide) ⟨none,0,0⟩ rfl rfl n n (by rw[m]) (by rw[m]) (ql _) (by omega) fun c L o O l=>?_;have l:=l.bL;have i:=l.box 1 rfl;refine⟨⟨i.cell rfl,i.cell rfl,trivial⟩,?_⟩;refine l.make ae bI fq (by decide) ⟨none,0,0⟩ rfl rfl n n (by rw[m]) (by rw[m]) (ql _) (by omega) fun d F k J g=>?_;have g:=g.bL;have j:=g.box 2 rfl;refine⟨⟨j.cell rfl,j.cell rfl,trivial⟩,s,rfl,?_⟩;refine g.store ae 2 rfl rfl 9 [vM d.ptr d.len d.cap] rfl rfl rfl (by simp[fM]) fun h3 u=>⟨trivial,s,rfl,?_⟩
  refine u.store ae 2 rfl rfl 10 [vM c.ptr c.len c.cap] rfl rfl rfl (by simp[fM]) fun q G=>⟨trivial,?_⟩
  exact Q d c q k o (G.bo 4 [2,0,1,3])
end
section
variable {B:aA} {h0 h:Heap} {As:List HP}
theorem abg(n nd w:Nat)(d:List Int):(fm n nd w d).1.length=n/\(fm n nd w d).2.length=n:=by
 unfold fm;have:∀(l:List (Int×Nat)) (s:aR×aR),(l.foldl (fun s p=>(s.1.set p.1.toNat (nS nd p.2),s.2.set p.1.toNat (aK w))) s).1.length=s.1.length/\(l.foldl (fun s p=>(s.1.set p.1.toNat (nS nd p.2),s.2.set p.1.toNat (aK w))) s).2.length=s.2.length:=by
  intro l
  induction l with
  |nil=>intro s;exact⟨rfl,rfl⟩
  |cons a l ih=>intro s;rw[zB];have:=ih (s.1.set a.1.toNat (nS nd a.2),s.2.set a.1.toNat (aK w));simpa using this
 have:=this d.zipIdx (qh n [],qh n []);simpa using this
abbrev Told(s f:Addr)(p:Int×Int×Int)(v r g h i a b:Sl)(e c:List Sl)(d:List (Sl×Row)):List HP:=[SA s (fM f p v r g h i a b),HA a e,HA b c,km d]
theorem YD(s f:Addr)(p:Int×Int×Int)(v r st U lf wa R:Sl)(I mr:List Sl)(pl:List (Sl×Row))(c:Int)(nd w:Nat)(H:aa B h0 h (Told s f p v r st U lf wa R I mr pl++As))(ay:0<=c)(hw:c.toNat<I.length)(Z:c.toNat<mr.length)(X:p.2.2=w)(hd:U.len=nd)(a0:nd<=64)(J:w<=2^20){K:Unit->Heap->Prop}
  (hk:∀a b h',aa B h0 h' (RA a (aK nd)::RA b (aK w)::(Told s f p v r st U lf wa R (I.set c.toNat a) (mr.set c.toNat b) pl++As))->K () h'):(fun(L:Option Addr) (K3:Unit->Heap->Prop)=>
 ∃o:Addr,(L=some o)/\
 ∃g:Sl,cellOf h (o.add 9)=some (vM g.ptr g.len g.cap)/\
 ∃a25:Addr,(L=some a25)/\
 ∃d:Sl,cellOf h (a25.add 10)=some (vM d.ptr d.len d.cap)/\
 ∃V:Addr,(L=some V)/\
 ∃j:Int,cellOf h ((V.add 1).add 2)=some (vL vR j)/\
 (aw vV (qB aF (vL vR ((U.len:Nat):Int)) (vL vR ((U.len:Nat):Int))) (.one (.sc .slc)) h fun l P=>
 (aq.ok [((V.add 1).add 2,(vL vR j)),(a25.add 10,(vM d.ptr d.len d.cap)),(o.add 9,(vM g.ptr g.len g.cap))] P)/\
 ∃O:Addr,(g.ptr=some O/\0<=c/\c<((g.len:Nat):Int))/\
 (aw vV (qB aF (vL vR j) (vL vR j)) (.one (.sc .slc)) P fun Q ah=>
 (aq.ok [(a25.add 10,(vM d.ptr d.len d.cap)),(o.add 9,(vM g.ptr g.len g.cap))] ah)/\
 ag vV (qf aF (vN (some (O.add (c.toNat*1)))) (vM l.ptr l.len l.cap)) ah fun _ t=>
 (aq.ok [] t)/\
 ∃q:Addr,(d.ptr=some q/\0<=c/\c<((d.len:Nat):Int))/\
 ag vV (qf aF (vN (some (q.add (c.toNat*1)))) (vM Q.ptr Q.len Q.cap)) t fun _ A=>
 (aq.ok [] A)/\
 K3 () A)/\(ag vV (qf aF (vN (some (O.add (c.toNat*1)))) (vM l.ptr l.len l.cap)) P fun _ y=>
 (aq.ok [] y)/\
 aw vV (qB aF (vL vR j) (vL vR j)) (.one (.sc .slc)) y fun k z=>
 (aq.ok [] z)/\
 ∃u:Addr,(d.ptr=some u/\0<=c/\c<((d.len:Nat):Int))/\
 ag vV (qf aF (vN (some (u.add (c.toNat*1)))) (vM k.ptr k.len k.cap)) z fun _ E=>
 (aq.ok [] E)/\
 K3 () E))/\(aw vV (qB aF (vL vR j) (vL vR j)) (.one (.sc .slc)) h fun W ax=>
 (aq.ok [(a25.add 10,(vM d.ptr d.len d.cap)),(o.add 9,(vM g.ptr g.len g.cap))] ax)/\
 aw vV (qB aF (vL vR ((U.len:Nat):Int)) (vL vR ((U.len:Nat):Int))) (.one (.sc .slc)) ax fun S ao=>
 (aq.ok [(a25.add 10,(vM d.ptr d.len d.cap)),(o.add 9,(vM g.ptr g.len g.cap))] ao)/\
 ∃ap:Addr,(g.ptr=some ap/\0<=c/\c<((g.len:Nat):Int))/\
 ag vV (qf aF (vN (some (ap.add (c.toNat*1)))) (vM S.ptr S.len S.cap)) ao fun _ am=>
 (aq.ok [] am)/\
 ∃ab:Addr,(d.ptr=some ab/\0<=c/\c<((d.len:Nat):Int))/\
 ag vV (qf aF (vN (some (ab.add (c.toNat*1)))) (vM W.ptr W.len W.cap)) am fun _ ad=>
 (aq.ok [] ad)/\
 K3 () ad)) (some s) K:=by
 have hb:=H.box 0 rfl;have mk:∀{Y:Heap} {Cs:List HP} (m:Nat) (Z:m<=2^20) {z1 z2:Int},z1=(m:Int)->z2=(m:Int)->aa B h0 Y Cs->∀{K:Sl->Heap->Prop},(∀a h',aa B h0 h' (RA a (aK m)::Cs)->K a h')->
   aw vV (qB aF (vL vR z1) (vL vR z2)) (.one (.sc .slc)) Y K:=by
  intro Y Cs m Z z1 z2 e1 e2 G K hK;subst e1;subst e2;exact G.make ae aC fP (by decide) 0 rfl rfl m m rfl rfl (ql _) (by omega) fun a h' _ _ H'=>hK a h' H'.bL
 refine⟨s,rfl,wa,hb.cell rfl,s,rfl,R,hb.cell rfl,s,rfl,p.2.2,show cellOf h (s.add 3)=_ from hb.cell rfl,?_,?_⟩
 ·refine mk nd (by omega) (by rw[hd]) (by rw[hd]) H fun a Y G=>?_;have n:=G.box 1 rfl;refine⟨⟨show cellOf Y (s.add 3)=_ from n.cell rfl,n.cell rfl,n.cell rfl,trivial⟩,?_⟩;have F:∀{h2:Heap} {Cs:List HP} {I:List Sl} (i:Nat) (a:Sl) {s':Sl},aa B h0 h2 Cs->Cs[i]?=some (HA s' I)->c.toNat<I.length->∀{K:Heap->Prop},(∀h',aa B h0 h' (Cs.set i (HA s' (I.set c.toNat a)))->K h')->∃x:Addr,(s'.ptr=some x/\0<=c/\c<((s'.len:Nat):Int))/\ag vV (qf aF (vN (some (x.add (c.toNat*1)))) (vM a.ptr a.len a.cap)) h2 fun _ h'=>K h':=by
   intro h2 Cs I i a s' N hi hl K hK;exact N.set ae i hi (fun _=>rfl) rfl c.toNat (by omega) hl a rfl rfl rfl fun h3 T=>hK h3 T
  obtain⟨x,hx,-⟩:=F (K:=fun _=>True) 2 a G rfl hw fun _ _=>trivial;refine⟨x,hx,?_,?_⟩
  ·refine mk w J X X G fun b h2 N=>?_;have D:=N.box 2 rfl;refine⟨⟨D.cell rfl,D.cell rfl,trivial⟩,?_⟩;obtain⟨x',M,hr⟩:=F (K:=fun t=>aq.ok [] t/\∃q:Addr,(R.ptr=some q/\0<=c/\c<((R.len:Nat):Int))/\
 ag vV (qf aF (vN (some (q.add (c.toNat*1)))) (vM b.ptr b.len b.cap)) t fun _ A=>(aq.ok [] A)/\K () A) 3 a N rfl hw fun h3 T=>⟨trivial,F 4 b T rfl Z fun h4 H4=>⟨trivial,hk a b h4 (H4.bo 6 [1,0,2,3,4,5])⟩⟩
   have e:x=x':=zJ.inj (hx.1.symm.trans M.1);subst e;exact hr
  ·obtain⟨x',M,hr⟩:=F (K:=fun y=>aq.ok [] y/\aw vV (qB aF (vL vR p.2.2) (vL vR p.2.2)) (.one (.sc .slc)) y fun k z=>
 (aq.ok [] z)/\
 ∃u:Addr,(R.ptr=some u/\0<=c/\c<((R.len:Nat):Int))/\
 ag vV (qf aF (vN (some (u.add (c.toNat*1)))) (vM k.ptr k.len k.cap)) z fun _ E=>
 (aq.ok [] E)/\K () E) 2 a G rfl hw fun h3 T=>⟨trivial,mk w J X X T fun b h4 H4=>⟨trivial,F 4 b H4 rfl Z fun h5 H5=>⟨trivial,hk a b h5 (H5.bo 6 [1,0,2,3,4,5])⟩⟩⟩
   have e:x=x':=zJ.inj (hx.1.symm.trans M.1);subst e;exact hr
 ·refine mk w J X X H fun b Y G=>?_;have n:=G.box 1 rfl;refine⟨⟨n.cell rfl,n.cell rfl,trivial⟩,?_⟩;refine mk nd (by omega) (by rw[hd]) (by rw[hd]) G fun a h2 N=>?_;have D:=N.box 2 rfl;refine⟨⟨D.cell rfl,D.cell rfl,trivial⟩,?_⟩;refine N.set ae 3 rfl (fun _=>rfl) rfl c.toNat (by omega) hw a rfl rfl rfl fun h3 T=>⟨trivial,?_⟩
  refine T.set ae 4 rfl (fun _=>rfl) rfl c.toNat (by omega) Z b rfl rfl rfl fun h4 H4=>⟨trivial,hk a b h4 (H4.bo 6 [0,1,2,3,4,5])⟩
end
section
variable {B:aA} {h0 h:Heap} {As:List HP}
theorem TQ{h:Heap}{Cs:List HP}(x:Sl)(m:Row)(nd:Nat)(z:Int)(H:aa B h0 h Cs)(w:z=nd)(D:nd<=64)(E:m.length<=2^20){L L2:aq}(v:L.ok h)(f:L2.ok h)(t:St B h0 Cs fun h=>Rd h x 1 aC m){K:Sl->Sl->Heap->Prop}
  (s:∀a b h',aU (fun b=>b<h.size) h h'->aa B h0 h' (RA a (aK nd)::RA b m::Cs)->K a b h'):
  (aw vV (qB aF (vL vR z) (vL vR z)) (.one (.sc .slc)) h fun j e=>
 (aq.ok L e)/\
 af vV rF #[(vM x.ptr x.len x.cap)] (.one (.sc .slc)) e fun p i=>K j p i)/\(af vV rF #[(vM x.ptr x.len x.cap)] (.one (.sc .slc)) h fun l d=>
 (aq.ok L2 d)/\
 aw vV (qB aF (vL vR z) (vL vR z)) (.one (.sc .slc)) d fun g o=>K g l o):=by
 subst w;constructor
 ·refine H.KF ae aC fP (by decide) 0 rfl rfl nd nd rfl rfl (ql _) (by omega) fun a u _ r c=>⟨jE r v,?_⟩
  have c:=c.bL;refine(fH x m u (t.at [_] c) (by omega)).mono ?_;rintro _ k ⟨b,rfl,q⟩;exact⟨b,rfl,s a b k (up r q.ai) ((c.cY q).uV)⟩
 ·refine(fH x m h (t.at [] H) (by omega)).mono ?_;rintro _ u ⟨b,rfl,n⟩;have c:=H.cY n;refine⟨b,rfl,jE n.ai f,?_⟩;refine c.KF ae aC fP (by decide) 0 rfl rfl nd nd rfl rfl (ql _) (by omega) fun a k _ A y=>?_;exact s a b k (up n.ai A) y.bL
structure lB (pool pl:List (Sl×Row)) (wr mr:List Sl) (W M:aR):Prop where
 sub:∀x∈pool,x∈pl
 way:gC pl id wr W
 more:gC pl id mr M
theorem lB.step{pool f:List (Sl×Row)}{g e:List Sl}{W M:aR}(x:lB pool f g e W M)(c:Nat)(a b:Sl)(l m:Row):lB pool ((b,m)::(a,l)::f) (g.set c a) (e.set c b) (W.set c l) (M.set c m):=
 ⟨fun y d=>by simp[x.sub y d],(x.way.mono fun y d=>by simp[d]).set c (by simp),(x.more.mono fun y d=>by simp[d]).set c (by simp)⟩
theorem YE(s f:Addr)(p:Int×Int×Int)(v r A o E a9 a5:Sl)(rr:List (Sl×Sl))(R:List eF)(ST:List (Int×Int))(D L:List Int)(n nd w:Nat)(pool:List (Sl×Row))(H:aa B h0 h (SA s (fM f p v r A o E a9 a5)::km pool::As))(Z:St B h0 As fun h=>YC h f r A o E rr R ST D L)
  (hv:v.len=n) (hn:n<=64) (hp:p.2.2=w) (hw:w<=2^20) (b7:D.length=nd) (ad:nd<=64) (hR:∀e∈R,il n w e) (hD:∀c∈D,0<=c/\c<(n:Int)) (b4:D.Nodup) (hg:sC (R.map qK) (·∈D) ST) (ch:ST.length<=2^20) (b6:∀e∈R,e.1.length<=2^20) (a0:(⟨none,0,0⟩,[])∈pool):
  ac vV BA #[vN (some s)] h fun v' h'=>v'=.tuple #[]/\∃d l u z J,aa B h0 h' (Told s f p v r A o E d l u z J++As)/\lB pool J u z (ST.foldl (gp R nd) (fm n nd w D)).1 (ST.foldl (gp R nd) (fm n nd w D)).2:=by
 refine Ab (some s) ?_;unfold oK;have hb:=H.box 0 rfl;have a8:o.len=nd:=by rw[(Z.at [_,_] H).dead.len,b7]
 refine⟨s,rfl,o,show cellOf h (s.add 7)=_ from hb.cell rfl,?_⟩;refine cl (fun _ h'=>∃d l,d.len=n/\l.len=n/\aa B h0 h' (Told s f p v r A o E d l (qh n ⟨none,0,0⟩) (qh n ⟨none,0,0⟩) pool++As)) ?_ ?_
 ·exact VN (K:=fun _ h'=>∃d l,d.len=n/\l.len=n/\aa B h0 h' (Told s f p v r A o E d l (qh n ⟨none,0,0⟩) (qh n ⟨none,0,0⟩) pool++As)) s f p v r A o E a9 a5 n pool H hv hn fun d l h' h1 h2 O=>⟨d,l,h1,h2,O⟩
 rintro-h1 ⟨d,l,cr,cs,H1⟩;have bq:=H1.box 0 rfl;refine⟨s,rfl,o,show cellOf h1 (s.add 7)=_ from bq.cell rfl,?_⟩;refine av (fun t:Nat×List Sl×List Sl×List (Sl×Row)=>(t.1:Int)) (fun t h'=>t.1<=nd/\aa B h0 h' (Told s f p v r A o E d l t.2.1 t.2.2.1 t.2.2.2++As)/\lB pool t.2.2.2 t.2.1 t.2.2.1 (fm n nd w (D.take t.1)).1 (fm n nd w (D.take t.1)).2) (fun t=>nd-t.1)
  (0,qh n ⟨none,0,0⟩,qh n ⟨none,0,0⟩,pool) rfl ⟨by omega,H1,⟨fun _ h=>h,MH pool a0 n,MH pool a0 n⟩⟩ ?_
 rintro⟨i,u,z,J⟩ h2 ⟨hi,H2,T2⟩;dsimp only at*;have b3:=abg n nd w (D.take i);have T:=T2.way.1;have P:=T2.more.1;refine ak (fun e=>?_) (fun e=>?_)
 ·have ab:i<nd:=by omega
  have X:=hD _ (qg (show i<D.length by omega));refine(Z.at [_,_,_,_] H2).dead.bv i rfl (by omega) _ rfl ?_;refine cl (fun _ h'=>∃a b,aa B h0 h' (RA a (aK nd)::RA b (aK w)::(Told s f p v r A o E d l (u.set D[i].toNat a) (z.set D[i].toNat b) J++As))) ?_ ?_
  ·exact YD (K:=fun _ h'=>∃a b,aa B h0 h' (RA a (aK nd)::RA b (aK w)::(Told s f p v r A o E d l (u.set D[i].toNat a) (z.set D[i].toNat b) J++As))) s f p v r A o E d l u z J D[i] nd w H2 X.1 (by omega) (by omega) hp a8 ad hw fun a b h' O=>⟨a,b,O⟩
  rintro-h3 ⟨a,b,H3⟩;refine⟨s,rfl,d,(H3.box 2 rfl).cell rfl,?_⟩;refine(H3.seq 3 rfl fun _=>rfl).nX D[i].toNat (by omega) (by simp;omega) ?_;rw[vp];refine H3.set ae 0 rfl (fun _=>rfl) rfl i rfl (by simp[aK];omega) 1 rfl rfl rfl fun h4 H4=>?_;have H5:=(H4.freeze 0 rfl fun _=>rfl).pool 5 0 (by decide) rfl rfl;have H6:=(H5.freeze 1 rfl fun _=>rfl).pool 5 1 (by decide) rfl rfl;refine⟨(i+1,u.set D[i].toNat a,z.set D[i].toNat b,_),by dsimp only;rw[Go.Vc.wrap_small _ (by omega) (by omega)];rfl,⟨by dsimp only;omega,H6.bo 6 [2,3,4,5],?_⟩,by dsimp only;omega⟩;dsimp only;have e1:D.take (i+1)=D.take i++[D[i]]:=aH _ _ (by omega);have e2:(D.take i).length=i:=by simp;omega
  rw[e1,KU,e2];exact T2.step D[i].toNat a b (nS nd i) (aK w)
 have ao:i=D.length:=by omega
 subst ao;rw[qR]at T2 b3 T P;refine⟨s,rfl,A,(H2.box 0 rfl).cell rfl,?_⟩;have cf:=(Z.at [_,_,_,_] H2).steps.len;refine av (fun t:Nat×List Sl×List Sl×List (Sl×Row)=>(t.1:Int)) (fun t h'=>t.1<=ST.length/\aa B h0 h' (Told s f p v r A o E d l t.2.1 t.2.2.1 t.2.2.2++As)/\lB pool t.2.2.2 t.2.1 t.2.2.1 ((ST.take t.1).foldl (gp R nd) (fm n nd w D)).1 ((ST.take t.1).foldl (gp R nd) (fm n nd w D)).2) (fun t=>ST.length-t.1)
  (0,u,z,J) rfl ⟨by simp,H2,T2⟩ ?_
 clear T P T2 H2 hi e;rintro⟨i,u,z,J⟩ h3 ⟨hi,H3,T3⟩;dsimp only at*;obtain⟨dk,-⟩:=Nk (nd:=nd) (w:=w) hD b4 D.length (ql _);rw[qR]at dk;have a2:=PE (l1:=ST.take i) (l2:=ST.drop i) (by rw[qD];exact hg);obtain⟨a4,-⟩:=JB hR a2.1 dk;obtain⟨W,hW⟩:∃W,W=((ST.take i).foldl (gp R nd) (fm n nd w D)).1:=⟨_,rfl⟩
 obtain⟨M,hM⟩:∃M,M=((ST.take i).foldl (gp R nd) (fm n nd w D)).2:=⟨_,rfl⟩
 have ah:(ST.take i).foldl (gp R nd) (fm n nd w D)=(W,M):=by rw[hW,hM]
 have I:ZR n nd w (fun c=>c∈D∨∃j,(j,c)∈ST.take i) W M:=by rw[hW,hM];exact a4
 rw[<-hW,<-hM]at T3;clear a4 hW hM;have c0:=I.wl;have cp:=I.ml;have T:=T3.way.1;have P:=T3.more.1;refine ak (fun e=>?_) (fun e=>?_)
 ·have ab:i<ST.length:=by omega
  have ax:=a2.2;rw[qT ab]at ax;obtain⟨row,bp,ap⟩:∃row bp,ST[i]=(row,bp):=⟨_,_,rfl⟩
  rw[ap]at ax;obtain⟨g1,g2,g3,g4,-⟩:=ax;have m:row.toNat<R.length:=by have:=g1.2;rw[qw]at this;omega
  obtain⟨k,S⟩:∃k,k=R[row.toNat]:=⟨_,rfl⟩
  have er:R.getD row.toNat ([],[])=k:=by rw[qe,qd m,S];rfl
  have bl:(R.map qK).getD row.toNat []=k.1:=by rw[qe,qN,qd m,S];rfl
  rw[bl]at g3 g4;have N:=hR k (S▸qg m);have c1:=b6 k (S▸qg m);have c2:=N.cD bp g3;have G3:=Z.at [_,_,_,_] H3;have hF:=G3.rest.2.1;refine G3.steps.dD (g:=fd) i rfl ab ST[i] rfl ?_;rw[ap];refine H3.FL ae rfl fun a50 h4 P4 H4=>?_;have H4:=H4.bL;refine H4.storeAll ae 0 rfl rfl (fd (row,bp)) rfl rfl rfl rfl fun h5 H5=>?_;have b1:row.toNat<rr.length:=by rw[hF];exact m
  obtain⟨y,hy⟩:∃y,y=rr[row.toNat]:=⟨_,rfl⟩
  have G:∀{h'},nE iR 2 qv h' r rr R->iR.p h' (fun b=>b<h'.size) y k:=fun hh=>by rw[hy,S];exact Fix.row hh m
  refine cl (fun a' h'=>aa B h0 h' (au a' dG (qv y)::au a50 cM (fd (row,bp))::(Told s f p v r A o E d l u z J++As))) ?_ ?_
  ·have a7:=H5.box 1 rfl;have G5:=Z.at [_,_,_,_,_] H5;refine⟨s,rfl,r,a7.cell rfl,row,(H5.box 0 rfl).cell0 rfl,?_⟩;obtain⟨b5,ha,x,X,rfl⟩:=G5.rest.1.dD (g:=qv) (i:=row) row.toNat (by omega) b1 y (by rw[hy]) (K:=fun x=>x=y) rfl;refine⟨b5,ha,_,X,?_⟩;refine H5.FL ae rfl fun Q h6 P6 H6=>⟨⟨rQ X.1 P6,rQ X.2.1 P6,rQ ((H5.box 0 rfl).cell0 rfl) P6,rQ (a7.cell rfl) P6,trivial⟩,?_⟩
   have H6:=H6.bL;refine H6.storeAll ae 0 rfl rfl (qv x) rfl rfl rfl rfl fun h7 H7=>⟨trivial,H7⟩
  intro Q h7 H7;refine cl (fun t h'=>aa B h0 h' (RA t.1 (aK nd)::RA t.2 k.2::au Q dG (qv y)::au a50 cM (fd (row,bp))::(Told s f p v r A o E d l u z J++As))) ?_ ?_
  ·have ay:=H7.box 0 rfl;refine⟨y.2,ay.cell rfl,?_⟩;exact TQ (L:=[(Q.add 1,vM y.2.ptr y.2.len y.2.cap)]) (K:=fun a b h'=>aq.ok [] h'/\aa B h0 h' (RA a (aK nd)::RA b k.2::au Q dG (qv y)::au a50 cM (fd (row,bp))::(Told s f p v r A o E d l u z J++As))) y.2 k.2 nd _ H7 (by rw[a8]) ad (by rw[N.len];exact hw) ⟨ay.cell rfl,trivial⟩ (L2:=[]) trivial (St.mk' fun h' O=>(G (Z.at [_,_,_,_,_,_] O).rest).2) fun a b h' _ O=>⟨trivial,O⟩
  rintro⟨U,q⟩ h8 H8;dsimp only at H8;refine⟨y.1,(H8.box 2 rfl).cell0 rfl,?_⟩;have cq:=(G (Z.at [_,_,_,_,_,_,_,_] H8).rest).1.len;let F:Nat->List Int:=fun j=>(k.1.take j).filter fun c=>!decide (c=bp);refine av (fun j:Nat=>(j:Int)) (fun j h'=>j<=k.1.length/\aa B h0 h' (RA U (cB W (aK nd) (F j))::RA q (cB M k.2 (F j))::au Q dG (qv y)::au a50 cM (fd (row,bp))::(Told s f p v r A o E d l u z J++As))) (fun j=>k.1.length-j) 0 rfl ⟨by omega,by simpa[F,cB]using H8⟩ ?_;rintro j h9 ⟨hj,H9⟩;have told:∀c∈F j,(az W c.toNat).length=nd/\(az M c.toNat).length=w:=fun c X=>by
   have a3:=qI.1 X;have hm:=zK a3.1;exact I.rw_ c (g4 c hm (by simpa using a3.2)) (N.cD c hm).1 (N.cD c hm).2
  have a1:(cB W (aK nd) (F j)).length=nd:=jk (by simp[aK]) fun c X=>(told c X).1;have bd:(cB M k.2 (F j)).length=w:=jk N.len fun c X=>(told c X).2;refine ak (fun e2=>?_) (fun e2=>?_)
  ·have V:j<k.1.length:=by omega
   have am:=N.cD _ (qg V);refine(G (Z.at [_,_,_,_,_,_,_,_] H9).rest).1.bv j rfl V _ rfl ?_;refine⟨bp,(H9.box 3 rfl).cell rfl,?_⟩;refine bQ (fun bb=>?_) (fun b2=>?_)
   ·have tc:=I.rw_ k.1[j] (g4 _ (qg V) bb) am.1 am.2;refine(HB s f 1 k.1[j] U q d l _ _ u z W M H9 (St.mk' fun h' O=>?_) am.1 (by omega) (by omega) (by rw[tc.1,a1]) (by rw[tc.2,bd]) (by omega) (by omega)).mono ?_
    ·exact CY.of (O.box 2 rfl) (Z.at [_,_,_,_,_,_] O).field (O.Ee 3 5 rfl rfl T3.way) (O.Ee 4 5 rfl rfl T3.more)
    rintro _ cc ⟨rfl,Y⟩;have e3:F (j+1)=F j++[k.1[j]]:=by
     simp only[F];rw[iZ _ _ V];simp[bb]
    exact⟨(),rfl,j+1,by rw[Go.Vc.wrap_small _ (by omega) (by omega)];rfl,⟨by omega,by rw[e3,tl,tl];exact Y⟩,by omega⟩
   ·have e3:F (j+1)=F j:=by
     simp only[F];rw[iZ _ _ V];simp[b2]
    exact⟨j+1,by rw[Go.Vc.wrap_small _ (by omega) (by omega)];rfl,⟨by omega,by rw[e3];exact H9⟩,by omega⟩
  ·have b0:j=k.1.length:=by omega
   subst b0;have bk:=H9.box 3 rfl;have a6:=H9.box 4 rfl;refine⟨s,rfl,d,a6.cell rfl,bp,bk.cell rfl,s,rfl,l,a6.cell rfl,bp,bk.cell rfl,?_⟩;refine H9.set ae 5 rfl (fun _=>rfl) rfl bp.toNat (by omega) (by omega) U rfl rfl rfl fun cc Y=>⟨⟨(Y.box 3 rfl).cell rfl,trivial⟩,?_⟩
   refine Y.set ae 6 rfl (fun _=>rfl) rfl bp.toNat (by omega) (by omega) q rfl rfl rfl fun cn cd=>⟨trivial,?_⟩
   have br:=(cd.freeze 0 rfl fun _=>rfl).pool 7 0 (by decide) rfl rfl;have b9:=(br.freeze 1 rfl fun _=>rfl).pool 7 1 (by decide) rfl rfl;refine⟨(i+1,u.set bp.toNat U,z.set bp.toNat q,_),by dsimp only;rw[Go.Vc.wrap_small _ (by omega) (by omega)];rfl,⟨by dsimp only;omega,b9.bo 8 [4,5,6,7],?_⟩,by dsimp only;omega⟩;dsimp only;rw[aH _ _ ab,wE,ah,ap];have e3:[(row,bp)].foldl (gp R nd) (W,M)=(W.set bp.toNat (cB W (aK nd) (F k.1.length)),M.set bp.toNat (cB M k.2 (F k.1.length))):=by
    simp only[zB,wI,gp,er,F,qR]
   rw[e3];exact T3.step bp.toNat U q _ _
 ·have ao:i=ST.length:=by omega
  subst ao;rw[qR]at ah;exact⟨rfl,d,l,u,z,J,H3,by rw[ah];exact T3⟩
end
def jR(nd:Nat)(known:List Bool)(vals:aR)(s:aR×aR)(i:Nat):aR×aR:=
 (s.1.mapIdx fun c r=>if c<i/\known.getD c false=true then aK nd else r,s.2.mapIdx fun c r=>if c<i/\known.getD c false=true then az vals c else r)
theorem YF(nd:Nat)(known:List Bool)(vals:aR)(s:aR×aR):jR nd known vals s 0=s:=by
 unfold jR;refine yL ?_ ?_<;>refine we (by simp) fun i a b=>?_<;>simp
theorem abh(nd:Nat)(known:List Bool)(vals:aR)(s:aR×aR){n:Nat}(a:s.1.length=n)(b:s.2.length=n):jR nd known vals s n=gN nd known vals s:=by
 unfold jR gN;refine yL ?_ ?_<;>refine we (by simp) fun i a b=>?_<;>simp at a<;>simp[show i<n by omega]
theorem abi(nd:Nat)(known:List Bool)(vals:aR)(s:aR×aR){i:Nat}(d:known.getD i false=true):jR nd known vals s (i+1)=((jR nd known vals s i).1.set i (aK nd),(jR nd known vals s i).2.set i (az vals i)):=by
 unfold jR;refine yL ?_ ?_<;>refine we (by simp) fun j e f=>?_<;>simp only[List.getElem_mapIdx,List.getElem_set]<;>by_cases c:i=j
 ·subst c;rw[if_pos ⟨by omega,d⟩,if_pos rfl]
 ·rw[if_neg c];congr 1;simp only[eq_iff_iff];constructor<;>rintro⟨a,b⟩<;>exact⟨by omega,b⟩
 ·subst c;rw[if_pos ⟨by omega,d⟩,if_pos rfl]
 ·rw[if_neg c];congr 1;simp only[eq_iff_iff];constructor<;>rintro⟨a,b⟩<;>exact⟨by omega,b⟩
theorem ade(nd:Nat)(known:List Bool)(vals:aR)(s:aR×aR){i:Nat}(e:known.getD i false=false):jR nd known vals s (i+1)=jR nd known vals s i:=by
 have c:∀j,(j<i+1/\known.getD j false=true)↔(j<i/\known.getD j false=true):=fun j=>by
  constructor
  ·rintro⟨a,b⟩;by_cases d:j=i
   ·subst d;rw[e]at b;cases b
   ·exact⟨by omega,b⟩
  ·rintro⟨a,b⟩;exact⟨by omega,b⟩
 unfold jR;simp only[c]
section
variable {B:aA} {h0 h:Heap} {As:List HP}
theorem abj(s f:Addr)(p:Int×Int×Int)(v r O A K J G:Sl)(j d g:List Sl)(l:List (Sl×Row))(known:List Bool)(V W M:aR)(n nd:Nat)(H:aa B h0 h (Told s f p v r O A K J G d g l++HA v j::As))(hn:n<=64)(u:A.len=nd)(ab:nd<=64)(hT:lB l l d g W M)(S:gC l id j V)(ah:V.length=n)(F:W.length=n)(y:M.length=n)
  (hk:∀(c:Nat) (hc:c<j.length),j[c].ptr.isNone=!(known.getD c false)):
  ac vV Cx #[vN (some s)] h fun v' h'=>v'=.tuple #[]/\∃d g b,aa B h0 h' (Told s f p v r O A K J G d g b++HA v j::As)/\lB l b d g (gN nd known V (W,M)).1 (gN nd known V (W,M)).2:=by
 refine BB (some s) ?_;unfold pD;have Q:=S.1;have L:v.len=n:=by rw[(H.own 4 rfl).len];omega
 refine⟨s,rfl,v,(H.box 0 rfl).cell rfl,?_⟩;refine av (fun t:Nat×List Sl×List Sl×List (Sl×Row)=>(t.1:Int)) (fun t h'=>t.1<=n/\aa B h0 h' (Told s f p v r O A K J G t.2.1 t.2.2.1 t.2.2.2++HA v j::As)/\lB l t.2.2.2 t.2.1 t.2.2.1 (jR nd known V (W,M) t.1).1 (jR nd known V (W,M) t.1).2) (fun t=>n-t.1) (0,d,g,l) rfl ⟨by omega,H,by rw[YF];exact hT⟩ ?_;rintro⟨i,d,g,b⟩ h1 ⟨hi,D,k⟩;dsimp only at*;have X:(jR nd known V (W,M) i).1.length=n:=by simp[jR,F]
 have Z:(jR nd known V (W,M) i).2.length=n:=by simp[jR,y]
 have R:=k.way.1;have P:=k.more.1;refine ak (fun e=>?_) (fun e=>?_)
 ·have ad:i<n:=by omega
  refine(D.seq 4 rfl fun _=>rfl).nX i rfl (by omega) ?_;have w:=hk i (by omega);refine bg (fun E=>?_) (fun E=>?_)
  ·have m:known.getD i false=true:=by rw[w]at E;simpa using E
   have o:=D.box 0 rfl;refine⟨s,rfl,J,o.cell rfl,s,rfl,G,o.cell rfl,s,rfl,A,show cellOf h1 (s.add 7)=_ from o.cell rfl,?_⟩;refine D.KF ae aC fP (by decide) 0 rfl rfl nd nd (by rw[u]) (by rw[u]) (ql _) (by omega) fun a Y _ P2 I=>?_;have I:=I.bL;have q:=I.box 1 rfl;refine⟨⟨show cellOf Y (s.add 7)=_ from q.cell rfl,q.cell rfl,q.cell rfl,trivial⟩,?_⟩;refine I.set ae 2 rfl (fun _=>rfl) rfl i rfl (by omega) a rfl rfl rfl fun h3 U=>⟨trivial,?_⟩
   refine U.set ae 3 rfl (fun _=>rfl) rfl i rfl (by omega) (j[i]'(by omega)) rfl rfl rfl fun h4 H4=>⟨trivial,?_⟩
   have H5:=(H4.freeze 0 rfl fun _=>rfl).pool 4 0 (by decide) rfl rfl;refine⟨(i+1,d.set i a,g.set i (j[i]'(by omega)),_),by dsimp only;rw[Go.Vc.wrap_small _ (by omega) (by omega)];rfl,⟨by dsimp only;omega,H5.bo 5 [1,2,3,4],?_⟩,by dsimp only;omega⟩;dsimp only;rw[abi nd known V (W,M) m];have T:((j[i]'(by omega)),az V i)∈l:=by
    have:=S.get (i:=i) (by omega);rw[lJ (by omega)];exact this
   exact⟨fun x z=>qU _ (k.sub x z),(k.way.mono fun x z=>qU _ z).set i (by simp[aK]),(k.more.mono fun x z=>qU _ z).set i (qU _ (k.sub _ T))⟩
  ·have m:known.getD i false=false:=by rw[w]at E;simpa using E
   exact⟨(i+1,d,g,b),by dsimp only;rw[Go.Vc.wrap_small _ (by omega) (by omega)];rfl,⟨by dsimp only;omega,D,by dsimp only;rw[ade nd known V (W,M) m];exact k⟩,by dsimp only;omega⟩
 ·have N:i=n:=by omega
  subst N;exact⟨rfl,d,g,b,D,by rw[<-abh nd known V (W,M) F y];exact k⟩
def mY(nd:Nat)(known:List Bool)(vals W M D:aR)(i:Nat):aR:=vals.mapIdx fun c r=>if c<i/\known.getD c false=false then gd D (az W c) (az M c) nd else r
theorem abk(nd:Nat)(known:List Bool)(vals W M D:aR):mY nd known vals W M D 0=vals:=by
 unfold mY;refine we (by simp) fun i a b=>?_;simp
theorem adf(nd:Nat)(known:List Bool)(vals W M D:aR){n:Nat}(a:vals.length=n):mY nd known vals W M D n=wt nd known vals W M D:=by
 unfold mY wt;refine we (by simp) fun i a b=>?_;simp at a;simp only[List.getElem_mapIdx];cases hk:known.getD i false
 ·rw[if_pos ⟨by omega,rfl⟩,if_neg (by simp)]
 ·rw[if_neg (by simp),if_pos rfl]
theorem adg(nd:Nat)(known:List Bool)(vals W M D:aR){i:Nat}(e:known.getD i false=true):mY nd known vals W M D (i+1)=mY nd known vals W M D i:=by
 have c:∀j,(j<i+1/\known.getD j false=false)↔(j<i/\known.getD j false=false):=fun j=>by
  constructor
  ·rintro⟨a,b⟩;by_cases d:j=i
   ·subst d;rw[e]at b;cases b
   ·exact⟨by omega,b⟩
  ·rintro⟨a,b⟩;exact⟨by omega,b⟩
 unfold mY;simp only[c]
theorem aeP(nd:Nat)(known:List Bool)(vals W M D:aR){i:Nat}(d:known.getD i false=false):mY nd known vals W M D (i+1)=(mY nd known vals W M D i).set i (gd D (az W i) (az M i) nd):=by
 unfold mY;refine we (by simp) fun j e f=>?_;simp only[List.getElem_mapIdx,List.getElem_set];by_cases c:i=j
 ·subst c;rw[if_pos ⟨by omega,d⟩,if_pos rfl]
 ·rw[if_neg c];congr 1;simp only[eq_iff_iff];constructor<;>rintro⟨a,b⟩<;>exact⟨by omega,b⟩
theorem abl(s f:Addr)(p:Int×Int×Int)(v r st Z T G O dead:Sl)(g z A dr:List Sl)(E:List (Sl×Row))(known:List Bool)(V W M D:aR)(n nd w:Nat)(H:aa B h0 h (Told s f p v r st Z T G O z A E++HA v g::As))(hS:St B h0 As fun h=>gA h f/\gG h (fun b=>b<h.size) dead 1 aC D dr)(hn:n<=64)(hw:w<=2^20)(bk:nd<=64)(Y:lB E E z A W M)(hV:gC E id g V)(L:V.length=n)(a9:W.length=n)(a7:M.length=n)
  (R:∀c,c<n->(az W c).length=nd/\(az M c).length=w) (a6:D.length=nd) (Q:be w D) (hk:∀(c:Nat) (l:c<g.length),g[c].ptr.isNone=!(known.getD c false)):
  ac vV pE #[vN (some s),vM dead.ptr dead.len dead.cap] h fun v' h'=>v'=.tuple #[]/\∃I a,aa B h0 h' (Told s f p v r st Z T G O z A a++HA v I::As)/\gC a id I (wt nd known V W M D):=by
 refine Cy (some s) dead ?_;unfold rh;have a4:=hV.1;have ao:v.len=n:=by rw[(H.own 4 rfl).len];omega
 have a3:=Y.way.1;have a2:=Y.more.1;refine⟨s,rfl,v,(H.box 0 rfl).cell rfl,?_⟩;refine av (fun t:Nat×List Sl×List (Sl×Row)=>(t.1:Int)) (fun t h'=>t.1<=n/\aa B h0 h' (Told s f p v r st Z T G O z A t.2.2++HA v t.2.1::As)/\gC t.2.2 id t.2.1 (mY nd known V W M D t.1)/\(∀x∈E,x∈t.2.2)/\∀(c:Nat) (l:c<t.2.1.length),t.1<=c->t.2.1[c].ptr.isNone=!(known.getD c false)) (fun t=>n-t.1) (0,g,E) rfl ⟨by omega,H,by rw[abk];exact hV,fun _ h=>h,fun c l _=>hk c l⟩ ?_;rintro⟨i,g,a⟩ h1 ⟨hi,u,U,d,o⟩;dsimp only at*;have bd:(mY nd known V W M D i).length=n:=by simp[mY,L]
 have a5:=U.1;refine ak (fun e=>?_) (fun e=>?_)
 ·have ay:i<n:=by omega
  have F:=u.box 0 rfl;refine⟨s,rfl,v,F.cell rfl,?_⟩;refine(u.seq 4 rfl fun _=>rfl).nX i rfl (by omega) ?_;have J:=o i (by omega) (ql _);refine bg (fun N=>?_) (fun N=>?_)
  ·have q:known.getD i false=true:=by rw[J]at N;simpa using N
   exact⟨(i+1,g,a),by dsimp only;rw[Go.Vc.wrap_small _ (by omega) (by omega)];rfl,⟨by dsimp only;omega,u,by dsimp only;rw[adg nd known V W M D q];exact U,d,fun c l h=>o c l (by dsimp only at h;omega)⟩,by dsimp only;omega⟩
  have q:known.getD i false=false:=by rw[J]at N;simpa using N
  have a0:=R i ay;have ad:((A[i]'(by omega)),az M i)∈a:=by
   have:=(Y.more.mono d).get (i:=i) (by omega);rw[lJ (by omega)];exact this
  have S:((z[i]'(by omega)),az W i)∈a:=by
   have:=(Y.way.mono d).get (i:=i) (by omega);rw[lJ (by omega)];exact this
  refine⟨s,rfl,O,F.cell rfl,?_⟩;refine(u.seq 2 rfl fun _=>rfl).nX i rfl (by omega) ?_;refine(fH _ (az M i) h1 (u.MD 3 rfl ad) (by omega)).mono ?_;rintro _ h2 ⟨b,rfl,R2⟩;have X:=u.cY R2;have a1:=X.box 1 rfl;refine⟨b,rfl,s,rfl,G,a1.cell rfl,?_⟩;refine(X.seq 2 rfl fun _=>rfl).nX i rfl (by omega) ?_;have ax:=(X.MD 4 rfl S).len;refine av (fun j:Nat=>(j:Int)) (fun j h'=>j<=nd/\aa B h0 h' (RA b (gd D (az W i) (az M i) j)::(Told s f p v r st Z T G O z A a++HA v g::As))) (fun j=>nd-j) 0 rfl ⟨by omega,X⟩ ?_;rintro j h3 ⟨hj,P⟩;refine ak (fun e3=>?_) (fun e3=>?_)
  ·have bb:j<nd:=by omega
   have y:j<(az W i).length:=by omega
   refine(P.MD 4 rfl S).bv j rfl y _ rfl ?_;obtain⟨S1,S2⟩:=hS.at [_,_,_,_,_,_] P;have a8:=S2.len;refine S2.top.nX j rfl (by omega) ?_;have ab:(D[j]'(by omega)).length=w:=Q _ (qg _);have K:(az W i)[j]'y=aM (az W i) j:=by rw[aM,qe,qd y];rfl
   have ah:(gd D (az W i) (az M i) j).length=w:=kU _ a0.2 fun k hk=>bZ Q (by omega);rw[K];refine Hz s f (aM (az W i) j) (dr[j]'(by omega)) b (D[j]'(by omega)) _ P (St.mk' fun h' H'=>?_) (by rw[ab,ah]) (by omega) fun h4 H4=>?_
   ·obtain⟨q1,q2⟩:=hS.at [_,_,_,_,_] H';exact⟨(H'.box 0 rfl).cell0 rfl,q1,q2.row _ _ _ (qd _) (qd _)⟩
   ·refine⟨j+1,by rw[Go.Vc.wrap_small _ (by omega) (by omega)];rfl,⟨by omega,?_⟩,by omega⟩;rw[gd,lJ (m:=D) (i:=j) (by omega)];exact H4
  ·have am:j=nd:=by omega
   subst am;refine⟨s,rfl,v,(P.box 1 rfl).cell rfl,?_⟩;refine P.set ae 5 rfl (fun _=>rfl) rfl i rfl (by omega) b rfl rfl rfl fun h4 H4=>?_;have H5:=(H4.freeze 0 rfl fun _=>rfl).pool 4 0 (by decide) rfl rfl;refine⟨(i+1,g.set i b,_),by dsimp only;rw[Go.Vc.wrap_small _ (by omega) (by omega)];rfl,⟨by dsimp only;omega,H5.bo 6 [1,2,3,4,5],?_,fun x hx=>qU _ (d x hx),fun c l h=>?_⟩,by dsimp only;omega⟩
   ·dsimp only;rw[aeP j known V W M D q];exact(U.mono fun x hx=>qU _ hx).set i (by simp)
   ·dsimp only at l h⊢;rw[List.getElem_set_ne (by omega)];exact o c (by simpa using l) (by omega)
 ·have ap:i=n:=by omega
  subst ap;exact⟨rfl,g,a,u,by rw[<-adf nd known V W M D L];exact U⟩
end
section
variable {B:aA} {h0 h:Heap} {As:List HP}
abbrev MA(s:Sl)(m:aR):HP:=fI aF s 1 aC m
abbrev TR:iC Sl Row:=afg (gh 1 aC) fun r _=>r.len<=r.cap
abbrev CA(s:Sl)(m:aR):HP:=dv aF s 1 bI TR m
theorem aa.abm{e:Nat}{s:Sl}{l:Row}(H:aa B h0 h As)(i:Nat)(c:As[i]?=some (an e s 1 aC l)):aa B h0 h (As.set i (EA TR s l)):=
 H.gf i c fun _ ⟨a,b⟩=>⟨a.seq (fun _=>rfl) b,a.cap⟩
theorem YG(s f:Addr)(p:Int×Int×Int)(v r U N O I J:Sl)(m o:List Sl)(Q:List (Sl×Row))(rr:List (Sl×Sl))(R:List eF)(ST:List (Int×Int))(D L:List Int)(W M:aR)(n nd w:Nat)(H:aa B h0 h (Told s f p v r U N O I J m o Q++As))(hS:St B h0 As fun h=>YC h f r U N O rr R ST D L)
  (hn:n=p.1.toNat+p.2.1.toNat) (hp:p.2.2=w) (hw:w<=2^20) (ay:bM p=true) (b4:D.length=nd) (bd:nd<=64) (hR:∀e∈R,il n w e) (b3:∀e∈R,e.1.length<=2^20) (hL:∀i∈L,0<=i/\i<(R.length:Int)) (b9:L.length<=2^20) (hT:lB Q Q m o W M) (ch:W.length=n) (cc:M.length=n)
  (G:∀c,c<n->(az W c).length=nd/\(az M c).length=w):
  ac vV BC #[vN (some s)] h fun v' h'=>∃a b:Sl,v'=.tuple #[vM a.ptr a.len a.cap,vM b.ptr b.len b.cap]/\aa B h0 h' (MA a (dc n nd R W L (bw p.1.toNat p.2.1.toNat))::CA b (fa n w R M L (bw p.1.toNat p.2.1.toNat))::(Told s f p v r U N O I J m o Q++As)):=by
 refine Ac (some s) ?_;unfold oL;have hb:=H.box 0 rfl;have ab:N.len=nd:=by rw[(hS.at [_,_,_,_] H).dead.len,b4]
 have cf:=(bU p).1 ay;have b6:=hT.way.1;have b5:=hT.more.1;refine⟨s,rfl,N,show cellOf h (s.add 7)=_ from hb.cell rfl,s,rfl,O,show cellOf h (s.add 8)=_ from hb.cell rfl,?_⟩;have cr:=(hS.at [_,_,_,_] H).left.len;have a0:∀{h':Heap} {Cs:List HP},aa B h0 h' (Cs++(Told s f p v r U N O I J m o Q++As))->aa B h0 h' (Told s f p v r U N O I J m o Q++As):=fun{h' Cs} T=>T.take Cs.length fun i A hi=>by
  rw[qj (by omega),zk];exact hi
 have SR:∀{h':Heap},aa B h0 h' (Told s f p v r U N O I J m o Q++As)->CY h' s f I J m o W M:=fun T=>CY.of (T.box 0 rfl) (hS.at [_,_,_,_] T).field (T.Ee 1 3 rfl rfl hT.way) (T.Ee 2 3 rfl rfl hT.more);let rA:Int->Row:=fun i=>cB W (aK nd) (R.getD i.toNat ([],[])).1;let rB:Int->Row:=fun i=>cB M (R.getD i.toNat ([],[])).2 (R.getD i.toNat ([],[])).1;have H0:aa B h0 h (MA ⟨none,0,0⟩ []::CA ⟨none,0,0⟩ []::(Told s f p v r U N O I J m o Q++As)):=((H.Rr aF 1 bI TR).bL.KA aF 1 aC).bL;refine av (fun t:Nat×Sl×Sl=>(t.2.1,t.2.2,(t.1:Int))) (fun t h'=>t.1<=L.length/\aa B h0 h' (MA t.2.1 ((L.take t.1).map rA)::CA t.2.2 ((L.take t.1).map rB)::(Told s f p v r U N O I J m o Q++As))) (fun t=>L.length-t.1) (0,⟨none,0,0⟩,⟨none,0,0⟩) rfl ⟨by simp,H0⟩ ?_;rintro⟨i,a,b⟩ h1 ⟨hi,H1⟩;dsimp only at*;refine ak (fun e=>?_) (fun e=>?_)
 ·have F:i<L.length:=by omega
  have G1:=hS.at [_,_,_,_,_,_] H1;refine G1.left.bv i rfl F _ rfl ?_;have hx:=hL _ (qg F);generalize b2:L[i]=x at hx⊢;have E:x.toNat<R.length:=by omega
  obtain⟨d,ap⟩:∃d,d=R[x.toNat]:=⟨_,rfl⟩
  have er:R.getD x.toNat ([],[])=d:=by rw[qe,qd E,ap];rfl
  have ax:=hR d (ap▸qg E);have cn:=b3 d (ap▸qg E);have hF:=G1.rest.2.1;have a9:x.toNat<rr.length:=by rw[hF];exact E
  obtain⟨y,hy⟩:∃y,y=rr[x.toNat]:=⟨_,rfl⟩
  have S:∀{h'},nE iR 2 qv h' r rr R->iR.p h' (fun b=>b<h'.size) y d:=fun hh=>by rw[hy,ap];exact Fix.row hh E
  refine cl (fun t h'=>aa B h0 h' (RA t.1 (aK nd)::RA t.2 d.2::MA a ((L.take i).map rA)::CA b ((L.take i).map rB)::(Told s f p v r U N O I J m o Q++As))) ?_ ?_
  ·have ao:=H1.box 2 rfl;refine⟨s,rfl,r,ao.cell rfl,?_⟩;obtain⟨bk,ha,z,hc,rfl⟩:=G1.rest.1.dD (g:=qv) (i:=x) x.toNat (by omega) a9 y (by rw[hy]) (K:=fun z=>z=y) rfl;refine⟨bk,ha,z.2,hc.2.1,?_⟩;have a3:aq.ok [(s.add 5,vM r.ptr r.len r.cap)] h1:=⟨ao.cell rfl,trivial⟩
   exact TQ (L:=[((bk.add (x.toNat*2)).add 1,vM z.2.ptr z.2.len z.2.cap),(s.add 5,vM r.ptr r.len r.cap)]) (L2:=[(s.add 5,vM r.ptr r.len r.cap)]) (K:=fun a' b' h'=>aq.ok [(s.add 5,vM r.ptr r.len r.cap)] h'/\aa B h0 h' (RA a' (aK nd)::RA b' d.2::MA a ((L.take i).map rA)::CA b ((L.take i).map rB)::(Told s f p v r U N O I J m o Q++As)))
    z.2 d.2 nd _ H1 (by rw[ab]) bd (by rw[ax.len];exact hw) ⟨hc.2.1,a3⟩ a3 (St.mk' fun h' T=>(S (hS.at [_,_,_,_,_,_] T).rest).2) fun a b h' P T=>⟨jE P a3,T⟩
  rintro⟨Y,u⟩ h2 H2;dsimp only at H2;have G2:=hS.at [_,_,_,_,_,_,_,_] H2;refine⟨s,rfl,r,(H2.box 4 rfl).cell rfl,?_⟩;obtain⟨br,ha,z,hc,rfl⟩:=G2.rest.1.dD (g:=qv) (i:=x) x.toNat (by omega) a9 y (by rw[hy]) (K:=fun z=>z=y) rfl;refine⟨br,ha,z.1,hc.1,?_⟩;have bq:=(S G2.rest).1.len;refine av (fun j:Nat=>(j:Int)) (fun j h'=>j<=d.1.length/\aa B h0 h' (RA Y (cB W (aK nd) (d.1.take j))::RA u (cB M d.2 (d.1.take j))::MA a ((L.take i).map rA)::CA b ((L.take i).map rB)::(Told s f p v r U N O I J m o Q++As))) (fun j=>d.1.length-j) 0 rfl ⟨by omega,by simpa[cB]using H2⟩ ?_;rintro j h3 ⟨hj,Z⟩;have told:∀c∈d.1.take j,(az W c.toNat).length=nd/\(az M c.toNat).length=w:=fun c hc=>by
   have cd:=ax.cD c (zK hc);exact G c.toNat (by omega)
  have X:(cB W (aK nd) (d.1.take j)).length=nd:=jk (by simp[aK]) fun c hc=>(told c hc).1;have am:(cB M d.2 (d.1.take j)).length=w:=jk ax.len fun c hc=>(told c hc).2;refine ak (fun e2=>?_) (fun e2=>?_)
  ·have ad:j<d.1.length:=by omega
   have b0:=ax.cD _ (qg ad);refine(S (hS.at [_,_,_,_,_,_,_,_] Z).rest).1.bv j rfl ad _ rfl ?_;have tc:=G d.1[j].toNat (by omega);refine(HB s f 1 d.1[j] Y u I J _ _ m o W M Z (St.mk' fun h' T=>SR (a0 (Cs:=[_,_]) T)) b0.1 (by omega) (by omega) (by rw[tc.1,X]) (by rw[tc.2,am]) (by omega) (by omega)).mono ?_;rintro _ h4 ⟨rfl,V⟩;exact⟨(),rfl,j+1,by rw[Go.Vc.wrap_small _ (by omega) (by omega)];rfl,⟨by omega,by rw[aH _ _ ad,tl,tl];exact V⟩,by omega⟩
  ·have a2:j=d.1.length:=by omega
   subst a2;rw[qR]at Z;have V:=aa.abm (Z.freeze 0 rfl fun _=>rfl) 1 rfl;refine V.uI ae 2 0 (by decide) rfl rfl fq (by simp;omega) fun a' h5 H5=>?_;refine H5.HR ae 3 1 (by decide) rfl rfl fq rfl (by decide) (fun _=>rfl) me rfl (by decide) (by simp;omega) fun b' h6 H6=>?_;refine⟨(i+1,a',b'),by dsimp only;rw[Go.Vc.wrap_small _ (by omega) (by omega)];rfl,⟨by dsimp only;omega,?_⟩,by dsimp only;omega⟩;dsimp only;rw[aH _ _ F,qQ,qQ,b2];have e3:[x].map rA=[cB W (aK nd) d.1]:=by simp only[w4,vn,rA,er]
   have e4:[x].map rB=[cB M d.2 d.1]:=by simp only[w4,vn,rB,er]
   rw[e3,e4];exact H6.bo 8 [2,3,4,5,6,7]
 have a5:i=L.length:=by omega
 subst a5;rw[qR]at H1;have ao:=H1.box 2 rfl;refine⟨s,rfl,p,ao.cells 1 _ rfl,(EX p h1).mono ?_⟩;rintro _ h2 ⟨q,rfl,R2⟩;rw[ay,if_pos rfl]at R2;obtain⟨l,a1⟩:∃l,l=bw p.1.toNat p.2.1.toNat:=⟨_,rfl⟩
 have b7:l.length=p.2.1.toNat:=by rw[a1];simp[bw]
 have bb:∀x∈l,x.length=n:=fun x hx=>by rw[hn];exact KR _ _ x (a1▸hx)
 rw[<-a1]at R2⊢;have H2:=(H1.cY R2).Xb 0 rfl;obtain⟨qr,H2⟩:=H2.Nb 0 rfl fun _=>rfl;have cp:=(H2.eJ 0 rfl).1.len;have cq:=(H2.eJ 0 rfl).2.1;refine⟨q,rfl,?_⟩;let a7:Row->Row:=fun x=>gd W x (aK nd) n;let a6:Row->Row:=fun x=>gd M x (aK w) n;refine av (fun t:Nat×Sl×Sl=>(t.2.1,t.2.2,(t.1:Int))) (fun t h'=>t.1<=l.length/\aa B h0 h' (cH (gh 1 aC) 1 bI q qr l::MA t.2.1 (L.map rA++(l.take t.1).map a7)::CA t.2.2 (L.map rB++(l.take t.1).map a6)::(Told s f p v r U N O I J m o Q++As))) (fun t=>l.length-t.1) (0,a,b) rfl ⟨by simp,by simpa using H2⟩ ?_;rintro⟨i,a,b⟩ h3 ⟨hi,Z⟩;dsimp only at*;refine ak (fun e=>?_) (fun e=>?_)
 ·have F:i<l.length:=by omega
  have bl:=bb _ (qg F);have F3:=Z.eJ 0 rfl;refine F3.1.nX i rfl (by omega) ?_;have bq:(qr[i]'(by omega)).len=n:=by rw[(Fix.row F3 F).len,bl]
  refine cl (fun t h'=>aa B h0 h' (RA t.1 (aK nd)::RA t.2 (aK w)::cH (gh 1 aC) 1 bI q qr l::MA a (L.map rA++(l.take i).map a7)::CA b (L.map rB++(l.take i).map a6)::(Told s f p v r U N O I J m o Q++As))) ?_ ?_
  ·have b1:=Z.box 3 rfl;refine⟨s,rfl,p.2.2,show cellOf h3 (s.add 3)=_ from b1.cell rfl,?_,?_⟩
   ·refine Z.make ae aC fP (by decide) 0 rfl rfl nd nd (by rw[ab]) (by rw[ab]) (ql _) (by omega) fun x h4 _ _ V=>?_;have V:=V.bL;refine⟨⟨show cellOf h4 (s.add 3)=_ from(V.box 4 rfl).cell rfl,trivial⟩,?_⟩;refine V.make ae aC fP (by decide) 0 rfl rfl w w hp hp (ql _) (by omega) fun y h5 _ _ H5=>⟨trivial,H5.bL.uV⟩
   ·refine Z.make ae aC fP (by decide) 0 rfl rfl w w hp hp (ql _) (by omega) fun y h4 _ _ V=>⟨trivial,?_⟩
    refine V.bL.make ae aC fP (by decide) 0 rfl rfl nd nd (by rw[ab]) (by rw[ab]) (ql _) (by omega) fun x h5 _ _ H5=>⟨trivial,H5.bL⟩
  rintro⟨Y,u⟩ h4 V;dsimp only at V⊢;refine av (fun j:Nat=>(j:Int)) (fun j h'=>j<=n/\aa B h0 h' (RA Y (gd W l[i] (aK nd) j)::RA u (gd M l[i] (aK w) j)::cH (gh 1 aC) 1 bI q qr l::MA a (L.map rA++(l.take i).map a7)::CA b (L.map rB++(l.take i).map a6)::(Told s f p v r U N O I J m o Q++As))) (fun j=>n-j) 0 rfl ⟨by omega,V⟩ ?_;rintro j h5 ⟨hj,H5⟩;have X:(gd W l[i] (aK nd) j).length=nd:=kU _ (by simp[aK]) fun k hk=>(G k (by omega)).1;have am:(gd M l[i] (aK w) j).length=w:=kU _ (by simp[aK]) fun k hk=>(G k (by omega)).2;refine ak (fun e2=>?_) (fun e2=>?_)
  ·have ad:j<n:=by omega
   have a4:j<l[i].length:=by omega
   refine(Fix.row (H5.eJ 2 rfl) F).bv j rfl a4 _ rfl ?_;have a8:l[i][j]'a4=aM l[i] j:=by rw[aM,qe,qd a4];rfl
   rw[a8];have tc:=G j ad;refine(HB s f (aM l[i] j) (j:Int) Y u I J _ _ m o W M H5 (St.mk' fun h' T=>SR (a0 (Cs:=[_,_,_]) T)) (by omega) (by omega) (by omega) (by rw[qp,tc.1,X]) (by rw[qp,tc.2,am]) (by omega) (by omega)).mono ?_;rintro _ h6 ⟨rfl,H6⟩;rw[qp]at H6;exact⟨(),rfl,j+1,by rw[Go.Vc.wrap_small _ (by omega) (by omega)];rfl,⟨by omega,H6⟩,by omega⟩
  ·have a2:j=n:=by omega
   subst a2;have H6:=aa.abm (H5.freeze 0 rfl fun _=>rfl) 1 rfl;refine H6.uI ae 3 0 (by decide) rfl rfl fq (by simp;omega) fun a' h7 H7=>?_;refine H7.HR ae 4 1 (by decide) rfl rfl fq rfl (by decide) (fun _=>rfl) me rfl (by decide) (by simp;omega) fun b' h8 H8=>?_;refine⟨(i+1,a',b'),by dsimp only;rw[Go.Vc.wrap_small _ (by omega) (by omega)];rfl,⟨by dsimp only;omega,?_⟩,by dsimp only;omega⟩;dsimp only;rw[aH _ _ F,qQ,qQ,<-qo,<-qo];exact H8.bo 9 [2,3,4,5,6,7,8]
 ·have a5:i=l.length:=by omega
  subst a5;rw[qR]at Z;exact⟨a,b,rfl,Z.rest⟩
end
section
variable {B:aA} {h0 h:Heap} {As:List HP}
theorem HD{α:Type}{g:α->Bool}{l:List α}{i:Nat}(h:i<l.length)(a:∀j (b:j<l.length),j<i->g l[j]=false)(c:g l[i]=true):l.findIdx g=i:=by
 rw[List.findIdx_eq h];exact⟨c,fun j b=>a j (by omega) b⟩
theorem VO(s:Sl)(l:List Int)(b:FuncId)(a:Array Value)(g:Int->Bool)(Q:Heap->Prop)(u:C.fns[b]?=some true)(w:St B h0 As Q)(o:∀x h',Q h'->ac vV b ([Value.int .i64 x]++a.toList).toArray h' fun v p=>v=vP (g x)/\Sp h' p [])(H:aa B h0 h (an aS s 1 aE l::As))(F:l.length<=2^20):
  ac vV sW #[vM s.ptr s.len s.cap,.func (.func b) #[] a] h fun v h'=>v=vL vR (if l.findIdx g<l.length then(l.findIdx g:Int)else-1)/\aa B h0 h' (an aS s 1 aE l::As):=by
 refine gX s (b,#[],a) ?_;unfold fL;have y:=(H.own 0 rfl).len;refine av (fun i:Nat=>(i:Int)) (fun i h'=>aa B h0 h' (an aS s 1 aE l::As)/\i<=l.length/\∀j (m:j<l.length),j<i->g l[j]=false) (fun i=>l.length-i) 0 rfl ⟨H,by omega,fun j _ m=>by omega⟩ ?_;rintro i A ⟨n,D,c⟩;refine ak (fun e=>?_) (fun e=>?_)
 ·have d:i<l.length:=by omega
  refine(n.seq 0 rfl fun _=>rfl).bv i rfl d _ rfl ?_;refine eU u ?_;refine(o l[i] A (w.at [_] n)).mono ?_;rintro _ E ⟨rfl,t⟩;refine⟨_,rfl,bA (fun r=>?_) (fun r=>?_)⟩
  ·rw[HD d c r,if_pos d];exact⟨rfl,n.up t.ai⟩
  ·refine⟨i+1,by rw[Go.Vc.wrap_small _ (by omega) (by omega)];rfl,⟨n.up t.ai,by omega,fun j m q=>?_⟩,by omega⟩;rcases zn.1 q with h3|rfl
   ·exact c j m h3
   ·exact r
 ·have k:¬l.findIdx g<l.length:=by
   rw[ym];rintro⟨x,z,f⟩;obtain⟨j,m,rfl⟩:=qF z;rw[c j m (by omega)]at f;cases f
  rw[if_neg k];exact⟨rfl,n⟩
theorem YH{α:Type}{g:α->Bool}{l:List α}{j:Nat}(h:j<l.findIdx g)(a:j<l.length):g l[j]=false:=by
 simpa using List.not_of_lt_findIdx h
structure lV {α:Type} (g:α->Bool) (l l':List α) (i j:Nat):Prop where
 len:l'.length=l.length
 le:i<=j
 pre:l'.take i=(l.take j).filter fun x=>!g x
 post:l'.drop j=l.drop j
theorem lV.start{α:Type}{g:α->Bool}{l:List α}{i:Nat}(h:i<l.length)(b:l.findIdx g=i):lV g l l i (i+1):=by
 refine⟨rfl,by omega,?_,rfl⟩;have a:g l[i]=true:=by
  have:=List.findIdx_getElem (xs:=l) (p:=g) (w:=by rw[b];exact h);simpa[b]using this
 rw[aH _ _ h,zh,zm,a];have:(l.take i).filter (fun x=>!g x)=l.take i:=wg.2 fun x c=>by
  obtain⟨j,d,rfl⟩:=qF c;simp only[qX]at d;rw[wX,YH (g:=g) (l:=l) (j:=j) (by omega) (by omega)];rfl
 rw[this];simp
theorem lV.at_{α:Type}{g:α->Bool}{l b:List α}{i j:Nat}(x:lV g l b i j)(a:j<l.length):b[j]'(by rw[x.len];exact a)=l[j]:=by
 have h:=congrArg (fun m=>m[0]?) x.post;simp only[wq,yl]at h;rw[qd a,qd (by rw[x.len];exact a)]at h;exact zJ.inj h
theorem lV.keep{α:Type}{g:α->Bool}{l a:List α}{i j:Nat}(x:lV g l a i j)(b:j<l.length)(f:g l[j]=false):lV g l (a.set i l[j]) (i+1) (j+1):=by
 have e:=x.len;have c:=x.le;refine⟨by simp[e],by omega,?_,?_⟩
 ·rw[aH _ _ (by simp;omega),vp,List.take_set_of_le (ql _),x.pre,aH _ _ b,zh,zm,f];rfl
 ·rw[List.drop_set_of_lt (by omega)];have d:=congrArg (vK 1) x.post;simpa[zx]using d
theorem lV.skip{α:Type}{g:α->Bool}{l a:List α}{i j:Nat}(x:lV g l a i j)(b:j<l.length)(f:g l[j]=true):lV g l a i (j+1):=by
 have e:=x.len;have c:=x.le;refine⟨e,by omega,?_,?_⟩
 ·rw[x.pre,aH _ _ b,zh,zm,f];simp
 ·have d:=congrArg (vK 1) x.post;simpa[zx]using d
theorem filter_all{α:Type}{g:α->Bool}{l:List α}(h:¬l.findIdx g<l.length):l.filter (fun x=>!g x)=l:=wg.2 fun x a=>by
 have:g x=false:=by
  cases hh:g x with
  |false=>rfl
  |true=>exact absurd (ym.2 ⟨x,a,hh⟩) h
 rw[this];rfl
theorem TS(s:Sl)(l:List Int)(b:FuncId)(a:Array Value)(g:Int->Bool)(Q:Heap->Prop)(y:C.fns[b]?=some true)(z:St B h0 As Q)(f:∀x h',Q h'->ac vV b ([Value.int .i64 x]++a.toList).toArray h' fun v p=>v=vP (g x)/\Sp h' p [])(H:aa B h0 h (an aS s 1 aE l::As))(L:l.length<=2^20):
  ac vV rG #[vM s.ptr s.len s.cap,.func (.func b) #[] a] h fun v h'=>∃r:Sl,v=vM r.ptr r.len r.cap/\aa B h0 h' (an aS r 1 aE (l.filter fun x=>!g x)::As):=by
 refine pV s (b,#[],a) ?_;unfold kM;refine(VO s l b a g Q y z f H L).mono ?_;rintro _ P ⟨rfl,A⟩;have I:=(H.own 0 rfl).len;have K:=(H.own 0 rfl).cap;refine⟨_,rfl,cx (fun e=>?_) (fun e=>?_)⟩
 ·have o:¬l.findIdx g<l.length:=fun n=>by rw[if_pos n]at e;omega
  exact⟨s,rfl,by rw[filter_all o];exact A⟩
 ·have c:l.findIdx g<l.length:=by
   by_cases n:l.findIdx g<l.length
   ·exact n
   ·rw[if_neg n]at e;exact absurd rfl e
  rw[if_pos c];refine av (fun t:Nat×Nat×List Int=>((t.1:Int),(t.2.1:Int))) (fun t h'=>lV g l t.2.2 t.1 t.2.1/\t.2.1<=l.length/\aa B h0 h' (an aS s 1 aE t.2.2::As)) (fun t=>l.length-t.2.1) (l.findIdx g,l.findIdx g+1,l) (by rw[Go.Vc.wrap_small _ (by omega) (by omega)];rfl) ⟨lV.start c rfl,by dsimp only;omega,A⟩ ?_;rintro⟨i,j,w⟩ F ⟨M2,O,m⟩;dsimp only at*;have D:=M2.len;have E:=M2.le;refine ak (fun M=>?_) (fun M=>?_)
  ·have d:j<l.length:=by omega
   refine(m.seq 0 rfl fun _=>rfl).bv j rfl (by omega) _ rfl ?_;rw[M2.at_ d];refine eU y ?_;refine(f l[j] F (z.at [_] m)).mono ?_;rintro _ h3 ⟨rfl,J⟩;have k:=m.up J.ai;refine⟨_,rfl,bg (fun q=>?_) (fun q=>?_)⟩
   ·refine k.set ae 0 rfl (fun _=>rfl) rfl i rfl (by omega) l[j] rfl rfl rfl fun N G=>?_;exact⟨(i+1,j+1,w.set i l[j]),by dsimp only;rw[Go.Vc.wrap_small _ (by omega) (by omega),Go.Vc.wrap_small _ (by omega) (by omega)];rfl,⟨M2.keep d (by simpa using q),by dsimp only;omega,G⟩,by dsimp only;omega⟩
   ·exact⟨(i,j+1,w),by dsimp only;rw[Go.Vc.wrap_small _ (by omega) (by omega)];rfl,⟨M2.skip d (by simpa using q),by dsimp only;omega,k⟩,by dsimp only;omega⟩
  ·have u:j=l.length:=by omega
   subst u;refine⟨⟨by omega,by omega⟩,?_⟩;rw[qp];refine m.ou ae 0 rfl nw (fun _=>rfl) rfl (by decide) i (by omega) fun h3 k=>⟨⟨by omega,by omega⟩,⟨s.ptr,i,s.cap⟩,rfl,?_⟩
   have:=M2.pre;rw[qR]at this;rw[<-this];exact k
end
section
variable {B:aA} {h0 h:Heap} {As:List HP}
abbrev afZ:bN C.toBR PP cM 2 [vL vR 0,vL vR 0] 16:=⟨_,_,rfl,rfl,rfl,rfl,rfl,rfl⟩
theorem VP(s:Sl)(l:List (Int×Int))(b:FuncId)(a:Array Value)(g:Int×Int->Bool)(Q:Heap->Prop)(u:C.fns[b]?=some true)(w:St B h0 As Q)(o:∀x h',Q h'->ac vV b ([Value.agg #[vL vR x.1,vL vR x.2]]++a.toList).toArray h' fun v p=>v=vP (g x)/\Sp h' p [])(H:aa B h0 h (an cM s 2 fd l::As))(F:l.length<=2^20):
  ac vV lZ #[vM s.ptr s.len s.cap,.func (.func b) #[] a] h fun v h'=>v=vL vR (if l.findIdx g<l.length then(l.findIdx g:Int)else-1)/\aa B h0 h' (an cM s 2 fd l::As):=by
 refine lM s (b,#[],a) ?_;unfold im;have y:=(H.own 0 rfl).len;refine av (fun i:Nat=>(i:Int)) (fun i h'=>aa B h0 h' (an cM s 2 fd l::As)/\i<=l.length/\∀j (m:j<l.length),j<i->g l[j]=false) (fun i=>l.length-i) 0 rfl ⟨H,by omega,fun j _ m=>by omega⟩ ?_;rintro i A ⟨n,D,c⟩;refine ak (fun e=>?_) (fun e=>?_)
 ·have d:i<l.length:=by omega
  refine(n.seq 0 rfl fun _=>rfl).dD (g:=fd) i rfl d l[i] rfl ?_;refine eU u ?_;refine(o l[i] A (w.at [_] n)).mono ?_;rintro _ E ⟨rfl,t⟩;refine⟨_,rfl,bA (fun r=>?_) (fun r=>?_)⟩
  ·rw[HD d c r,if_pos d];exact⟨rfl,n.up t.ai⟩
  ·refine⟨i+1,by rw[Go.Vc.wrap_small _ (by omega) (by omega)];rfl,⟨n.up t.ai,by omega,fun j m q=>?_⟩,by omega⟩;rcases zn.1 q with h3|rfl
   ·exact c j m h3
   ·exact r
 ·have k:¬l.findIdx g<l.length:=by
   rw[ym];rintro⟨x,z,f⟩;obtain⟨j,m,rfl⟩:=qF z;rw[c j m (by omega)]at f;cases f
  rw[if_neg k];exact⟨rfl,n⟩
theorem TT(s:Sl)(l:List (Int×Int))(b:FuncId)(a:Array Value)(g:Int×Int->Bool)(Q:Heap->Prop)(D:C.fns[b]?=some true)(E:St B h0 As Q)(k:∀x h',Q h'->ac vV b ([Value.agg #[vL vR x.1,vL vR x.2]]++a.toList).toArray h' fun v q=>v=vP (g x)/\Sp h' q [])(H:aa B h0 h (an cM s 2 fd l::As))(M:l.length<=2^20):
  ac vV lL #[vM s.ptr s.len s.cap,.func (.func b) #[] a] h fun v h'=>∃r:Sl,v=vM r.ptr r.len r.cap/\aa B h0 h' (an cM r 2 fd (l.filter fun x=>!g x)::As):=by
 refine lx s (b,#[],a) ?_;unfold hO;refine(VP s l b a g Q D E k H M).mono ?_;rintro _ S ⟨rfl,F⟩;have K:=(H.own 0 rfl).len;have L:=(H.own 0 rfl).cap;refine⟨_,rfl,cx (fun e=>?_) (fun e=>?_)⟩
 ·have o:¬l.findIdx g<l.length:=fun n=>by rw[if_pos n]at e;omega
  exact⟨s,rfl,by rw[filter_all o];exact F⟩
 ·have d:l.findIdx g<l.length:=by
   by_cases n:l.findIdx g<l.length
   ·exact n
   ·rw[if_neg n]at e;exact absurd rfl e
  rw[if_pos d];refine av (fun t:Nat×Nat×List (Int×Int)=>((t.1:Int),(t.2.1:Int))) (fun t h'=>lV g l t.2.2 t.1 t.2.1/\t.2.1<=l.length/\aa B h0 h' (an cM s 2 fd t.2.2::As)) (fun t=>l.length-t.2.1) (l.findIdx g,l.findIdx g+1,l) (by rw[Go.Vc.wrap_small _ (by omega) (by omega)];rfl) ⟨lV.start d rfl,by dsimp only;omega,F⟩ ?_;rintro⟨i,j,y⟩ O ⟨M2,P,p⟩;dsimp only at*;have I:=M2.len;have J:=M2.le;refine ak (fun N=>?_) (fun N=>?_)
  ·have f:j<l.length:=by omega
   refine(p.seq 0 rfl fun _=>rfl).dD (g:=fd) j rfl (by omega) l[j] (by rw[M2.at_ f]) ?_;refine p.alloc ae rfl fun a5 h3 c=>?_;have c:=c.bL;refine c.storeAll ae 0 rfl rfl (fd l[j]) rfl rfl rfl rfl fun A m=>?_;refine⟨l[j],(m.box 0 rfl).aQ _ rfl,?_⟩;refine eU D ?_;refine(k l[j] A (E.at [_,_] m)).mono ?_;rintro _ R ⟨rfl,G⟩;have z:=m.up G.ai;have c:=z.KC;refine⟨_,rfl,bg (fun u=>?_) (fun u=>?_)⟩
   ·refine⟨l[j],(z.box 0 rfl).aQ _ rfl,?_⟩;refine c.set ae 0 rfl (fun _=>rfl) rfl i rfl (by omega) l[j] rfl rfl rfl fun A m=>?_;exact⟨(i+1,j+1,y.set i l[j]),by dsimp only;rw[Go.Vc.wrap_small _ (by omega) (by omega),Go.Vc.wrap_small _ (by omega) (by omega)];rfl,⟨M2.keep f (by simpa using u),by dsimp only;omega,m⟩,by dsimp only;omega⟩
   ·exact⟨(i,j+1,y),by dsimp only;rw[Go.Vc.wrap_small _ (by omega) (by omega)];rfl,⟨M2.skip f (by simpa using u),by dsimp only;omega,c⟩,by dsimp only;omega⟩
  ·have w:j=l.length:=by omega
   subst w;refine⟨⟨by omega,by omega⟩,?_⟩;rw[qp];refine p.ou ae 0 rfl afZ (fun _=>rfl) rfl (by decide) i (by omega) fun h3 c=>⟨⟨by omega,by omega⟩,⟨s.ptr,i,s.cap⟩,rfl,?_⟩
   have:=M2.pre;rw[qR]at this;rw[<-this];exact c
end
section
variable {B:aA} {h0 h:Heap} {As:List HP}
def uF(pool:List (Sl×List Int)):HP:=⟨fun h q=>∀x∈pool,Seq h q x.1 1 aE x.2,fun a d x b=>(a x b).ai d,fun a c x b=>(a x b).mono c⟩
theorem aa.abn(H:aa B h0 h As):aa B h0 h (As++[uF []]):=H.comp (.one (aU.refl _ _) fun x a=>by cases a)
theorem aa.adQ(H:aa B h0 h As)(i j:Nat)(b:i≠j){pool:List (Sl×List Int)}{r:Sl}{l:List Int}(e:As[i]?=some (uF pool))(c:As[j]?=some (tu r 1 aE l)):aa B h0 h ((As.set i (uF (pool++[(r,l)]))).set j emp):=
 H.merge i j b e c fun g k _ d f x a=>by
  rcases qE.1 a with a|a
  ·exact(d x a).mono fun _ h=>.inl h
  ·rw[qG]at a;subst a;exact Seq.mono f fun _ h=>.inr h
abbrev aga:bN C.toBR UF oe 1 [vM none 0 0] 24:=⟨_,_,rfl,rfl,rfl,rfl,rfl,rfl⟩
theorem VQ(s d:Addr)(r:Sl)(x:Int×Int)(h':Heap)(e:cellOf h' d=some (vN (some s))/\cellOf h' (s.add 5)=some (vM r.ptr r.len r.cap)):
  ac vV mA ([Value.agg #[vL vR x.1,vL vR x.2]]++(#[Value.pointer (some d)]:Array Value).toList).toArray h' fun v c=>v=vP (decide (x.1>=(r.len:Int)))/\Sp h' c []:=by
 refine uu x d ?_;unfold nh;refine(Sp.refl h').boxed fun a f b=>?_;exact⟨x.1,(b.box 0 rfl).cell0 rfl,some s,rQ e.1 b.ai,s,rfl,r,rQ e.2 b.ai,rfl,.zip b.ai⟩
theorem VR(s b:Addr)(r:Sl)(x:Int)(h':Heap)(c:cellOf h' b=some (vN (some s))/\cellOf h' (s.add 5)=some (vM r.ptr r.len r.cap)):
  ac vV mB ([Value.int .i64 x]++(#[Value.pointer (some b)]:Array Value).toList).toArray h' fun v a=>v=vP (decide (x>=(r.len:Int)))/\Sp h' a []:=by
 refine uv x b ?_;unfold ni;exact⟨some s,c.1,s,rfl,r,c.2,rfl,Sp.refl _⟩
theorem VS(s f:Addr)(p:Int×Int×Int)(v r q m u I K kn:Sl)(G:List (Sl×Sl))(R:List eF)(known:List Bool)(n:Nat)(H:aa B h0 h (SA s (fM f p v r q m u I K)::As))(hS:St B h0 As fun h=>nE iR 2 qv h r G R/\Rd h kn 1 dY known)(ap:known.length=n)(hn:n<=64)(a7:R.length<=2^19)(ax:∀e∈R,e.1.length<=2^20)
  (F:jd (n:Int) (rowsOf R known n)=true) (U:(dh n (rowsOf R known n)).steps.length<=2^20/\(eZ (dh n (rowsOf R known n)).used (rowsOf R known n).length).length<=2^20):
  ac vV Bz #[vN (some s),vM kn.ptr kn.len kn.cap] h fun v' h'=>v'=.tuple #[]/\∃D w A:Sl,aa B h0 h' (SA s (fM f p v r D w A I K)::an cM D 2 fd ((dh n (rowsOf R known n)).steps.filter fun x=>decide (x.1<R.length))::an aS w 1 aE (dh n (rowsOf R known n)).dead::an aS A 1 aE ((eZ (dh n (rowsOf R known n)).used (rowsOf R known n).length).filter fun x=>decide (x<R.length))::As):=by
 refine Aa (some s) kn ?_;unfold oJ;refine H.boxed fun y L S=>?_;have S:=S.bL;refine⟨some s,(S.box 0 rfl).cell0 rfl,s,rfl,r,(S.box 1 rfl).cell rfl,?_⟩;have G1:=hS.at [_,_] S;have ad:=G1.1.1.len;have M:=G1.1.2.1;have X:=G1.2.len;let pre:List HP:=[au y fF [vN (some s)],SA s (fM f p v r q m u I K)]
 have H2:aa B h0 L (an oe ⟨none,0,0⟩ 1 bI []::uF []::au y fF [vN (some s)]::SA s (fM f p v r q m u I K)::As):=((aa.abn S).bL.nil oe 1 bI).bL;refine av (fun t:Nat×Sl=>(t.2,(t.1:Int))) (fun t h'=>t.1<=R.length/\aa B h0 h' (an oe t.2 1 bI ((G.take t.1).map qK)::uF []::au y fF [vN (some s)]::SA s (fM f p v r q m u I K)::As)) (fun t=>R.length-t.1) (0,⟨none,0,0⟩) rfl ⟨by simp,by simpa using H2⟩ ?_;rintro⟨i,o⟩ h3 ⟨hi,H3⟩;dsimp only at*;refine ak (fun e=>?_) (fun e=>?_)
 ·have ay:i<R.length:=by omega
  have G3:=hS.at [_,_,_,_] H3;refine G3.1.1.dD (g:=qv) i rfl (by omega) (G[i]'(by omega)) rfl ?_;refine H3.alloc ae rfl fun a8 h4 z=>?_;have z:=z.bL;refine z.storeAll ae 0 rfl rfl (qv (G[i]'(by omega))) rfl rfl rfl rfl fun h5 J=>?_;refine⟨(G[i]'(by omega)).1,(J.box 0 rfl).cell0 rfl,?_⟩;refine J.KC.push ae 0 rfl aga rfl (by decide) (fun _=>rfl) me (G[i]'(by omega)).1 rfl (by decide) (by simp;omega) fun o' h6 H6=>?_;refine⟨(i+1,o'),by dsimp only;rw[Go.Vc.wrap_small _ (by omega) (by omega)];rfl,⟨by dsimp only;omega,?_⟩,by dsimp only;omega⟩;dsimp only;rw[aH G i (by omega),qQ];exact H6
 have N:i=R.length:=by omega
 subst N;rw[qi (by omega)]at H3;refine av (fun t:Nat×Sl×List Sl=>(t.2.1,(t.1:Int))) (fun t h'=>t.1<=n/\t.2.2.length=(gE known t.1).length/\aa B h0 h' (an oe t.2.1 1 bI (G.map qK++t.2.2)::uF (t.2.2.zip (gE known t.1))::au y fF [vN (some s)]::SA s (fM f p v r q m u I K)::As)) (fun t=>n-t.1) (0,o,[]) rfl ⟨by omega,rfl,by simpa using H3⟩ ?_;rintro⟨i,o,W⟩ h4 ⟨hi,E,z⟩;dsimp only at*;have a6:=Er known i;refine ak (fun e=>?_) (fun e=>?_)
 ·have ay:i<n:=by omega
  have G4:=hS.at [_,_,_,_] z;refine G4.2.bv i rfl (by omega) _ rfl ?_;have ao:known.getD i false=known[i]'(by omega):=by rw[qe,qd (by omega)];rfl
  have O:=Nm known i;rw[ao]at O;refine bA (fun e2=>?_) (fun e2=>?_)
  ·rw[e2,if_pos rfl]at O;refine z.lit ae aE nw rfl [(i:Int)] rfl (show 1*1<=2^20 by decide) rfl fun b h5 J=>?_;have J:=J.bL.freeze 0 rfl fun _=>rfl;have H6:=aa.adQ J 2 0 (by decide) rfl rfl;refine H6.push ae 1 rfl aga rfl (by decide) (fun _=>rfl) me b rfl (by decide) (by simp;omega) fun o' h7 H7=>?_;refine⟨(i+1,o',W++[b]),by dsimp only;rw[Go.Vc.wrap_small _ (by omega) (by omega)];rfl,⟨by dsimp only;omega,by dsimp only;rw[O];simp[E],?_⟩,by dsimp only;omega⟩;dsimp only;rw[O,List.zip_append E,<-qo];exact H7.KC
  ·rw[e2,if_neg (by simp),qP]at O;exact⟨(i+1,o,W),by dsimp only;rw[Go.Vc.wrap_small _ (by omega) (by omega)];rfl,⟨by dsimp only;omega,by dsimp only;rw[O];exact E,by dsimp only;rw[O];exact z⟩,by dsimp only;omega⟩
 have N:i=n:=by omega
 subst N;have G4:=hS.at [_,_,_,_] z;have Q:(rowsOf R known i).length=R.length+W.length:=by rw[rowsOf,qu,qw,E]
 have ah:gG h4 (fun b=>b<h4.size) o 1 aE (rowsOf R known i) (G.map qK++W):=by
  refine⟨z.seq 0 rfl fun _=>rfl,by rw[Q];simp;omega,fun k a l L T=>?_⟩;by_cases hk:k<R.length
  ·rw[qn (by simp;omega),qN,qd (by omega)]at L;rw[rowsOf,qn (by simp;omega),qN,qd hk]at T;simp only[qO,zJ.injEq]at L T;subst L;subst T;exact(Fix.row G4.1 hk).1
  ·rw[qj (by simp;omega)]at L;rw[rowsOf,qj (by simp;omega)]at T;simp only[qw,M]at L T;have hm:(a,l)∈W.zip (gE known i):=by
    refine yw.2 ⟨k-R.length,?_⟩;rw[y6];exact⟨L,T⟩
   exact(z.at 1 rfl) _ hm
 rw[X,ap];refine(abf (i:Int) o (rowsOf R known i) _ h4 ah (by omega) ?_).mono ?_
 ·intro x Y;rcases qE.1 Y with Y|Y
  ·obtain⟨e,he,rfl⟩:=qx.1 Y;have:=ax e he;omega
  ·obtain⟨c,hc,rfl⟩:=qx.1 Y;simp
 rintro _ h5 ⟨D,w,A,rfl,R5⟩;have a0:Ef (i:Int) (rowsOf R known i)=((dh i (rowsOf R known i)).steps,(dh i (rowsOf R known i)).dead,eZ (dh i (rowsOf R known i)).used (rowsOf R known i).length):=by
  unfold Ef;rw[if_pos F,qp]
 rw[a0]at R5;dsimp only at R5;have J:=((z.KC).KC).comp R5;refine⟨((D,w,A),_),rfl,?_⟩;have H6:aa B h0 h5 (an cM D 2 fd (dh i (rowsOf R known i)).steps::an aS w 1 aE (dh i (rowsOf R known i)).dead::an aS A 1 aE (eZ (dh i (rowsOf R known i)).used (rowsOf R known i).length)::au y fF [vN (some s)]::SA s (fM f p v r q m u I K)::As):=aa.front (As:=au y fF [vN (some s)]::SA s (fM f p v r q m u I K)::As) (Bs:=[_,_,_]) J;refine H6.alloc ae rfl fun a3 h7 H7=>?_;have H7:=H7.bL;refine H7.storeAll ae 0 rfl rfl [vM D.ptr D.len D.cap,vM w.ptr w.len w.cap,vM A.ptr A.len A.cap] rfl rfl rfl rfl fun h8 H8=>?_;refine⟨D,(H8.box 0 rfl).cell0 rfl,?_⟩;refine(TT D _ mA #[vN (some y)] (fun x=>decide (x.1>=(r.len:Int))) (fun h'=>cellOf h' y=some (vN (some s))/\cellOf h' (s.add 5)=some (vM r.ptr r.len r.cap)) rfl (St.mk' fun h' V=>⟨(V.box 3 rfl).cell0 rfl,(V.box 4 rfl).cell rfl⟩) (fun x h' hq=>VQ s y r x h' hq) H8.uV U.1).mono ?_;rintro _ h9 ⟨d,rfl,H9⟩;refine⟨d,rfl,?_⟩;refine H9.jD ae 1 rfl rfl [vM d.ptr d.len d.cap] rfl rfl rfl (by simp) fun bb Z=>?_;refine⟨A,(Z.box 1 rfl).cell rfl,?_⟩;have a2:=Z.bo 6 [3,0,1,2,4,5];refine(TS A _ mB #[vN (some y)] (fun x=>decide (x>=(r.len:Int))) (fun h'=>cellOf h' y=some (vN (some s))/\cellOf h' (s.add 5)=some (vM r.ptr r.len r.cap)) rfl (St.mk' fun h' V=>⟨(V.box 3 rfl).cell0 rfl,(V.box 4 rfl).cell rfl⟩) (fun x h' hq=>VR s y r x h' hq) a2 U.2).mono ?_;rintro _ a9 ⟨j,rfl,am⟩;refine⟨j,rfl,?_⟩;refine am.store ae 2 rfl rfl 2 [vM j.ptr j.len j.cap] rfl rfl rfl (by simp) fun a5 P=>?_;refine⟨some s,(P.box 4 rfl).cell0 rfl,(d,w,j),(P.box 2 rfl).aQ _ rfl,s,rfl,?_⟩;refine P.store ae 5 rfl rfl 6 [vM d.ptr d.len d.cap,vM w.ptr w.len w.cap,vM j.ptr j.len j.cap] rfl rfl rfl (by simp[fM]) fun a4 ab=>⟨rfl,d,w,j,?_⟩
 have e1:(fun x:Int×Int=>!decide (x.1>=(r.len:Int)))=fun x=>decide (x.1<(R.length:Int)):=by
  funext x;rw[ad,M];by_cases h:x.1<(R.length:Int)
  ·rw[decide_eq_true h,decide_eq_false (by omega)];rfl
  ·rw[decide_eq_false h,decide_eq_true (by omega)];rfl
 have e2:(fun x:Int=>!decide (x>=(r.len:Int)))=fun x=>decide (x<(R.length:Int)):=by
  funext x;rw[ad,M];by_cases h:x<(R.length:Int)
  ·rw[decide_eq_true h,decide_eq_false (by omega)];rfl
  ·rw[decide_eq_false h,decide_eq_true (by omega)];rfl
 rw[e1,e2]at ab;exact ab.bo 6 [5,1,3,0]
end
theorem aeQ(h:Heap)(x:UInt8):ac vV ET #[vL vS x.toNat] h fun v h'=>v=vP (x !=0)/\h'=h:=by
 refine NY _ ?_;unfold GY;refine⟨?_,rfl⟩;congr 1;by_cases a:x=0
 ·subst a;rfl
 ·have:((x.toNat:Nat):Int)≠0:=fun b=>a (DX.1 b);rw[bne_iff_ne.2 a];exact bne_iff_ne.2 this
theorem abo(a:Sl)(l:Row)(h:Heap)(o:Rd h a 1 aC l)(u:l.length<=2^30):ac vV UZ #[vM a.ptr a.len a.cap] h fun v h'=>v=vL vR (if lS l<l.length then(lS l:Int)else-1)/\h'=h:=by
 refine SL a ?_;unfold LI;refine(pH a (ET,#[],#[]) (R:=fun v h'=>v=vL vR (if lS l<l.length then(lS l:Int)else-1)/\h'=h) ?_).mono ?_
 ·unfold kA;have q:=o.len;refine av (fun i:Nat=>(i:Int)) (fun i h'=>h'=h/\i<=l.length/\∀j (c:j<l.length),j<i->l[j]=0) (fun i=>l.length-i) 0 rfl ⟨rfl,by omega,fun j _ c=>by omega⟩ ?_;rintro i p ⟨rfl,s,b⟩;refine ak (fun e=>?_) (fun e=>?_)
  ·have d:i<l.length:=by omega
   refine o.bv i rfl d _ rfl ?_;refine eU (by rfl) ?_;refine(aeQ p l[i]).mono ?_;rintro v t ⟨rfl,rfl⟩;refine⟨_,rfl,bA (fun n=>?_) (fun n=>?_)⟩
   ·have k:lS l=i:=by
     rw[lS,List.findIdx_eq d];exact⟨n,fun j c=>by simp[b j (by omega) c]⟩
    rw[k,if_pos d];exact⟨rfl,rfl⟩
   ·refine⟨i+1,by rw[wrap_small _ (by omega) (by omega)];rfl,⟨rfl,by omega,fun j c m=>?_⟩,by omega⟩;rcases zn.1 m with h3|rfl
    ·exact b j c h3
    ·simpa using n
  ·have g:¬lS l<l.length:=by
    rw[lS,ym];rintro⟨x,r,f⟩;obtain⟨j,c,rfl⟩:=qF r;rw[b j c (by omega)]at f;simp at f
   rw[if_neg g];exact⟨rfl,rfl⟩
 ·rintro v p ⟨rfl,rfl⟩;exact⟨_,rfl,rfl,rfl⟩
theorem PF{l:Row}:¬lS l<l.length↔l=aK l.length:=by
 rw[lS,ym];constructor
 ·intro h;refine vq.2 ⟨rfl,fun x b=>?_⟩;by_cases a:x=0
  ·exact a
  ·exact absurd ⟨x,b,by simpa using a⟩ h
 ·rintro h ⟨x,b,a⟩;have:=(vq.1 h).2 x b;subst this;simp at a
theorem VT(f:Addr)(a b:Sl)(A B:aR)(m n w:Nat)(h:Heap)(hf:gA h f)(ha:gg h a 1 aC A)(hb:gg h b 1 aC B)(hl:A.length=m)(bk:B.length=m)(u:be n A)(hB:be w B)(b1:1<=n)(hn:n+w<=64)(hm:m<=2^20)(hr:cG A=n):
  ac vV GJ #[vN (some f),vM a.ptr a.len a.cap,vM b.ptr b.len b.cap] h fun v h'=>(kj n A B/\∃r:Sl,v=.tuple #[vM r.ptr r.len r.cap,vL vR 0]/\Sp h h' [fI aF r 1 aC (fw n A B)])∨(¬kj n A B/\v=.tuple #[vM none 0 0,vL vR 10]/\Sp h h' []):=by
 have bb:n<=m:=by have:=pe A u;omega
 have d:B.length=A.length:=by omega
 have ax:=ha.len;have P:=hb.len;refine EM (some f) a b ?_;unfold Bx;refine ba ?_;refine(mG a A n h ha u (by omega) (by omega)).mono ?_;rintro v Z ⟨rfl,rfl⟩;refine⟨_,rfl,bg (fun e=>by cases e) fun _=>?_⟩;refine(mG b B w Z hb hB (by omega) (by omega)).mono ?_;rintro v W ⟨rfl,rfl⟩;refine⟨_,rfl,bg (fun e=>by cases e) fun _=>?_⟩;refine bQ (fun e=>absurd (by rw[ax,P,d]) e) fun _=>?_;refine cx (fun e=>by omega) fun _=>?_;refine(rP a A W ha).mono ?_;rintro v h3 ⟨rfl,rfl⟩;have ap:fG A=n:=by
  cases A with
  |nil=>simp at hl;omega
  |cons x t=>rw[fG,bt (by simp)];exact u _ (by simp)
 refine⟨_,rfl,?_⟩;rw[ap];refine(xC a A n h3 ha u (by omega) (by omega)).mono ?_;rintro v h4 ⟨r,rs,rfl,bd,R4⟩;refine⟨r,rfl,?_⟩;have a4:=(R4.own 0 rfl).len;refine av (fun t:Nat×List Sl=>(t.1:Int)) (fun t h'=>t.1<=m/\t.2.length=m/\Sp h3 h' (ny r t.2 (oP A B t.1))) (fun t=>m-t.1) (0,rs) rfl ⟨by simp,by dsimp only;omega,by simpa[oP,dS]using R4⟩ ?_;rintro⟨k,rs⟩ h5 ⟨hk,bl,K⟩;dsimp only at*;have V:rs.length=(oP A B k).length:=by rw[te d];omega
 refine ak (fun e=>?_) (fun e=>?_)
 ·have L:k<m:=by omega
  have U:k<A.length:=by omega
  have F:=oN (a:=r) V k (by rw[te d];omega);have eg:(oP A B k)[k]'(by rw[te d];omega)=A[k]:=by
   have:=aaD d U;rw[qd (by rw[te d];omega)]at this;exact zJ.inj this
  rw[eg]at F;have l1:A[k].length=n:=u _ (qg _);have l2:(B[k]'(by omega)).length=w:=hB _ (qg _);refine(K.seq 0 rfl (fun _=>rfl)).oV k rfl (by omega) fun a1 Q H=>?_;refine(hb.up K.ai).get k rfl (by omega) fun rb am=>?_;refine K.append ae (k+1) F fP Tt rfl (by decide) (fun _=>rfl) am ge (by omega) fun s6 h6 H6=>⟨trivial,?_⟩
  refine H6.set ae 0 rfl (fun _=>rfl) rfl k rfl (by omega) s6 rfl rfl rfl fun h7 H7=>⟨trivial,?_⟩
  refine⟨(k+1,rs.set k s6),by dsimp only;rw[Go.Vc.wrap_small _ (by omega) (by omega)];rfl,⟨by dsimp only;omega,by dsimp only;simp;omega,?_⟩,by dsimp only;omega⟩;dsimp only;rw[<-aaE d U];show Sp h3 h7 (an aF r 1 bI (rs.set k s6)::bP aD 1 aC (rs.set k s6) ((oP A B k).set k _));rw[<-lC V];exact H7
 ·have ao:k=A.length:=by omega
  subst ao;rw[aaF d]at K;refine(tJ f h5).mono ?_;rintro v h6 ⟨rfl,rfl⟩;refine⟨some f,rfl,?_⟩;have G:=mj d.symm u hB;have a8:=lD d.symm;refine(BJ (m:=dS A B) (n:=n+w) hf hf.lt (by omega) G (by omega) (by omega) (by omega) K).mono ?_;rintro v h7 ⟨l,rfl,a5,q⟩;rw[Jx d.symm u,hr];refine⟨_,rfl,?_⟩;dsimp only;have R:=(q.own 0 rfl).cap;have b0:=(q.own 0 rfl).len;have W:=ia G n;refine ak (fun e=>absurd (show(n:Int)<(n:Int)from e) (by omega)) fun _=>?_;refine⟨⟨zT _,yD.2 (show n<=r.len by omega)⟩,?_⟩;obtain⟨M,J⟩:∃M,M=(bC (dS A B) n).2:=⟨_,rfl⟩
  have a9:M.length=A.length:=by have:=W.2;rw[<-J]at this;omega
  have X:be (n+w) M:=by rw[J];exact W.1
  rw[<-J]at q;have Y:l.length=M.length:=by omega
  have p:kj n A B↔∀i (T:i<M.length),n<=i->M[i]=aK M[i].length:=by
   unfold kj;rw[<-J];constructor
   ·intro hc i T hn;refine hc _ (yw.2 ⟨i-n,?_⟩);rw[wq,show n+(i-n)=i by omega,qd T]
   ·intro hc x hx;obtain⟨i,T,rfl⟩:=qF hx;simp only[qY]at T;rw[zR];exact hc _ (by omega) (by omega)
  refine av (fun i:Nat=>(i:Int)) (fun i h'=>h'=h7/\n+i<=M.length/\∀j (hj:j<M.length),n<=j->j<n+i->M[j]=aK M[j].length) (fun i=>M.length-(n+i)) 0 rfl ⟨rfl,by omega,fun j _ _ _=>by omega⟩ ?_;rintro i h8 ⟨rfl,T,o⟩;rw[qp];refine ak (fun e=>?_) (fun e=>?_)
  ·have g:n+i<M.length:=by omega
   have F:=oN (a:=r) Y (n+i) (by omega);have ad:(M[n+i]'g).length=n+w:=X _ (qg _);have y:=q.seq (n+i+1) F (fun _=>rfl);have E:=(q.seq 0 rfl (fun _=>rfl)).drop n R;have ab:(l.drop n)[i]'(by simp;omega)=l[n+i]'(by omega):=zR;refine E.oV i rfl (by simp;omega) fun a1 Q H=>?_;rw[ab];refine(abo _ _ h8 y (by omega)).mono ?_;rintro _ h9 ⟨rfl,rfl⟩;refine⟨_,rfl,ak (fun N=>?_) (fun N=>?_)⟩
   ·right;have D:lS (M[n+i]'g)<(M[n+i]'g).length:=by
     by_cases hh:lS (M[n+i]'g)<(M[n+i]'g).length
     ·exact hh
     ·rw[if_neg hh]at N;exact absurd N (by decide)
    refine⟨fun hc=>?_,rfl,.zip q.ai⟩;have:=p.1 hc (n+i) g (by omega);exact absurd D (PF.2 this)
   ·have D:¬lS (M[n+i]'g)<(M[n+i]'g).length:=fun hh=>by
     rw[if_pos hh]at N;exact N (zT _)
    refine⟨i+1,by rw[Go.Vc.wrap_small _ (by omega) (by omega)];rfl,⟨rfl,by omega,fun j hj Z W=>?_⟩,by omega⟩;by_cases a3:j=n+i
    ·subst a3;exact PF.1 D
    ·exact o j hj Z (by omega)
  refine⟨⟨zT _,yD.2 (show n<=r.cap by omega)⟩,?_⟩;have z:kj n A B:=p.2 fun j hj Z=>o j hj Z (by omega);have e1:fw n A B=(M.take n).map (vK n):=by rw[fw,<-J]
  have S:∀k (hk:k<n),(fw n A B).take (k+1)=(fw n A B).take k++[(M[k]'(by omega)).drop n]:=fun k hk=>by
   rw[e1,aH _ _ (by simp;omega),zY,wX]
  have bq:(fw n A B).length=n:=(uM d.symm u hB hr).1;refine av (fun t:Sl×Nat=>(t.1,(t.2:Int))) (fun t h'=>t.2<=n/\Sp h8 h' [fI aF t.1 1 aC ((fw n A B).take t.2)]) (fun t=>n-t.2) (⟨none,0,0⟩,0) rfl ⟨by simp,(Sp.refl h8).KA aF 1 aC⟩ ?_;rintro⟨s,k⟩ h9 ⟨br,H9⟩;dsimp only at*;have HH:=q.comp H9;refine ak (fun e=>?_) (fun e=>?_)
  ·have L:k<n:=by omega
   have F:=oN (a:=r) Y k (by omega);have O:(ny r l M++[fI aF s 1 aC ((fw n A B).take k)])[k+1]?=some (an aD (l[k]'(by omega)) 1 aC (M[k]'(by omega))):=by
    rw[qn (by simp[bP];omega)];exact F
   have ad:(M[k]'(by omega)).length=n+w:=X _ (qg _);have I:=HH.own (k+1) O;have y:=HH.seq (k+1) O (fun _=>rfl);have a6:=I.len;have E:=(HH.seq 0 rfl (fun _=>rfl)).take n (by omega);have ay:(l.take n)[k]'(by simp;omega)=l[k]'(by omega):=wX;refine E.oV k rfl (by simp;omega) fun a1 Q H=>?_;rw[ay];refine⟨⟨zT _,yD.2 (by omega)⟩,?_⟩;refine(fH _ _ h9 (y.drop n I.cap) (by simp;omega)).mono ?_;rintro v b2 ⟨c,rfl,a0⟩;have ah:=(H9.comp a0).freeze 1 rfl (fun _=>rfl);refine⟨c,rfl,?_⟩;refine ah.uI ae 0 1 (by decide) rfl rfl fq (by simp;omega) fun s' a7 a2=>?_;refine⟨(s',k+1),by dsimp only;rw[Go.Vc.wrap_small _ (by omega) (by omega)];rfl,⟨by dsimp only;omega,?_⟩,by dsimp only;omega⟩;dsimp only;rw[S k L];exact a2.del 1
  ·rw[qi (by omega)]at H9;refine .inl ⟨z,s,rfl,?_⟩;have:=(Sp.zip q.ai).comp H9;exact this
section
variable {B:aA} {h0 h:Heap} {As:List HP}
theorem TU:∀{l:List Int},l.Pairwise (·<·)->fb l=true
 |[],_=>rfl
 |[_],_=>rfl
 |a::b::r,h=>by
  rw[zL]at h;rw[fb,TU h.2,decide_eq_true (h.1 b (by simp))];rfl
theorem YI{l:List Int}(h:l.Pairwise (·<·)):Ot l:=fun i a=>zq.1 h i (i+1) (by omega) a (by omega)
theorem YJ{n:Nat}{R:List eF}{known:List Bool}(h:n<=64)(b:∀e∈R,(∀c∈e.1,0<=c/\c<(n:Int))/\e.1.Pairwise (·<·)):jd (n:Int) (rowsOf R known n)=true:=by
 unfold jd;rw[qy];refine⟨by simp;omega,qM.2 fun r a=>?_⟩;unfold fc;rw[qy];rcases qE.1 a with a|a
 ·obtain⟨e,f,rfl⟩:=qx.1 a;exact⟨qM.2 fun c g=>by simpa using(b e f).1 c g,TU (b e f).2⟩
 ·obtain⟨d,rfl,i,_⟩:=Ay a;exact⟨by simp;omega,rfl⟩
theorem aa.agb{e:Nat}{v:Sl}{vs:aR}(H:aa B h0 h As)(i:Nat)(p:As[i]?=some (dv e v 1 bI (tv 1 aC) vs)):
  ∃f:List Sl,aa B h0 h (As.set i (an e v 1 bI f)++[km (f.zip vs)])/\f.length=vs.length/\∀(c:Nat) (o:c<f.length) (n:c<vs.length),f[c].ptr.isNone=vs[c].isEmpty:=by
 have g:i<As.length:=(qm.1 p).1;have u:aa B h0 h (As.set i (HP.ex fun f:List Sl=>((an e v 1 bI f).sep (km (f.zip vs))).and (f.length=vs.length/\∀(c:Nat) (o:c<f.length) (n:c<vs.length),f[c].ptr.isNone=vs[c].isEmpty))):=
  H.gf i p fun q ⟨rs,D,a,b,c,d,e⟩=>⟨rs,⟨fun b=>v.on b,D,fun x j=>(b x j).2,fun x j=>(b x j).1,c,⟨a,fun x j=>j⟩,fun x j=>by
   obtain⟨k,A,l⟩:=qF j;simp only[List.length_zip]at A;rw[yK]at l;subst l;exact(e k _ _ (qd (by omega)) (qd (by omega))).1⟩,d,fun k o n=>by
   obtain⟨x,y⟩:=e k _ _ (qd o) (qd n);cases hv:vs[k]with
   |nil=>rw[y hv];rfl
   |cons z t=>
    have:=x.isSome (by rw[hv];simp);rw[this];rfl⟩
 obtain⟨f,m⟩:=u.WZ i (zy g);rw[yY]at m;have w:=m.fact i (zy g);have r:=m.adB i (zy g);rw[yY]at r;have s:=r.split i (zy g);rw[yY]at s;exact⟨f,s,w⟩
def yv(x:Int×Sl):List Value:=[vL vR x.1,vM x.2.ptr x.2.len x.2.cap]
def agN:iC (Int×Sl) (Int×Row):=⟨fun h q a b=>a.1=b.1/\Seq h q a.2 1 aC b.2,fun a d=>⟨a.1,a.2.ai d⟩,fun a c=>⟨a.1,a.2.mono c⟩⟩
abbrev MI:iC Sl (List (Int×Row)):=cm agN 2 yv
end
theorem YK{a:List Sl}{vs:aR}(h:a.length=vs.length)(b:List (Sl×Row))(c:∀x∈a.zip vs,x∈b):gC b id a vs:=
 ⟨h,fun i r l d e=>c _ (yw.2 ⟨i,by rw[y6];exact⟨d,e⟩⟩)⟩
theorem TV{α β:Type}:∀(a:List α) (x:α) (l:List β) (h:a.length<l.length),(a++[x]).zip l=a.zip l++[(x,l[a.length])]
 |[],x,b::l,_=>by simp
 |c::a,x,b::l,h=>by
  have:=TV a x l (by simpa using h);simp[this]
def adR(h h':Heap)(v:Value)(n:Nat)(A a:aR):Prop:=
 (kj n A a/\∃r:Sl,v=.tuple #[vM r.ptr r.len r.cap,vL vR 0]/\Sp h h' [MA r (fw n A a)])∨(¬kj n A a/\v=.tuple #[vM none 0 0,vL vR 10]/\Sp h h' [])
theorem adh(p:Pm)(seed:Int)(l:Sl)(syms:List (Int×Row))(n w:Nat)(h:Heap)(hl:fA MI h l syms)(y:bM p=true)(b2:∀x∈syms,Az p x)(hn:(bX p).toNat=n)(hw:p.2.2.toNat=w)(es:syms.length<=2^18)(hr:cG (dI p seed (syms.map qK))=n):
  ac vV Qi #[kB p,vL vT seed,vM l.ptr l.len l.cap] h fun v h'=>adR h h' v n (dI p seed (syms.map qK)) (rC p syms):=by
 refine NI p seed l ?_;unfold GG;have ep:=(bU p).1 y;have du:bX p=n:=by rw[<-hn];have:=ry y;omega
 have b7:n=p.1.toNat+p.2.1.toNat:=by rw[<-hn,ry y];omega
 have b5:p.2.2=(w:Int):=by omega
 have c7:1<=n:=by omega
 have b6:n<=20:=by omega
 obtain⟨U,d0,en,cf⟩:=cm.oW hl;have et:=cm.len hl;let d:List eF:=un n seed syms;have ek:d.length=syms.length:=by simp[d,un]
 have J:=afv (seed:=seed) c7 b6 b2 hw;let u:Nat->List (List Int):=fun i=>(syms.take i).map fun x=>cV n seed x.1;have ax:∀x:Int×Row,x∈syms->(bM p&&bR x.1)=true:=fun x hx=>by rw[y,(b2 x hx).id];rfl
 refine(Sp.refl h).boxed fun a1 K H1=>?_;have ds:Sp h K [an dG ⟨none,0,0⟩ 2 qv [],uF [],au a1 aT [vL vR p.1,vL vR p.2.1,vL vR p.2.2]]:=((aa.abn H1).nil dG 2 qv).bV [2,1,0];refine av (fun t:Nat×Sl×List Sl=>(t.2.1,(t.1:Int))) (fun t h'=>t.1<=syms.length/\t.2.2.length=t.1/\Sp h h' [an dG t.2.1 2 qv (t.2.2.zip (U.map zA)),uF (t.2.2.zip (u t.1)),au a1 aT [vL vR p.1,vL vR p.2.1,vL vR p.2.2]]) (fun t=>syms.length-t.1) (0,⟨none,0,0⟩,[]) rfl ⟨by simp,rfl,ds⟩ ?_;rintro⟨i,o,cr⟩ h2 ⟨hi,b3,H2⟩;dsimp only at*;have cc:(u i).length=i:=by simp[u];omega
 refine ak (fun e=>?_) (fun e=>?_)
 ·have Y:i<syms.length:=by omega
  obtain⟨y1,y2⟩:=cf i (by omega) Y;refine(Seq.up d0 H2.ai).dD (g:=yv) i rfl (by omega) (U[i]'(by omega)) rfl ?_;refine H2.alloc ae rfl fun a5 h3 H3=>?_;refine H3.storeAll ae 3 rfl rfl (yv (U[i]'(by omega))) rfl rfl rfl rfl fun h4 P=>?_;refine⟨p,(P.box 2 rfl).aQ _ rfl,(U[i]'(by omega)).1,(P.box 3 rfl).cell0 rfl,(U[i]'(by omega)).2,(P.box 3 rfl).cell rfl,?_⟩;refine(AN p seed (U[i]'(by omega)).1 h4).mono ?_;rintro _ h5 ⟨r,rfl,R5⟩;rw[y1,ax _ (qg Y),if_pos rfl,hn]at R5;have H5:=(P.comp R5).freeze 4 rfl fun _=>rfl;refine⟨r,rfl,⟨(H5.box 3 rfl).cell rfl,trivial⟩,?_⟩;have H6:=aa.adQ H5 1 4 (by decide) rfl rfl;have ef:=H6.box 3 rfl;refine H6.rp ae qv eQ rfl [(r,(U[i]'(by omega)).2)] rfl (show 1*2<=2^20 by decide) rfl ⟨ef.cell rfl,trivial⟩ ?_;refine H6.push ae 0 rfl eQ rfl (by decide) (fun _=>rfl) aaW (r,(U[i]'(by omega)).2) rfl (by decide) (by simp;omega) fun o' h7 H7=>?_;refine⟨⟨(H7.box 3 rfl).cell rfl,trivial⟩,?_⟩;refine⟨(i+1,o',cr++[r]),by dsimp only;rw[Go.Vc.wrap_small _ (by omega) (by omega)];rfl,⟨by dsimp only;omega,by simp[b3],?_⟩,by dsimp only;omega⟩;dsimp only;have e1:u (i+1)=u i++[cV n seed syms[i].1]:=by simp only[u];rw[aH _ _ Y,qQ];rfl
  have e2:(cr++[r]).zip (U.map zA)=cr.zip (U.map zA)++[(r,(U[i]'(by omega)).2)]:=by
   rw[TV cr r (U.map zA) (by simp;omega),zY];simp only[b3]
  rw[e1,e2,List.zip_append (by rw[b3,cc])];exact H7.bV [0,1,2]
 have d1:i=syms.length:=by omega
 subst d1;have ec:u syms.length=syms.map fun x=>cV n seed x.1:=by simp only[u];rw[qR]
 rw[ec]at H2;have c8:∀{h':Heap},(∀x∈cr.zip (syms.map fun x=>cV n seed x.1),Vc.Seq h' (fun b=>b<h'.size) x.1 1 aE x.2)->aU (fun b=>b<h.size) h h'->Vc.Seq h' (fun b=>b<h'.size) o 2 qv (cr.zip (U.map zA))->fA pQ h' o d:=fun{h'} hp hpr hs=>by
  refine⟨_,hs,by simp[d,un];omega,fun k a b K h2=>?_⟩;have hk:k<syms.length:=by have:=(qm.1 h2).1;omega
  rw[qd (by simp;omega),yK,zY]at K;have e2:d[k]?=some (cV n seed syms[k].1,syms[k].2):=by simp[d,un,hk]
  rw[e2]at h2;simp only[zJ.injEq]at K h2;subst K;subst h2;refine⟨hp (cr[k]'(by omega),cV n seed syms[k].1) (yw.2 ⟨k,?_⟩),Seq.up (cf k (by omega) hk).2 hpr⟩;rw[y6];exact⟨qd _,by simp[hk]⟩
 refine cl (fun s h'=>∃(ay f:Addr),s=some ay/\Sp h h' [SA ay (fM f p ⟨none,0,0⟩ ⟨none,0,0⟩ ⟨none,0,0⟩ ⟨none,0,0⟩ ⟨none,0,0⟩ ⟨none,0,0⟩ ⟨none,0,0⟩),an dG o 2 qv (cr.zip (U.map zA)),uF (cr.zip (syms.map fun x=>cV n seed x.1)),au a1 aT [vL vR p.1,vL vR p.2.1,vL vR p.2.2],au f gu di]) ?_ ?_
 ·refine⟨p,(H2.box 2 rfl).aQ _ rfl,(uC h2).mono ?_⟩;rintro _ h3 ⟨f,rfl,R3⟩;have H3:=H2.comp R3;refine⟨some f,rfl,⟨(H3.box 2 rfl).cell0 rfl,(H3.box 2 rfl).cell rfl,(H3.box 2 rfl).cell rfl,trivial⟩,?_⟩;refine H3.boxed fun ay h4 P=>?_;exact⟨⟨(P.box 2 rfl).cell0 rfl,(P.box 2 rfl).cell rfl,(P.box 2 rfl).cell rfl,trivial⟩,ay,f,rfl,P.bV [4,0,1,2,3]⟩
 rintro _ h3 ⟨s,f,rfl,H3⟩;refine⟨p,(H3.box 3 rfl).aQ _ rfl,(lA p h3).mono ?_⟩;rintro _ h4 ⟨rfl,R4⟩;have P:=H3.up R4.ai;refine⟨_,rfl,?_⟩;rw[du];have d5:fA pQ h4 o d:=c8 (P.at 2 rfl) P.ai (P.seq 1 rfl fun _=>rfl);have cp:∀e∈d,e.1.length<=2^20:=fun e B=>by
  obtain⟨x,hx,rfl⟩:=qx.1 B;have:=Ak c7 b6 seed x.1;dsimp only;omega
 refine(abb o d n w h4 d5 (fun e B=>⟨(J e B).1,YI (J e B).2⟩) (by omega) (by omega) ⟨by omega,by omega⟩ cp).mono ?_;have hA:be n (bw p.1.toNat p.2.1.toNat):=by rw[b7];exact KR _ _
 have eA:=XA (seed:=seed) y hn b2;have eB:=XB (seed:=seed) (n:=n) (p:=p) (l:=syms) hw;rw[<-eA]at hr⊢;rw[<-eB];rintro _ h5 ⟨known,vals,hI,⟨ax,rfl,R5⟩|⟨ax,k,v,rs,rfl,R5⟩⟩
 ·refine⟨(⟨none,0,0⟩,⟨none,0,0⟩,⟨none,0,0⟩,10),rfl,bQ (fun _=>?_) (fun e=>absurd e (by decide))⟩;exact .inr ⟨ZS (fun e B=>(J e B).1) hA hI ax hr,rfl,(P.up R5.ai).bV []⟩
 refine⟨(k,v,rs,0),rfl,bQ (fun e=>absurd rfl e) (fun _=>?_)⟩;have S:=acn (fun e B=>(J e B).1) hA hI ax;have F:=OT (fun e B=>(J e B).1) hI;obtain⟨f1,f2,f3,f4,f5⟩:=KV (fun e B=>(J e B).1) hI;have H:=ox hI (fun e B=>(J e B).1);have bd:=aeq (known:=known) (vals:=vals) (fun e B=>(J e B).2);have ea:=ZT (l:=d) (known:=known) (vals:=vals);have a8:=ZU (known:=known) (vals:=vals) cp;have ch:=hI.vlen;have d2:=hI.klen;unfold QP at S;obtain⟨R,a7⟩:∃R,R=aW known vals d:=⟨_,rfl⟩
 change gb n w d _ known vals _ _ _ _ at S;rw[<-a7]at S F f1 f2 f3 f4 f5 H bd ea a8 R5;obtain⟨O,H6,c9,c0⟩:=aa.agb (P.comp R5) 6 rfl;obtain⟨rr,H7⟩:=aa.Nb H6 7 rfl fun _=>rfl;have H8:=aa.aeO H7 8 rfl;have H9:Sp h h5 [SA s (fM f p ⟨none,0,0⟩ ⟨none,0,0⟩ ⟨none,0,0⟩ ⟨none,0,0⟩ ⟨none,0,0⟩ ⟨none,0,0⟩ ⟨none,0,0⟩),km ((⟨none,0,0⟩,[])::O.zip vals),HA v O,cH iR 2 qv rs rr R,an gq k 1 dY known,au f gu di]:=aa.bV H8 [0,8,6,7,5,4];have b0:v.len=n:=by rw[(H9.own 2 rfl).len];omega
 have hk:∀(c:Nat) (hc:c<O.length),O[c].ptr.isNone=!(known.getD c false):=fun c hc=>by
  rw[c0 c hc (by omega)];have K:=hI.row c (by omega);rw[lJ (show c<vals.length by omega)]at K;cases hkn:known.getD c false with
  |true=>
   rw[hkn,if_pos rfl]at K;cases hv:vals[c]'(by omega)with
   |nil=>rw[hv]at K;simp at K;omega
   |cons x t=>rfl
  |false=>
   rw[hkn,if_neg (by simp)]at K;rw[vi.1 K];rfl
 refine⟨s,rfl,H9.store ae 0 rfl rfl 4 [vM v.ptr v.len v.cap] rfl rfl rfl (by simp[fM]) fun h6 dx=>?_⟩;refine⟨s,rfl,dx.store ae 0 rfl rfl 5 [vM rs.ptr rs.len rs.cap] rfl rfl rfl (by simp[fM]) fun h7 ei=>?_⟩;have c4:=YJ (known:=known) (n:=n) (by omega) fun e B=>⟨(H e B).cD,bd e B⟩
 have ah:=ws (rows:=rowsOf R known n) (n:=n) (by rw[a7];exact uO (a7▸H));have ew:(rowsOf R known n).length<=R.length+n:=by
  rw[rowsOf,qu,qw];have:=Er known n;omega
 refine(VS s f p v rs _ _ _ _ _ k rr R known n (As:=[km ((⟨none,0,0⟩,[])::O.zip vals),HA v O,cH iR 2 qv rs rr R,an gq k 1 dY known,au f gu di]) ei (St.mk' fun h' H'=>⟨H'.eJ 2 rfl,H'.seq 3 rfl fun _=>rfl⟩) d2 (by omega) (by omega) a8 c4 ⟨by have:=ah.1;omega,by have:=Ij (dh n (rowsOf R known n)).used (rowsOf R known n).length;omega⟩).mono ?_;rintro _ h8 ⟨rfl,st,Z,lf,da⟩;refine⟨(),rfl,?_⟩;obtain⟨D,hD⟩:∃D,D=(fU R known n).dead:=⟨_,rfl⟩
 obtain⟨ST,bq⟩:∃ST,ST=mN R known n:=⟨_,rfl⟩
 obtain⟨L,hL⟩:∃L,L=Wl.leftOf R known n:=⟨_,rfl⟩
 have eh:Sp h h8 (SA s (fM f p v rs st Z lf ⟨none,0,0⟩ ⟨none,0,0⟩)::km ((⟨none,0,0⟩,[])::O.zip vals)::[HA v O,an cM st 2 fd ST,an aS Z 1 aE D,an aS lf 1 aE L,cH iR 2 qv rs rr R,au f gu di]):=by
  rw[hD,bq,hL];exact aa.bV da [0,4,5,1,2,3,6,8]
 rw[<-hD]at S F f1 f2 f3 f5;rw[<-bq]at S F;rw[<-hL]at S f4;have cn:ST.length<=2^20:=by
  rw[bq,mN,fU];have:=q7 (fun x:Int×Int=>decide (x.1<R.length)) (dh n (rowsOf R known n)).steps;have:=ah.1;omega
 have el:L.length<=2^20-2^10:=by
  rw[hL,Wl.leftOf,fU];have:=q7 (fun x:Int=>decide (x<R.length)) (eZ (dh n (rowsOf R known n)).used (rowsOf R known n).length);have:=Ij (dh n (rowsOf R known n)).used (rowsOf R known n).length;omega
 have z:St (fun b=>b<h.size) h [HA v O,an cM st 2 fd ST,an aS Z 1 aE D,an aS lf 1 aE L,cH iR 2 qv rs rr R,au f gu di] fun h=>YC h f rs st Z lf rr R ST D L:=
  St.mk' fun h' H'=>⟨H'.box 5 rfl,H'.eJ 4 rfl,H'.seq 1 rfl fun _=>rfl,H'.seq 2 rfl fun _=>rfl,H'.seq 3 rfl fun _=>rfl⟩
 refine(YE s f p v rs st Z lf _ _ rr R ST D L n D.length w _ eh z b0 (by omega) b5 (by omega) rfl (by omega) H f1 f2 F cn a8 (by simp)).mono ?_;rintro _ h9 ⟨rfl,wa,mo,wr,mr,pl,cd,a4⟩;refine⟨(),rfl,?_⟩;have ej:=(z.at [_,_,_,_] cd).dead.len;generalize eq:ST.foldl (gp R D.length) (fm n D.length w D)=S0 at a4 S;have dy:S0.1.length=n:=by have:=S.lens.1;simpa[gN]using this
 have d6:S0.2.length=n:=by have:=S.lens.2.1;simpa[gN]using this
 have hV:gC pl id O vals:=YK c9 pl fun x hx=>a4.sub x (qU _ hx);refine(abj s f p v rs st Z lf wa mo O wr mr pl known vals S0.1 S0.2 n D.length cd (by omega) ej (by omega) ⟨fun _ h=>h,a4.way,a4.more⟩ hV ch dy d6 hk).mono ?_;rintro _ e5 ⟨rfl,ap,am,V,d7,N⟩;refine⟨(),rfl,?_⟩;obtain⟨W,hW⟩:∃W,W=(gN D.length known vals S0).1:=⟨_,rfl⟩
 obtain⟨M,hM⟩:∃M,M=(gN D.length known vals S0).2:=⟨_,rfl⟩
 change lB pl V ap am (gN D.length known vals S0).1 (gN D.length known vals S0).2 at N;rw[<-hW,<-hM]at N S;have m:=S.lens;refine(YG s f p v rs st Z lf wa mo ap am V rr R ST D L W M n D.length w d7 z b7 b5 (by omega) y rfl (by omega) H a8 f4 (by omega) ⟨fun _ h=>h,N.way,N.more⟩ m.1 m.2.1 m.2.2).mono ?_;rintro _ ab ⟨a,b,rfl,a9⟩;refine⟨(a,b),rfl,s,rfl,Z,show cellOf ab (s.add 7)=_ from(a9.box 2 rfl).cell rfl,?_⟩;have d4:gC V id O vals:=hV.mono N.sub;obtain⟨e1,e2⟩:=pm S;have T:=Ax (n:=n) (w:=w) (ahead:=bw p.1.toNat p.2.1.toNat) (l:=d) (known:=known) (vals:=vals) (dead:=D) (left:=L) (W:=W) (M:=M);have a3:∀{X:aR},_->_:=fun{X} hs=>S.Ws hr (D:=X) hs;have bb:=S.Wt hr;have a2:=S.XC (by omega) hr;have a0:=S.Ni (by omega) hr;rw[<-a7]at e1 e2 T a3 bb a2 a0;obtain⟨dA,b9⟩:∃dA,dA=dc n D.length R W L (bw p.1.toNat p.2.1.toNat):=⟨_,rfl⟩
 obtain⟨G,eb⟩:∃G,G=fa n w R M L (bw p.1.toNat p.2.1.toNat):=⟨_,rfl⟩
 rw[<-b9]at e1 T a3 bb a2 a0 a9;rw[<-eb]at e2 T a3 bb a2 a9;have d3:dA.length=L.length+p.2.1.toNat:=by rw[b9];simp[dc,bw]
 have bk:∀{h':Heap} {pre:List HP} {dead:Sl} {dr:List Sl} {X:aR} {Q:HP},Sp h h' (Told s f p v rs st Z lf wa mo ap am V++HA v O::[an cM st 2 fd ST,an aS Z 1 aE D,an aS lf 1 aE L,cH iR 2 qv rs rr R,au f gu di,Q])->(∀h',Q.p h' (fun b=>b<h'.size)->gG h' (fun b=>b<h'.size) dead 1 aC X dr)->eW D.length w dA G X->
   ac vV pE #[vN (some s),vM dead.ptr dead.len dead.cap] h' fun v' ad=>v'=.tuple #[]/\cellOf ad (s.add 4)=some (vM v.ptr v.len v.cap)/\adR h ad (.tuple #[vM v.ptr v.len v.cap,vL vR 0]) n (de n d (bw p.1.toNat p.2.1.toNat)) (gH w d (bw p.1.toNat p.2.1.toNat)):=by
  intro h' pre dead dr X Q H' hQ hs;refine(abl s f p v rs st Z lf wa mo dead O ap am dr V known vals W M X n D.length w H' (St.mk' fun ad ao=>⟨ao.box 4 rfl,hQ ad (ao.at 5 rfl)⟩) (by omega) (by omega) (by omega) ⟨fun _ h=>h,N.way,N.more⟩ d4 ch m.1 m.2.1 m.2.2 hs.1 hs.2.1 hk).mono ?_;rintro _ ad ⟨rfl,eo,er,ao,ip⟩;refine⟨rfl,(ao.box 0 rfl).cell rfl,?_⟩;obtain⟨c1,c2⟩:=a3 hs;refine .inl ⟨c1,v,rfl,?_⟩;rw[<-c2];exact(ao.acY 4 3 (by decide) rfl rfl ip.1 fun k r l K h2=>ip.2 k r l K h2).bV [4]
 have I:Sp h ab (MA a dA::CA b G::(Told s f p v rs st Z lf wa mo ap am V++HA v O::[an cM st 2 fd ST,an aS Z 1 aE D,an aS lf 1 aE L,cH iR 2 qv rs rr R,au f gu di])):=a9;have cq:=I.eRd 1 rfl fun _=>rfl;have c6:gg ab b 1 aC G:=cm.togg (by
  have:=cm.impl (α':=Sl) (E:=TR) (E':=gh 1 aC) id (fun{h q a b} (hx:TR.p h q a b)=>hx.1) cq
  rwa [List.map_id]at this)
 have ed:=c6.len;refine cx (fun e0=>?_) (fun e0=>?_)
 ·have c5:D.length=0:=by omega
  obtain⟨br,q1,q2,q3⟩:=cm.oW cq;refine av (fun i:Nat=>(i:Int)) (fun i h'=>h'=ab/\i<=G.length/\∀j (hj:j<G.length),j<i->G[j]=aK w) (fun i=>G.length-i) 0 rfl ⟨rfl,by omega,fun j _ hj=>by omega⟩ ?_;rintro i a6 ⟨rfl,hi,hz⟩;have b1:eW D.length w dA G []↔∀r∈G,r=aK w:=by rw[c5];exact KW T
  refine ak (fun e=>?_) (fun e=>?_)
  ·have Y:i<G.length:=by
    have e':(i:Int)<(b.len:Int):=e;omega
   obtain⟨y1,y2⟩:=q3 i (by omega) Y;have dk:G[i].length=w:=e2 _ (qg _);refine q1.nX i rfl (by omega) ?_;refine(PB (br[i]'(by omega)) G[i] _ rfl a6 y1 y2 (by omega)).mono ?_;rintro _ cs ⟨⟨t,rfl,ht⟩,rfl⟩;refine⟨t,rfl,ak (fun e3=>?_) (fun e3=>?_)⟩
   ·refine .inr ⟨fun hc=>?_,rfl,I.bV []⟩;have b4:=bb hc;have d8:D=[]:=vi.1 c5;rw[d8]at b4;have:=(KW T).1 b4 _ (qg Y);have h0:t.len=0:=ht.2 fun x hx=>by rw[this]at hx;exact(wM.1 hx).2
    omega
   ·have h0:t.len=0:=by omega
    refine⟨i+1,by rw[Go.Vc.wrap_small _ (by omega) (by omega)];rfl,⟨rfl,by omega,fun j hj e4=>?_⟩,by omega⟩;by_cases hh:j=i
    ·subst hh;exact vq.2 ⟨dk,ht.1 h0⟩
    ·exact hz j hj (by omega)
  ·have hs:eW D.length w dA G []:=b1.2 fun r hr=>by
    obtain⟨j,hj,rfl⟩:=qF hr;have e':¬(i:Int)<(b.len:Int):=e;exact hz j hj (by omega)
   have bl:=aa.comp (I.bV [2,3,4,5,6,7,8,9,10,11]) (Sp.one (h:=a6) (h':=a6) (A:=emp) (aU.refl _ _) trivial);refine(bk (pre:=[]) (dead:=⟨none,0,0⟩) (dr:=[]) (X:=[]) (Q:=emp) ?_ (fun h' _=>⟨Seq.nil _ _ _ _ _ _,rfl,fun k r l K _=>by cases K⟩) hs).mono ?_
   ·exact bl
   ·rintro _ cs ⟨rfl,hc,hm⟩;exact⟨(),rfl,s,rfl,v,hc,hm⟩
 ·have eg:1<=D.length:=by omega
  refine⟨s,rfl,some f,(I.box 2 rfl).cell0 rfl,?_⟩;refine(VT f a b dA G dA.length D.length w ab (I.box 11 rfl) (I.IH 0 rfl) c6 rfl T.symm e1 e2 eg (by omega) (by omega) a0).mono ?_;rintro _ a6 (⟨hc,r,rfl,R12⟩|⟨hc,rfl,R12⟩)
  ·refine⟨(r,0),rfl,bQ (fun e=>absurd rfl e) fun _=>?_⟩;have bl:=(I.comp R12).Xb 12 rfl;obtain⟨dr,d9⟩:=aa.Nb bl 12 rfl fun _=>rfl;have hs:=ph T e1 e2 a0 hc;refine(bk (pre:=[]) (dead:=r) (dr:=dr) (X:=fw D.length dA G) (Q:=cH (gh 1 aC) 1 bI r dr (fw D.length dA G)) (d9.bV [2,3,4,5,6,7,8,9,10,11,12]) (fun h' x=>⟨x.1,x.2.1,x.2.2⟩) hs).mono ?_;rintro _ cs ⟨rfl,hc,hm⟩;exact⟨(),rfl,s,rfl,v,hc,hm⟩
  ·refine⟨(⟨none,0,0⟩,10),rfl,bQ (fun _=>?_) (fun e=>absurd e (by decide))⟩;exact .inr ⟨fun hh=>hc (a2.2 hh),rfl,(I.up R12.ai).bV []⟩
end Go.Proofs.YtdhamoojccmbdaaGreatDoor
namespace Wl
def lW(p:Int×Int×Int)(x:Int×Row):Bool:=bR x.1&&decide ((x.2.length:Int)=p.2.2)
theorem TW{p:Int×Int×Int}{x:Int×Row}(c:bM p=true):lW p x=true↔Az p x:=by
 have:=(bU p).1 c;unfold lW;rw[qy,decide_eq_true_iff];exact⟨fun⟨a,b⟩=>⟨a,by omega⟩,fun h=>⟨h.id,by have:=h.len;omega⟩⟩
def tQ(p:Int×Int×Int)(seed:Int)(X:aR)(i:Nat):Row:=(qC i).flatMap fun j:Nat=>fl p.2.2.toNat X (cV (bX p).toNat seed (j:Int))
theorem PG(p:Int×Int×Int)(seed:Int)(X:aR)(i:Nat):tQ p seed X (i+1)=tQ p seed X i++fl p.2.2.toNat X (cV (bX p).toNat seed (i:Int)):=by
 unfold tQ;rw[zF,zb];simp
open Classical in
noncomputable def mK(p:Int×Int×Int)(seed:Int)(l:List (Int×Row)):Row×Int:=
 if bM p&&l.all (lW p)then
  if fJ p seed (l.map qK)then
   if kj (bX p).toNat (dI p seed (l.map qK)) (rC p l)then(tQ p seed (fw (bX p).toNat (dI p seed (l.map qK)) (rC p l)) p.1.toNat,0)else([],10)
  else([],9)
 else([],1)
end Wl
namespace Go.Proofs.YtdhamoojccmbdaaGreatDoor
open Go Go.Vc Go.Proofs Wl
theorem VU(p:Pm)(x:Int×Sl)(l:Row)(h:Heap)(d:Rd h x.2 1 aC l):ac vV Lq #[kB p,vQ #[vL vR x.1,vM x.2.ptr x.2.len x.2.cap]] h fun v h'=>v=vP (lW p (x.1,l))/\Sp h h' []:=by
 refine JK p x ?_;unfold Cr;refine(Sp.refl h).boxed fun j g f=>?_;refine f.boxed fun k i a=>?_;have e:=d.len;refine⟨x.1,(a.box 1 rfl).cell0 rfl,ak (fun b=>?_) (fun b=>?_)⟩
 ·refine⟨x.1,(a.box 1 rfl).cell0 rfl,ak (fun c=>?_) (fun c=>?_)⟩
  ·refine⟨x.2,(a.box 1 rfl).cell rfl,p.2.2,(a.box 0 rfl).cell rfl,?_,.zip a.ai⟩;congr 1;unfold lW bR;rw[decide_eq_true (show 0<=x.1 from b),decide_eq_true (show x.1<=65535 from c),e];rw[yQ];simp
  ·refine⟨?_,.zip a.ai⟩;unfold lW bR;rw[decide_eq_false (show¬x.1<=65535 from c)];simp
 ·refine⟨?_,.zip a.ai⟩;unfold lW bR;rw[decide_eq_false (show¬0<=x.1 from b)];simp
theorem VV(p:Pm)(b:Addr)(x:Int×Sl)(l:Row)(h:Heap)(c:cw h b aT [vL vR p.1,vL vR p.2.1,vL vR p.2.2])(d:Rd h x.2 1 aC l):ac vV kl #[vQ #[vL vR x.1,vM x.2.ptr x.2.len x.2.cap],vN (some b)] h fun v h'=>v=vP (!lW p (x.1,l))/\Sp h h' []:=by
 refine GD x b ?_;unfold xn;refine(Sp.refl h).boxed fun i e a=>?_;refine⟨p,(c.ai a.ai c.lt).aQ _ rfl,x,(a.box 0 rfl).aQ _ rfl,?_⟩;refine(VU p x l e (Seq.up d a.ai)).mono ?_;rintro _ g ⟨rfl,f⟩;exact⟨_,rfl,rfl,.zip (a.up f.ai).ai⟩
theorem VW(p:Pm)(d:Addr)(l:Sl)(syms:List (Int×Row))(h:Heap)(o:cw h d aT [vL vR p.1,vL vR p.2.1,vL vR p.2.2])(r:fA MI h l syms)(z:syms.length<=2^30):ac vV jY #[vM l.ptr l.len l.cap,.func (.func kl) #[] #[vN (some d)]] h fun v h'=>v=vP (!syms.all (lW p))/\Sp h h' []:=by
 refine jL l (kl,#[],#[vN (some d)]) ?_;unfold fO;refine(ky l (kl,#[],#[vN (some d)]) (R:=fun v h'=>(∃i:Int,v=vL vR i/\(decide (i>=0)=!syms.all (lW p)))/\Sp h h' []) ?_).mono ?_
 ·unfold gx;obtain⟨f,x,B,w⟩:=cm.oW r;have s:=cm.len r;refine av (fun i:Nat=>(i:Int)) (fun i h'=>i<=syms.length/\(syms.take i).all (lW p)=true/\Sp h h' []) (fun i=>syms.length-i) 0 rfl ⟨by omega,by simp,Sp.refl h⟩ ?_;rintro i q ⟨n,a,c⟩;refine ak (fun e=>?_) (fun e=>?_)
  ·have b:i<syms.length:=by omega
   obtain⟨y,u⟩:=w i (by omega) b;refine(Seq.up x c.ai).dD (g:=yv) i rfl (by omega) (f[i]'(by omega)) rfl ?_;refine eU (by rfl) ?_;refine(VV p d (f[i]'(by omega)) syms[i].2 q (o.ai c.ai o.lt) (Seq.up u c.ai)).mono ?_;rintro _ A ⟨rfl,m⟩;have j:((f[i]'(by omega)).1,syms[i].2)=syms[i]:=by rw[y]
   rw[j];refine⟨_,rfl,bg (fun k=>?_) (fun k=>?_)⟩
   ·refine⟨⟨i,rfl,?_⟩,c.up m.ai⟩;rw[decide_eq_true (show(i:Int)>=0 by omega)];have:syms.all (lW p)=false:=ye.2 ⟨_,qg b,by simpa using k⟩;rw[this];rfl
   ·refine⟨i+1,by rw[Go.Vc.wrap_small _ (by omega) (by omega)];rfl,⟨by omega,?_,c.up m.ai⟩,by omega⟩;rw[aH _ _ b,yz,a];simpa using k
  ·refine⟨⟨-1,rfl,?_⟩,c⟩;rw[qi (by omega)]at a;rw[a];rfl
 ·rintro _ q ⟨⟨i,rfl,n⟩,t⟩;exact⟨i,rfl,by rw[n],t⟩
theorem abp(l:Sl)(syms:List (Int×Row))(h:Heap)(k:fA MI h l syms)(w:syms.length<=2^30):ac vV Qh #[vM l.ptr l.len l.cap] h fun v h'=>∃r:Sl,v=vM r.ptr r.len r.cap/\Sp h h' [an aS r 1 aE (syms.map qK)]:=by
 refine NH l ?_;unfold GF;obtain⟨c,q,D,p⟩:=cm.oW k;have n:=cm.len k;refine av (fun t:Nat×Sl=>(t.2,(t.1:Int))) (fun t h'=>t.1<=syms.length/\Sp h h' [an aS t.2 1 aE ((syms.take t.1).map qK)]) (fun t=>syms.length-t.1) (0,⟨none,0,0⟩) rfl ⟨by simp,(Sp.refl h).nil aS 1 aE⟩ ?_;rintro⟨i,o⟩ B ⟨x,d⟩;dsimp only at*;refine ak (fun e=>?_) (fun e=>?_)
 ·have b:i<syms.length:=by omega
  obtain⟨u,z⟩:=p i (by omega) b;refine(Seq.up q d.ai).dD (g:=yv) i rfl (by omega) (c[i]'(by omega)) rfl ?_;refine d.alloc ae rfl fun a y m=>?_;refine m.storeAll ae 1 rfl rfl (yv (c[i]'(by omega))) rfl rfl rfl rfl fun h3 f=>?_;refine⟨(c[i]'(by omega)).1,(f.box 1 rfl).cell0 rfl,?_⟩;refine f.push ae 0 rfl nw rfl (by decide) (fun _=>rfl) ja (c[i]'(by omega)).1 rfl (by decide) (by simp;omega) fun s A j=>?_;refine⟨(i+1,s),by dsimp only;rw[Go.Vc.wrap_small _ (by omega) (by omega)];rfl,⟨by dsimp only;omega,?_⟩,by dsimp only;omega⟩;dsimp only;rw[aH _ _ b,qQ];rw[u]at j;exact j.bV [0]
 ·have:i=syms.length:=by omega
  subst this;rw[qR]at d;exact⟨o,rfl,d⟩
theorem adi{B:aA}{q h:Heap}{As:List HP}(f b:Sl)(c d:Row)(H:aa B q h (an aD b 1 aC d::As))(t:St B q As fun h=>Rd h f 1 aC c)
  (G:c.length=d.length) (I:c.length<=2^30) {K:Heap->Prop} (A:∀h',aa B q h' (an aD b 1 aC (cW 1 c d)::As)->K h'):
  aL (σ:=Int) (fun a F g=>
 Br (decide (a<((f.len:Nat):Int)))
 (∃i:Addr,(f.ptr=some i/\0<=a/\a<((f.len:Nat):Int))/\
 ∃m:Int,cellOf g (i.add (a.toNat*1))=some (vL vS m)/\
 ∃l:Addr,(b.ptr=some l/\0<=a/\a<((b.len:Nat):Int))/\
 ∃n:Int,cellOf g (l.add (a.toNat*1))=some (vL vS n)/\
 ∃a28:Addr,(b.ptr=some a28/\0<=a/\a<((b.len:Nat):Int))/\
 ag vV (qf aD (vN (some (a28.add (a.toNat*1)))) (vL vS (qc vS ((qA (qk vS) n^^^(qA (qk vS) m)).toNat:Nat)))) g fun _ r=>
 F (qc vR (a+(1:Int))) r) (K g)) (0:Int) h:=by
 have D:f.len=c.length:=(t.at [an aD b 1 aC d] H).len;refine av (fun k:Nat=>(k:Int)) (fun k h'=>k<=c.length/\aa B q h' (an aD b 1 aC (zj (fun x y=>y^^^x) (c.take k) (d.take k)++d.drop k)::As)) (fun k=>c.length-k) 0 rfl ⟨by omega,by simpa using H⟩ ?_;rintro k E ⟨w,p⟩;have v:=t.at [_] p;refine ak (fun e=>?_) (fun e=>?_)
 ·have s:k<c.length:=by omega
  have o:(zj (fun x y=>y^^^x) (c.take k) (d.take k)).length=k:=by simp;omega
  have z:(zj (fun x y=>y^^^x) (c.take k) (d.take k)++d.drop k).length=d.length:=by rw[qu,o,qY];omega
  refine v.bv k rfl s _ rfl ?_;have j:(zj (fun x y=>y^^^x) (c.take k) (d.take k)++d.drop k)[k]'(by omega)=d[k]:=by
   rw[z7 (by omega)];simp[o]
  refine(p.seq 0 rfl fun _=>rfl).bv k rfl (by omega) _ rfl ?_;rw[j,pN];refine p.set ae 0 rfl (fun _=>rfl) rfl k rfl (by omega) _ rfl rfl rfl fun h3 u=>?_;rw[zw,Hy G (by omega)]at u;exact⟨k+1,by rw[Go.Vc.wrap_small _ (by omega) (by omega)];rfl,⟨by omega,u⟩,by omega⟩
 ·have:k=c.length:=by omega
  subst this;rw[qi (ql _),qi (by omega),q9 (by omega),qP,<-WE]at p;exact A E p
theorem YL(p:Pm)(seed:Int)(l:Sl)(syms:List (Int×Row))(h:Heap)(hl:fA MI h l syms)(ab:syms.length<=2^18):
  ac vV Li #[kB p,vL vT seed,vM l.ptr l.len l.cap] h fun v h'=>∃r:Sl,v=.tuple #[vM r.ptr r.len r.cap,vL vR (mK p seed syms).2]/\Sp h h' [an aD r 1 aC (mK p seed syms).1]:=by
 refine JH p seed l ?_;unfold Ck;refine(Sp.refl h).boxed fun J h1 H1=>?_;have k:∀{h':Heap} (e:Int),Sp h h' [au J aT [vL vR p.1,vL vR p.2.1,vL vR p.2.2]]->mK p seed syms=([],e)->∃r:Sl,(.tuple #[vM none 0 0,vL vR e]:Value)=.tuple #[vM r.ptr r.len r.cap,vL vR (mK p seed syms).2]/\Sp h h' [an aD r 1 aC (mK p seed syms).1]:=fun e S he=>by
  rw[he];exact⟨⟨none,0,0⟩,rfl,(S.nil aD 1 aC).bV [1]⟩
 refine ba ⟨p,(H1.box 0 rfl).aQ _ rfl,?_⟩;refine(dN p h1).mono ?_;rintro _ h2 ⟨rfl,R2⟩;have P:=H1.up R2.ai;refine⟨_,rfl,bg (fun e=>?_) (fun a=>?_)⟩
 ·exact k 1 P (by unfold mK;rw[e];rfl)
 refine(VW p J l syms h2 (P.box 0 rfl) (fA.up hl P.ai) (by omega)).mono ?_;rintro _ h3 ⟨rfl,R3⟩;have R:=P.up R3.ai;refine⟨_,rfl,bg (fun e=>?_) (fun d=>?_)⟩
 ·exact k 1 R (by unfold mK;rw[a,e];rfl)
 refine ba ⟨p,(R.box 0 rfl).aQ _ rfl,?_⟩;refine(abp l syms h3 (fA.up hl R.ai) (by omega)).mono ?_;rintro _ h4 ⟨r,rfl,R4⟩;have Z:=R.comp R4;have D:=Z.box 0 rfl;refine⟨r,rfl,⟨D.cell0 rfl,D.cell rfl,D.cell rfl,trivial⟩,?_⟩;refine(Pp p seed r (syms.map qK) h4 (Z.seq 1 rfl fun _=>rfl) (by simp;omega)).mono ?_;rintro _ h5 ⟨rfl,R5⟩;have L:Sp h h5 [au J aT [vL vR p.1,vL vR p.2.1,vL vR p.2.2]]:=(Z.up R5.ai).bV [0];refine⟨_,rfl,trivial,bg (fun e=>?_) (fun b=>?_)⟩
 ·exact k 9 L (by unfold mK;rw[a,d,e];rfl)
 have F:∀x∈syms,Az p x:=fun x g=>(TW a).1 (qM.1 d x g);have ax:=(bU p).1 a;have ao:=ry a;have hr:cG (dI p seed (syms.map qK))=(bX p).toNat:=by
  have:=b;unfold fJ KQ at this;rw[a]at this;simp at this;omega
 refine⟨p,(L.box 0 rfl).aQ _ rfl,?_⟩;refine(adh p seed l syms (bX p).toNat p.2.2.toNat h5 (fA.up hl L.ai) a F rfl rfl ab hr).mono ?_;rintro _ h6 (⟨hc,m,rfl,R6⟩|⟨hc,rfl,R6⟩)
 rotate_left
 ·refine⟨(⟨none,0,0⟩,10),rfl,bQ (fun _=>k 10 (L.up R6.ai) ?_) (fun e=>absurd e (by decide))⟩;unfold mK;rw[a,d,b,if_neg hc];rfl
 refine⟨(m,0),rfl,bQ (fun e=>absurd rfl e) (fun _=>?_)⟩;obtain⟨X,hX⟩:∃X,X=fw (bX p).toNat (dI p seed (syms.map qK)) (rC p syms):=⟨_,rfl⟩
 have K:mK p seed syms=(tQ p seed X p.1.toNat,0):=by unfold mK;rw[a,d,b,if_pos hc,hX];rfl
 have V:be p.2.2.toNat (rC p syms):=fun x g=>by
  rcases qE.1 g with g|g
  ·rw[(wM.1 g).2];simp[aK]
  ·obtain⟨y,hy,rfl⟩:=qx.1 g;exact(F y hy).len
 have T:(dI p seed (syms.map qK)).length=(rC p syms).length:=by
  rw[<-XA (n:=(bX p).toNat) (seed:=seed) a rfl F,<-XB (n:=(bX p).toNat) (seed:=seed) (p:=p) (l:=syms) rfl];exact uN
 obtain⟨w,s⟩:=uM T (mi p seed _) V hr;rw[<-hX]at R6 w s;have H6:=(L.comp R6).Xb 1 rfl;obtain⟨O,Q⟩:=aa.Nb H6 1 rfl fun _=>rfl;have ap:=(Q.eJ 1 rfl).1.len;have a3:=(Q.eJ 1 rfl).2.1;refine⟨p.1,(Q.box 0 rfl).cell0 rfl,?_⟩;rw[K];have M:Sp h h6 [an aD ⟨none,0,0⟩ 1 aC [],au J aT [vL vR p.1,vL vR p.2.1,vL vR p.2.2],cH (gh 1 aC) 1 bI m O X]:=(Q.nil aD 1 aC).bV [2,0,1];have N:∀j:Nat,(fl p.2.2.toNat X (cV (bX p).toNat seed (j:Int))).length=p.2.2.toNat:=fun j=>Wq s w fun x g=>mg (by omega) (by omega) g;have H:∀i,(tQ p seed X i).length=i*p.2.2.toNat:=fun i=>by
  induction i with
  |zero=>simp[tQ]
  |succ i ih=>rw[PG,qu,ih,N,zI]
 refine av (fun t:Nat×Sl=>(t.2,(t.1:Int))) (fun t h'=>t.1<=p.1.toNat/\Sp h h' [an aD t.2 1 aC (tQ p seed X t.1),au J aT [vL vR p.1,vL vR p.2.1,vL vR p.2.2],cH (gh 1 aC) 1 bI m O X]) (fun t=>p.1.toNat-t.1) (0,⟨none,0,0⟩) rfl ⟨by omega,by simpa[tQ]using M⟩ ?_;rintro⟨i,o⟩ h8 ⟨hi,M⟩;dsimp only at*;refine ak (fun e=>?_) (fun e=>?_)
 ·have a0:i<p.1.toNat:=by omega
  refine⟨p.2.2,(M.box 1 rfl).cell rfl,?_⟩;refine M.make ae aC fP (by decide) 0 rfl rfl p.2.2.toNat p.2.2.toNat (by omega) (by omega) (ql _) (by omega) fun sm h9 _ _ H9=>?_;refine⟨p,(H9.box 1 rfl).aQ _ rfl,(AN p seed (i:Int) h9).mono ?_⟩;rintro _ a5 ⟨c,rfl,E⟩;have ad:(bM p&&bR (i:Int))=true:=by rw[a];unfold bR;simp;omega
  rw[ad,if_pos rfl]at E;have A:=(H9.comp E).bV [3,0,1,2,4];refine⟨c,rfl,?_⟩;generalize I:cV (bX p).toNat seed (i:Int)=cs at A E;have u:∀x∈cs,0<=x/\x<((bX p).toNat:Int):=fun x g=>mg (by omega) (by omega) (I▸g);have a4:cs.length<=20:=by have:=Ak (n:=(bX p).toNat) (by omega) (by omega) seed (i:Int);rw[I]at this;omega
  have ay:=(A.own 4 rfl).len;refine av (fun j:Nat=>(j:Int)) (fun j h'=>j<=cs.length/\Sp h h' [an aD sm 1 aC (fl p.2.2.toNat X (cs.take j)),an aD o 1 aC (tQ p seed X i),au J aT [vL vR p.1,vL vR p.2.1,vL vR p.2.2],cH (gh 1 aC) 1 bI m O X,an aS c 1 aE cs]) (fun j=>cs.length-j) 0 rfl ⟨by omega,A⟩ ?_;rintro j am ⟨hj,f⟩;have B:=pi s w u j hj;refine ak (fun e2=>?_) (fun e2=>?_)
  ·have G:j<cs.length:=by omega
   have a2:=u _ (qg G);refine(f.seq 4 rfl fun _=>rfl).bv j rfl G _ rfl ?_;have q:cs[j].toNat<X.length:=by omega
   refine(f.eJ 3 rfl).1.nX cs[j].toNat (by omega) (by omega) ?_;have Y:(X[cs[j].toNat]'q).length=p.2.2.toNat:=s _ (qg _);refine adi (O[cs[j].toNat]'(by omega)) sm (X[cs[j].toNat]'q) _ f (St.mk' fun h' S=>Fix.row (S.eJ 2 rfl) q) (by rw[Y,B]) (by omega) fun ah z=>?_;refine⟨j+1,by rw[Go.Vc.wrap_small _ (by omega) (by omega)];rfl,⟨by omega,?_⟩,by omega⟩;rw[aH _ _ G,Du,lJ q];exact z
  ·have U:j=cs.length:=by omega
   subst U;rw[qR]at f B;refine f.append ae 1 rfl fP Tt rfl (by decide) (fun _=>rfl) (f.seq 0 rfl fun _=>rfl) ge (by rw[H,B];have:i*p.2.2.toNat<=16*24:=wb (by omega) (by omega);omega) fun o' ah z=>?_;refine⟨(i+1,o'),by dsimp only;rw[Go.Vc.wrap_small _ (by omega) (by omega)];rfl,⟨by dsimp only;omega,?_⟩,by dsimp only;omega⟩;dsimp only;rw[PG,I];exact z.bV [1,2,3]
 ·have W:i=p.1.toNat:=by omega
  subst W;exact⟨o,rfl,M.bV [0]⟩
end Go.Proofs.YtdhamoojccmbdaaGreatDoor
namespace Wl
section
variable {p:Int×Int×Int} {seed:Int} {d:Row} {K H w n:Nat}
def lh(p:Int×Int×Int)(seed:Int)(X:aR)(ids:List Int):List (Int×Row):=ids.map fun i=>(i,fl p.2.2.toNat X (cV (bX p).toNat seed i))
theorem bT.size(B:bT p seed d K H w n):p.2.2.toNat=w:=by have:=B.s;omega
theorem Kl(X:aR)(ids:List Int):(lh p seed X ids).map qK=ids:=by simp[lh,wK,Function.comp_def]
theorem bT.TX(B:bT p seed d K H w n){ids:List Int}(hid:∀i∈ids,bR i=true):(lh p seed (eE p seed d) ids).all (lW p)=true:=qM.2 fun x a=>by
 obtain⟨i,b,rfl⟩:=qx.1 a;refine(TW B.may).2 ⟨hid i b,?_⟩;dsimp only;rw[B.size,B.pj];exact B.ZH i
theorem MJ{α β:Type}{f g:α->List β}:∀(l:List α),(∀x∈l,f x=g x)->l.flatMap f=l.flatMap g
 |[],_=>rfl
 |a::l,h=>by rw[zr,zr,h a (by simp),MJ l fun x b=>h x (by simp[b])]
theorem PH(d:Row)(w:Nat):∀i,i*w<=d.length->(qC i).flatMap (Go.Vc.FJ d w)=d.take (i*w)
 |0,_=>by simp
 |i+1,h=>by
  have e:(i+1)*w=i*w+w:=zI i w;rw[zF,zb,PH d w i (by omega),e,List.take_add];simp[Go.Vc.FJ]
theorem bT.out(B:bT p seed d K H w n):tQ p seed (eE p seed d) p.1.toNat=d:=by
 have a:p.1.toNat=K:=by have:=B.k;omega
 unfold tQ;rw[a,B.size,B.pj];have:(qC K).flatMap (fun j:Nat=>fl w (eE p seed d) (cV n seed (j:Int)))=(qC K).flatMap (Go.Vc.FJ d w):=by
  exact MJ _ fun j b=>B.ace (qH.1 b)
 rw[this,PH d w K (by rw[B.len];exact ql _),qi (by rw[B.len];exact ql _)]
theorem bT.abq(B:bT p seed d K H w n){ids:List Int}(hid:∀i∈ids,bR i=true):Wl.eW n w (dI p seed ids) (rC p (lh p seed (eE p seed d) ids)) (eE p seed d):=by
 have l:ids.filter bR=ids:=wg.2 hid;have m:dI p seed ids=bw K H++ids.map (rv n seed):=by
  unfold dI;rw[B.may,if_pos rfl,l,B.pj];have j:p.1.toNat=K:=by have:=B.k;omega
  have e:p.2.1.toNat=H:=by have:=B.h;omega
  rw[j,e]
 have o:rC p (lh p seed (eE p seed d) ids)=qh H (aK w)++ids.map fun i=>fl w (eE p seed d) (cV n seed i):=by
  unfold rC lh;have e:p.2.1.toNat=H:=by have:=B.h;omega
  rw[e,B.size,B.pj,wK];rfl
 refine⟨B.sw.1,B.sw.2,fun i g=>?_⟩;rw[m]at g⊢;rw[o];have b:(bw K H).length=H:=by simp[bw]
 simp only[qu,qw,b]at g;by_cases a:i<H
 ·have c:az (bw K H++ids.map (rv n seed)) i=kQ K H i:=by
   rw[bt (by simp;omega),w5 (by omega)];simp[bw]
  have f:az (qh H (aK w)++ids.map fun i=>fl w (eE p seed d) (cV n seed i)) i=aK w:=by
   rw[bt (by simp;omega),w5 (by simpa using a)];simp
  rw[c,f];exact B.low a
 ·have c:az (bw K H++ids.map (rv n seed)) i=rv n seed (ids[i-H]'(by omega)):=by
   rw[bt (by simp;omega),z7 (by omega)];simp[b]
  have f:az (qh H (aK w)++ids.map fun i=>fl w (eE p seed d) (cV n seed i)) i=fl w (eE p seed d) (cV n seed (ids[i-H]'(by omega))):=by
   rw[bt (by simp;omega),z7 (by simpa using a)];simp
  rw[c,f,B.sym]
theorem abr{l:List (Int×Row)}(b:∀x∈l,Az p x):be p.2.2.toNat (rC p l):=fun x a=>by
 rcases qE.1 a with a|a
 ·rw[(wM.1 a).2];simp[aK]
 ·obtain⟨y,c,rfl⟩:=qx.1 a;exact(b y c).len
theorem VX(a:bM p=true){l:List (Int×Row)}(b:∀x∈l,Az p x):(dI p seed (l.map qK)).length=(rC p l).length:=by
 rw[<-XA (n:=(bX p).toNat) (seed:=seed) a rfl b,<-XB (n:=(bX p).toNat) (seed:=seed) (p:=p) (l:=l) rfl];exact uN
theorem HE(a:bM p=true){ids:List Int}:fJ p seed ids=true↔cG (dI p seed ids)=(bX p).toNat:=by
 have:=ry a;have:=(bU p).1 a;unfold fJ KQ;rw[a,zS];simp;omega
theorem bT.dec(B:bT p seed d K H w n){ids:List Int}(hid:∀i∈ids,bR i=true)(c:fJ p seed ids=true):mK p seed (lh p seed (eE p seed d) ids)=(d,0):=by
 have a:∀x∈lh p seed (eE p seed d) ids,Az p x:=fun x g=>(TW B.may).1 (qM.1 (B.TX hid) x g);have f:=B.abq hid;have e:=VX (seed:=seed) B.may a;rw[Kl]at e;have h:=(HE B.may).1 c;have b:=kT e (mi p seed ids) (abr a) h (by rw[B.pj,B.size];exact f);unfold mK;rw[B.may,B.TX hid,Kl,c];simp only[vG,if_true];rw[if_pos b.2,<-b.1,B.out]
theorem adj(a:bM p=true){l:List (Int×Row)}(c:l.all (lW p)=true)(b:fJ p seed (l.map qK)=false):mK p seed l=([],9):=by
 unfold mK;rw[a,c,b];rfl
end
end Wl
namespace Go.Proofs.YtdhamoojccmbdaaGreatDoor
open Go Go.Vc Go.Proofs Wl
end Go.Proofs.YtdhamoojccmbdaaGreatDoor
namespace Wl
section
variable {p:Int×Int×Int} {seed:Int} {d:Row} {K H w n:Nat}
end
theorem VY{n:Nat}{A:aR}(o:be n A)(d:cG A=n){y:Nat->UInt8}(t:∀r∈A,bB (fun j=>aM r j) y n=0):∀i,i<n->y i=0:=by
 intro i l;let Y:aR:=(qC n).map fun c=>[y c]
 have p:be 1 (qh A.length (aK 1)):=fun r d=>by rw[(wM.1 d).2];rfl
 have a:A.length=(qh A.length (aK 1)).length:=by simp
 have f:∀j,j<A.length->az (qh A.length (aK 1)) j=aK 1:=fun j g=>by rw[bt (by simpa using g)];simp
 have e:∀z:Nat->UInt8,(∀r∈A,bB (fun j=>aM r j) z n=0)->eW n 1 A (qh A.length (aK 1)) ((qC n).map fun c=>[z c]):=fun z s=>by
  have b:be 1 ((qC n).map fun c=>[z c]):=fun r d=>by obtain⟨c,_,rfl⟩:=qx.1 d;rfl
  refine⟨by simp,b,fun j g=>?_⟩;rw[f j g];refine fi (n:=1) (gW b (by simp) _ n (ql _)) rfl fun k w=>?_;obtain rfl:k=0:=by omega
  rw[gl b (by simp) _ 0 n (ql _),co,<-s _ (mem_row g)];refine fk n (fun _ _=>rfl) fun c u=>?_;rw[bt (by simpa using u)];simp[aM]
 have v:=(kT a o p d (e (fun _=>0) fun r _=>dot_zero' r n)).1;have q:=(kT a o p d (e y t)).1;have h:aM (az ((qC n).map fun c=>[y c]) i) 0=aM (az ((qC n).map fun _=>[(0:UInt8)]) i) 0:=congrArg (fun m=>aM (az m i) 0) (q.trans v.symm);rw[bt (by simpa using l),bt (by simpa using l)]at h;simpa[aM]using h
where
 dot_zero' (r:Row):∀n,bB (fun j=>aM r j) (fun _=>(0:UInt8)) n=0
  |0=>rfl
  |n+1=>by rw[bB,dot_zero' r n,Gf.mul_zero];rfl
section
variable {p:Int×Int×Int} {seed:Int} {d:Row} {K H w n:Nat}
theorem aeR{ids c:List Int}(h:∀i∈ids,i∈c):∀r∈dI p seed ids,r∈dI p seed c:=fun r a=>by
 unfold dI at*;cases hm:bM p
 ·rw[hm]at a;simp at a
 ·rw[hm,if_pos rfl,qE]at a;rw[if_pos rfl,qE];rcases a with a|a
  ·exact .inl a
  ·obtain⟨i,b,rfl⟩:=qx.1 a;rw[qI]at b;exact .inr (qx.2 ⟨i,qI.2 ⟨h i b.1,b.2⟩,rfl⟩)
theorem abs(d:bM p=true){ids a:List Int}(h:∀i∈ids,i∈a)(f:fJ p seed ids=true):fJ p seed a=true:=by
 have c:=(HE d).1 f;refine(HE d).2 ?_;have e:=FX (mi p seed a);by_cases b:cG (dI p seed a)<(bX p).toNat
 ·exfalso;obtain⟨y,⟨i,g,k⟩,j⟩:=kernel (mi p seed a) b;exact k (VY (mi p seed ids) c (fun r c=>j r (aeR h r c)) i g)
 ·omega
end
end Wl
namespace Go.Proofs.YtdhamoojccmbdaaGreatDoor
open Go Go.Vc Go.Proofs Wl
theorem tm(a b:dj):Dq a b=true↔a.object=b.object/\a.block=b.block/\a.id=b.id:=by unfold Dq;rw[decide_eq_true_eq]
theorem WG{l:List dj}{i:Nat}(a:i<l.length)(b:uj l i=true):l[i]∈vZ l:=by
 unfold vZ;exact qx.2 ⟨i,qI.2 ⟨qH.2 a,b⟩,lm _ a⟩
theorem adk{l:List dj}{r:dj}(h:r∈l):∃c∈vZ l,Dq c r=true:=by
 have e:∀i (a:i<l.length),∃c∈vZ l,Dq c l[i]=true:=by
  intro i
  induction i with
  |zero=>intro a;exact⟨l[0],WG a (by unfold uj;simp),(tm _ _).2 ⟨rfl,rfl,rfl⟩⟩
  |succ i ih=>
   intro a;cases hk:uj l (i+1)with
   |true=>exact⟨_,WG a hk,(tm _ _).2 ⟨rfl,rfl,rfl⟩⟩
   |false=>
    obtain⟨c,f,d⟩:=ih (by omega);unfold uj at hk;rw[w7,Bool.not_eq_false']at hk;have b:=hk.2;rw[yN,lm _ a,lm _ (show i<l.length by omega)]at b;rw[tm]at d b;exact⟨c,f,(tm _ _).2 ⟨by rw[d.1,b.1],by rw[d.2.1,b.2.1],by rw[d.2.2,b.2.2]⟩⟩
 obtain⟨i,a,rfl⟩:=qF h;exact e i a
theorem ie{m:aG}{r:dj}:dH m r=true↔iK r=true/\r.p=m.p/\∃x∈m.objs,x.object=r.object/\r.block<(x.tries.length:Int)/\r.seed=cK r.object r.block (x.tries.getD r.block.toNat 0):=by
 unfold dH;rw[qy,qy,decide_eq_true_eq,wR];simp only[qy,decide_eq_true_eq]
theorem TY{m:aG}(d:bS m=true){x y:Wl.bW}(e:x∈m.objs)(f:y∈m.objs)(h:x.object=y.object):x=y:=by
 have a:=zq.1 ((ce m).1 d).2.2.2.2.2.2;obtain⟨i,b,rfl⟩:=qF e;obtain⟨j,c,rfl⟩:=qF f;rcases yd i j with hl|rfl|hl
 ·exact absurd h (a i j b c hl)
 ·rfl
 ·exact absurd h.symm (a j i c b hl)
theorem abt{m:aG}(d:bS m=true){x y:Wl.bW}(e:x∈m.objs)(f:y∈m.objs)(h:x.name=y.name):x=y:=by
 have a:=zq.1 ((ce m).1 d).2.2.2.2.2.1;obtain⟨i,b,rfl⟩:=qF e;obtain⟨j,c,rfl⟩:=qF f;rcases yd i j with hl|rfl|hl
 ·exact absurd h (AR (a i j b c hl))
 ·rfl
 ·exact absurd h.symm (AR (a j i c b hl))
def fD(m:aG)(C:Int->List UInt8)(o b:Int):List UInt8:=(bn m.p (C o)).getD b.toNat []
def Eg(m:aG)(C:Int->List UInt8)(r:dj):Prop:=r.data=xH m.p r.seed (fD m C r.object r.block) r.id
theorem adl{m:aG}{C:Int->List UInt8}{r a:dj}(i:bS m=true)(w:dH m r=true)(p:dH m a=true)(g:Eg m C r)(f:Eg m C a)(e:Dq a r=true):a=r:=by
 obtain⟨_,s,j,d,n,_,q⟩:=ie.1 w;obtain⟨_,t,x2,b,l,_,k⟩:=ie.1 p;rw[tm]at e;obtain⟨c,h,u⟩:=e;have v:j=x2:=TY i d b (by rw[n,l,c]);subst v;have o:a.seed=r.seed:=by rw[q,k,c,h]
 unfold Eg at g f;cases r;cases a;simp only at*;subst c h u o;rw[s,t,g,f]
structure gU (m:aG) (C:Int->List UInt8) (c:List UInt8):Prop where
 old:∀r,dL c=some r->r.object<m.next
 tru:∀r,dL c=some r->dH m r=true->Eg m C r
 page:∀g,CX c=some g->g.seq<=m.seq/\(g.seq=m.seq->c∈bh m)
theorem TZ{m:aG}{C:Int->List UInt8}{l:List (List UInt8)}(n:bS m=true)(k:∀c∈l,gU m C c){c:List UInt8}(i:c∈l){r:dj}(h:dL c=some r)(e:dH m r=true):r∈kR m l:=by
 have b:r∈(l.filterMap (jp m)).mergeSort Zu:=yt.2 (List.mem_filterMap.2 ⟨c,i,by unfold jp;rw[h];dsimp only;rw[if_pos e]⟩);obtain⟨j,g,o⟩:=adk b;obtain⟨p,d,f,a⟩:=Ec (m:=m) (l:=l) (r:=j) g;have:=adl n e a ((k c i).tru r h e) ((k p d).tru j f a) o;rw[<-this];exact g
theorem HG{m:aG}{l:List (List UInt8)}{r:dj}(h:r∈kR m l):dJ r∈l/\dL (dJ r)=some r/\dH m r=true:=by
 obtain⟨c,d,a,b⟩:=Ec h;rw[(Xm a).1];exact⟨d,a,b⟩
theorem Io{n:aG}(C:Int->List UInt8){c:List UInt8}(e:bS n=true)(h:c∈bh n):gU n C c:=by
 have h0:=lE h;refine⟨fun r a=>(by rw[h0]at a;cases a),fun r a _=>(by rw[h0]at a;cases a),fun g b=>?_⟩;rw[PA]at h;obtain⟨i,d,rfl⟩:=qx.1 h;rw[Yw e (qH.1 d)]at b;injection b with b
 subst b;exact⟨vE _,fun _=>by rw[PA];exact qx.2 ⟨i,d,rfl⟩⟩
theorem aeS{m:aG}{C:Int->List UInt8}{l:List (List UInt8)}(a:bS m=true)(e:∀c∈l,gU m C c):∀c∈jP m l,gU m C c:=fun c d=>by
 rcases qE.1 d with h|h
 ·exact Io C a h
 ·obtain⟨r,b,rfl⟩:=qx.1 h;exact e _ (HG b).1
theorem WH{m:aG}{C:Int->List UInt8}{d:bE}{N:Int}(e:bS m=true)(b:∀c∈d.l,gU m C c):∀c∈(dQ m d N).l,gU m C c:=fun c a=>by
 unfold dQ at a;split at a
 ·exact b c a
 ·exact aeS e b c a
theorem Ua{m:aG}{C:Int->List UInt8}{d:bE}{N:Int}(b:bS m=true)(g:∀c∈d.l,gU m C c){r:dj}(a:dJ r∈d.l)(e:dL (dJ r)=some r)(f:dH m r=true):dJ r∈(dQ m d N).l:=by
 unfold dQ;split
 ·exact a
 ·exact wF _ (qx.2 ⟨r,TZ b g a e f,rfl⟩)
theorem YM{r:dj}(h:iK r=true):CX (dJ r)=none:=by
 have a:=ot h;unfold CX dJ;rw[if_pos h,Ao (by decide) (by decide) (by omega)];dsimp only;rw[if_neg (by rintro⟨h,_⟩;exact absurd h (by decide))]
theorem Eh{m n:aG}{C D:Int->List UInt8}{o b:Int}(a:n.p=m.p)(h:D o=C o):fD n D o b=fD m C o b:=by unfold fD;rw[a,h]
theorem Eg.congr{m n:aG}{C D:Int->List UInt8}{r:dj}(a:n.p=m.p)(b:D r.object=C r.object)(h:Eg m C r):Eg n D r:=by
 unfold Eg at h⊢;rw[Eh a b,a];exact h
theorem MK{m n:aG}{r:dj}(e:n.p=m.p)(a:∀x∈n.objs,x∈m.objs)(h:dH n r=true):dH m r=true:=by
 obtain⟨c,d,x,b,h3⟩:=ie.1 h;exact ie.2 ⟨c,by rw[d,e],x,a x b,h3⟩
theorem gU.next{m n:aG}{C:Int->List UInt8}{c:List UInt8}(h:gU m C c)(d:n.p=m.p)(k:m.next<=n.next)(j:m.seq<n.seq)(a:∀x∈n.objs,x∈m.objs):gU n C c:=
 ⟨fun r b=>by have:=h.old r b;omega,fun r b f=>(h.tru r b (MK d a f)).congr d rfl,fun g i=>by have:=(h.page g i).1;exact⟨by omega,fun e=>by omega⟩⟩
def kb(C:Int->List UInt8)(o:Int)(b:List UInt8):Int->List UInt8:=fun k=>if k=o then b else C k
theorem gU.with{m:aG}{C:Int->List UInt8}{e:Wl.bW}{b c:List UInt8}(h:gU m C c)(o:e.object=m.next):gU (dg m e) (kb C m.next b) c:=by
 refine⟨fun r a=>?_,fun r a l=>?_,fun g j=>?_⟩
 ·have:=h.old r a;show r.object<m.next+1;omega
 ·have n:=h.old r a;obtain⟨k,f,x,d,h3,i⟩:=ie.1 l;rcases rS.1 d with d|rfl
  ·refine(h.tru r a (ie.2 ⟨k,f,x,d,h3,i⟩)).congr (m:=m) rfl ?_;unfold kb;rw[if_neg (by omega)]
  ·omega
 ·have:=(h.page g j).1;show g.seq<=m.seq+1/\(g.seq=m.seq+1->_)
  exact⟨by omega,fun e=>by omega⟩
theorem agc{m:aG}{C:Int->List UInt8}{e:Wl.bW}{b:List UInt8}{seed:Int}{i id:Nat}(d:0<=seed/\seed<4294967296)(c:iK (lc m m.next i seed ((bn m.p b).getD i []) id)=true):
  gU (dg m e) (kb C m.next b) (dJ (lc m m.next i seed ((bn m.p b).getD i []) id)):=by
 have a:=sv c d;refine⟨fun r h=>?_,fun r h j=>?_,fun g h=>?_⟩
 ·rw[a]at h;injection h with h;subst h
  show m.next<m.next+1;omega
 ·rw[a]at h;injection h with h;subst h
  have f:fD (dg m e) (kb C m.next b) m.next (i:Int)=(bn m.p b).getD i []:=by
   unfold fD kb;rw[if_pos rfl,qp];rfl
  show xH m.p seed ((bn m.p b).getD i []) id=xH (dg m e).p seed (fD (dg m e) (kb C m.next b) m.next (i:Int)) id;rw[f];rfl
 ·rw[YM c]at h;cases h
structure fZ (m:aG) (C:Int->List UInt8) (ds:bc):Prop where
 may:bS m=true
 len:ds.length=64
 cells:∀k d,cb ds k=some d->∀c∈d.l,gU m C c
 ents:∀e∈m.objs,((C e.object).length:Int)=e.length/\cy m.p e.object (bn m.p (C e.object)).length=some e.tries
theorem fZ.old{m:aG}{C:Int->List UInt8}{ds:bc}(S:fZ m C ds){e:Wl.bW}(a:e∈m.objs):e.object<m.next:=((gn m e).1 (((ce m).1 S.may).2.2.2.2.1 e a)).2.1.2
theorem Ei{ds b:bc}{f:Int->bE->bE}(h:∀k,cb b k=(cb ds k).map (f k)){k:Int}{d:bE}(a:cb b k=some d):∃c,cb ds k=some c/\d=f k c:=by
 rw[h]at a;cases h0:cb ds k with
 |none=>rw[h0]at a;cases a
 |some c=>rw[h0]at a;injection a with a;exact⟨c,rfl,a.symm⟩
theorem WI{n:aG}{C:Int->List UInt8}{b:List (List UInt8)}{d:bE}(e:∀c∈d.l,gU n C c)(f:∀c∈b,gU n C c):∀c∈(eu b d).l,gU n C c:=fun c a=>by
 rw[CV]at a;rcases qE.1 a with h|h
 ·exact e c h
 ·exact f c h
def sk(m:aG)(ds:bc)(t:List Int)(b:List UInt8)(n:aG)(k:Int)(d:bE):bE:=
 if k∈bi ds m.drives then eu ((jc m m.next t (bn m.p b) (bi ds m.drives) k (bn m.p b).length).map dJ++bh n) (dQ m d (jQ (bh n).length (dp m m.next t (bn m.p b) (bi ds m.drives) (bn m.p b).length) k))else d
theorem WJ{m:aG}{offs:Int}{w:Pow}{ds:bc}{C:Int->List UInt8}{name:ByteArray}{b:List UInt8}(G:w.calm)(S:fZ m C ds):
  ((∃e,e≠0/\gB m offs w ds name b=(e,m,w,ds))/\((gB m offs w ds name b).1=cP m (fu w offs) ds name b.length∨(cP m (fu w offs) ds name b.length=0/\((gB m offs w ds name b).1=8/\cy m.p m.next (bn m.p b).length=none∨(gB m offs w ds name b).1=7/\∃t,cy m.p m.next (bn m.p b).length=some t/\df m ds (bi ds m.drives) (jQ (bh (dg m ⟨name,m.next,b.length,t⟩)).length (dp m m.next t (bn m.p b) (bi ds m.drives) (bn m.p b).length))=false))))∨
  (cP m (fu w offs) ds name b.length=0/\∃t a,cy m.p m.next (bn m.p b).length=some t/\gB m offs w ds name b=(0,dg m ⟨name,m.next,b.length,t⟩,w,a)/\fZ (dg m ⟨name,m.next,b.length,t⟩) (kb C m.next b) a/\
   ∀k,cb a k=(cb ds k).map (sk m ds t b (dg m ⟨name,m.next,b.length,t⟩) k)):=by
 obtain⟨z,B⟩:=aaS (offs:=offs) (name:=name) (b:=b) G S.len S.may;by_cases f:cP m (fu w offs) ds name b.length=0
 ·obtain⟨y,D⟩:=B f;cases ht:cy m.p m.next (bn m.p b).length with
  |none=>rw[y ht];exact .inl ⟨⟨8,by decide,rfl⟩,.inr ⟨f,.inl ⟨rfl,rfl⟩⟩⟩
  |some t=>
   obtain⟨g,E,I⟩:=D t ht;cases hf:df m ds (bi ds m.drives) (jQ (bh (dg m ⟨name,m.next,b.length,t⟩)).length (dp m m.next t (bn m.p b) (bi ds m.drives) (bn m.p b).length))with
   |false=>rw[E hf];exact .inl ⟨⟨7,by decide,rfl⟩,.inr ⟨f,.inr ⟨rfl,t,rfl,hf⟩⟩⟩
   |true=>
    obtain⟨a,A,F,x⟩:=I hf;have l:∀k,cb a k=(cb ds k).map (sk m ds t b (dg m ⟨name,m.next,b.length,t⟩) k):=x;refine .inr ⟨f,t,a,rfl,A,⟨g,F,fun k d u=>?_,fun e n=>?_⟩,l⟩
    ·obtain⟨s,h0,rfl⟩:=Ei l u;unfold sk;split
     ·refine WI (fun c j=>(WH S.may (S.cells k s h0) c j).with rfl) fun c j=>?_;rcases qE.1 j with h|h
      ·obtain⟨r,q,rfl⟩:=qx.1 h;obtain⟨i,id,rfl,v,hid⟩:=My q;obtain⟨K,J,z3,z4,z5⟩:=kE f;have o:=((dK m).1 ((ce m).1 S.may).1)
       have h8:=CU o.2.2.1 (fun h=>z4 (.inl h));exact agc (lI _ _ _) (On S.may (by have:¬16777215<m.next:=fun h=>z5 (.inr (.inl h));omega) h8 ht v hid)
      ·exact Io _ g h
     ·exact fun c j=>(S.cells k s h0 c j).with rfl
    ·rcases rS.1 n with n|rfl
     ·have H:=S.old n;have:kb C m.next b e.object=C e.object:=by unfold kb;rw[if_neg (by omega)]
      rw[this];exact S.ents e n
     ·have:kb C m.next b m.next=b:=by unfold kb;rw[if_pos rfl]
      show((kb C m.next b m.next).length:Int)=(b.length:Int)/\cy m.p m.next (bn m.p (kb C m.next b m.next)).length=some t;rw[this];exact⟨rfl,ht⟩
 ·rw[z f];exact .inl ⟨⟨_,f,rfl⟩,.inl rfl⟩
theorem YN{m n:aG}{offs:Int}{w:Pow}{ds:bc}{C:Int->List UInt8}(F:w.calm)(S:fZ m C ds)(y:fu w offs=false)(o:bS n=true)(v:n.seq=m.seq+1)(l:n.p=m.p)(t:m.next<=n.next)(a:∀x∈n.objs,x∈m.objs):
  ((bi ds n.drives=[]∨df m ds (bi ds n.drives) (fun _=>((bh n).length:Int))=false)/\dO m offs w ds n=(7,m,w,ds))∨
  ((bi ds n.drives≠[]/\df m ds (bi ds n.drives) (fun _=>((bh n).length:Int))=true)/\∃b,dO m offs w ds n=(0,n,w,b)/\fZ n C b/\
   ∀k,cb b k=(cb ds k).map fun d=>if k∈bi ds n.drives then eu (bh n) (dQ m d (bh n).length)else d):=by
 obtain⟨A,D⟩:=TM (m:=m) (n:=n) (offs:=offs) (w:=w) (ds:=ds) F S.len y o v;by_cases i:bi ds n.drives=[]∨df m ds (bi ds n.drives) (fun _=>((bh n).length:Int))=false
 ·exact .inl ⟨i,A i⟩
 ·have u:bi ds n.drives≠[]:=fun h=>i (.inl h);have r:df m ds (bi ds n.drives) (fun _=>((bh n).length:Int))=true:=by
   cases h:df m ds (bi ds n.drives) (fun _=>((bh n).length:Int))with
   |false=>exact absurd (.inr h) i
   |true=>rfl
  obtain⟨b,B,E,s⟩:=D u r;refine .inr ⟨⟨u,r⟩,b,B,⟨o,E,fun k d j=>?_,fun e z=>?_⟩,s⟩
  ·obtain⟨q,h0,rfl⟩:=Ei (f:=fun k d=>if k∈bi ds n.drives then eu (bh n) (dQ m d (bh n).length)else d) s j;split
   ·exact WI (fun c g=>(WH S.may (S.cells k q h0) c g).next l t (by omega) a) fun c g=>Io C o g
   ·exact fun c g=>(S.cells k q h0 c g).next l t (by omega) a
  ·have:=S.ents e (a e z);rw[l];exact this
end Go.Proofs.YtdhamoojccmbdaaGreatDoor
namespace Wl
open Go Go.Proofs.YtdhamoojccmbdaaGreatDoor Go.Vc
def mZ(p:Int×Int×Int)(a:List (List UInt8))(n:Int):List UInt8:=if bM p=true/\0<=n/\(a.length:Int)=countP p n/\(a.all fun x=>decide (x.length=dn p))=true then a.flatten.take n.toNat else[]
noncomputable def jn(m:aG)(ds:bc)(o:Int)(a:List Int)(k:Nat):List UInt8×Int:=mK m.p (cK o k (a.getD k 0)) (ic m ds (bi ds m.drives) o k)
def ML(m:aG)(ds:bc)(k:Int):Bool:=match cb ds k with|some d=>mJ m d.l|none=>false
def rU(m:aG)(ds:bc):Bool:=(bi ds m.drives).any (ML m ds)
noncomputable def BO(m:aG)(ds:bc)(e:bW):List UInt8×Int:=
 if rU m ds=false then([],11)else if((qC e.tries.length).all fun k=>decide ((jn m ds e.object e.tries k).2=0))=true then(mZ m.p ((qC e.tries.length).map fun k=>(jn m ds e.object e.tries k).1) e.length,0)else([],11)
noncomputable def nz(m:aG)(offs:Int)(w:Pow)(ds:bc)(name:ByteArray):List UInt8×Int:=
 if fu w offs then([],14)else match m.objs.find? (dm name)with
 |none=>([],5)
 |some e=>BO m ds e
def oS(m:aG)(ds:bc)(o b:Int):List Int:=(ic m ds (bi ds m.drives) o b).map qK
def Ub(m:aG)(ds:bc)(e:bW):Bool:=rU m ds&&(qC e.tries.length).all fun k=>fJ m.p (cK e.object k (e.tries.getD k 0)) (oS m ds e.object k)
theorem MM(a:Nat)(b:List UInt8):∀n,((qC n).map (uB a b)).flatten=b.take (n*a)++qh (n*a-b.length) 0
 |0=>by simp
 |n+1=>by
  rw[zF,qQ,List.flatten_append,MM a b n,zI];simp only[w4,vn,List.flatten_cons,List.flatten_nil,qP];unfold uB;by_cases h:n*a<=b.length
  ·have d:n*a-b.length=0:=by omega
   rw[d,List.replicate_zero,qP,<-qo,<-List.take_add,List.drop_replicate,qY];congr 2;omega
  ·have c:b.drop (n*a)=[]:=q9 (by omega);rw[c,List.take_nil,zV,yj,List.drop_zero,qi (by omega),qi (by omega),qo,yF];congr 2;omega
theorem Jk{p:Int×Int×Int}(a:bM p=true)(n:Nat):n<=(countP p n).toNat*dn p:=by
 obtain⟨h,f,d⟩:=kD a;unfold countP;rw[a,zS];by_cases h0:0<(n:Int)
 ·rw[decide_eq_true h0,if_pos rfl,<-d];have g:=z8 ((n:Int)-1) (show(0:Int)<(dn p:Int)by omega);have b:=Int.mul_ediv_add_emod ((n:Int)-1) (dn p:Int);have h3:0<=((n:Int)-1)/(dn p:Int):=Int.ediv_nonneg (by omega) (by omega);obtain⟨q,c⟩:=Int.eq_ofNat_of_zero_le h3;rw[c]at b⊢;have e:((q:Int)+1).toNat=q+1:=by omega
  rw[e,zI];have:(dn p:Int)*(q:Int)=((q*dn p:Nat):Int):=by rw[wz,Int.mul_comm]
  omega
 ·omega
theorem YO{p:Int×Int×Int}(a:bM p=true)(b:List UInt8):mZ p (bn p b) b.length=b:=by
 unfold mZ;rw[if_pos ⟨a,by omega,Hw a b,qM.2 fun x c=>by
  unfold bn at c;obtain⟨i,_,rfl⟩:=qx.1 c;exact decide_eq_true (Hm _ _ _)⟩]
 have:=Jk a b.length;unfold bn;rw[MM,qi this,qp,w9 (ql _),qR]
end Wl
namespace Go.Proofs.YtdhamoojccmbdaaGreatDoor
open Go Go.Vc Go.Proofs Wl
section
variable {m:aG} {C:Int->List UInt8} {ds:bc} {offs:Int} {w:Pow}
theorem YP{o b k:Int}{x:Int×List UInt8}(h:x∈th m ds o b k):∃d r,cb ds k=some d/\r∈kR m d.l/\r.object=o/\r.block=b/\x=(r.id,r.data):=by
 unfold th at h;cases hd:cb ds k with
 |none=>rw[hd]at h;cases h
 |some d=>
  rw[hd]at h;unfold xJ at h;obtain⟨r,e,rfl⟩:=qx.1 h;obtain⟨c,a⟩:=qI.1 e;rw[qy,decide_eq_true_eq,decide_eq_true_eq]at a;exact⟨d,r,rfl,c,a.1,a.2,rfl⟩
theorem fZ.entry(S:fZ m C ds){e:Wl.bW}(a:e∈m.objs):gj m e=true:=((ce m).1 S.may).2.2.2.2.1 e a
theorem fZ.Uc(S:fZ m C ds):bM m.p=true:=((dK m).1 ((ce m).1 S.may).1).2.2.1
theorem fZ.blocks(S:fZ m C ds){e:Wl.bW}(a:e∈m.objs):(bn m.p (C e.object)).length=e.tries.length:=(iP (S.ents e a).2).symm
theorem fZ.fh(S:fZ m C ds){e:Wl.bW}(a:e∈m.objs){k:Nat}(b:k<e.tries.length):∃K H w n,bT m.p (cK e.object k (e.tries.getD k 0)) (fD m C e.object k) K H w n:=by
 have h:=WD S.Uc (S.ents e a).2 (i:=k) (by rw[S.blocks a];exact b);unfold fD;rw[qp];exact h
theorem fZ.sym(S:fZ m C ds){e:Wl.bW}(q:e∈m.objs){k:Nat}(z:k<e.tries.length){s:Int}{x:Int×List UInt8}(h:x∈th m ds e.object k s):
  bR x.1=true/\x.2=fl m.p.2.2.toNat (eE m.p (cK e.object k (e.tries.getD k 0)) (fD m C e.object k)) (cV (bX m.p).toNat (cK e.object k (e.tries.getD k 0)) x.1):=by
 obtain⟨d,r,l,u,f,i,rfl⟩:=YP h;obtain⟨v,w,j⟩:=HG u;obtain⟨o,A,y,t,n,_,g⟩:=ie.1 j;have c:y=e:=TY S.may t q (by rw[n,f]);subst c;have hid:=((jV r).1 o).2.2.1;have a:bR r.id=true:=by unfold bR;simp;omega
 have b:=(S.cells s d l _ v).tru r w j;unfold Eg at b;rw[f,i]at b;rw[f,i,qp]at g;refine⟨a,?_⟩;show r.data=_;rw[b,g];unfold xH;rw[if_pos a]
theorem MN{α β:Type}{f:α->β}:∀{l:List (α×β)},(∀x∈l,x.2=f x.1)->l=(l.map qK).map fun i=>(i,f i)
 |[],_=>rfl
 |x::l,h=>by
  have a:=h x q8;have b:=MN (l:=l) fun y c=>h y (qU _ c);rw[w4,w4,<-b,<-a]
theorem fZ.syms(S:fZ m C ds){e:Wl.bW}(f:e∈m.objs){k:Nat}(g:k<e.tries.length)(a:List Int):
  ic m ds a e.object k=lh m.p (cK e.object k (e.tries.getD k 0)) (eE m.p (cK e.object k (e.tries.getD k 0)) (fD m C e.object k)) ((ic m ds a e.object k).map qK)/\∀i∈(ic m ds a e.object k).map qK,bR i=true:=by
 have c:∀x∈ic m ds a e.object k,bR x.1=true/\x.2=fl m.p.2.2.toNat (eE m.p (cK e.object k (e.tries.getD k 0)) (fD m C e.object k)) (cV (bX m.p).toNat (cK e.object k (e.tries.getD k 0)) x.1):=fun x b=>by
  unfold ic at b;obtain⟨s,_,b⟩:=zO.1 b;exact S.sym f g b
 refine⟨MN fun x b=>(c x b).2,fun i d=>?_⟩;obtain⟨x,b,rfl⟩:=qx.1 d;exact(c x b).1
theorem fZ.jn(S:fZ m C ds){e:Wl.bW}(c:e∈m.objs){k:Nat}(d:k<e.tries.length):
  Wl.jn m ds e.object e.tries k=if fJ m.p (cK e.object k (e.tries.getD k 0)) (oS m ds e.object k)=true then(fD m C e.object k,0)else([],9):=by
 obtain⟨K,H,w,n,B⟩:=S.fh c d;obtain⟨f,b⟩:=S.syms c d (bi ds m.drives);unfold Wl.jn;rw[f];by_cases a:fJ m.p (cK e.object k (e.tries.getD k 0)) (oS m ds e.object k)=true
 ·rw[if_pos a];exact B.dec b a
 ·rw[if_neg a];refine adj B.may (B.TX b) ?_;rw[Kl];exact eq_false_of_ne_true a
theorem fZ.BO(S:fZ m C ds){e:Wl.bW}(b:e∈m.objs):Wl.BO m ds e=if Ub m ds e=true then(C e.object,0)else([],11):=by
 have a:((qC e.tries.length).all fun k=>decide ((Wl.jn m ds e.object e.tries k).2=0))=(qC e.tries.length).all fun k=>fJ m.p (cK e.object k (e.tries.getD k 0)) (oS m ds e.object k):=by
  rw[yQ,qM,qM];refine forall_congr' fun k=>forall_congr' fun g=>?_;rw[S.jn b (qH.1 g)];cases fJ m.p (cK e.object k (e.tries.getD k 0)) (oS m ds e.object k)with
  |true=>simp
  |false=>simp
 unfold Wl.BO Ub;rw[a];cases hw:rU m ds with
 |false=>rw[if_pos rfl,Bool.false_and,if_neg (by decide)]
 |true=>
  rw[if_neg (by decide),zS];cases hf:(qC e.tries.length).all fun k=>fJ m.p (cK e.object k (e.tries.getD k 0)) (oS m ds e.object k)with
  |false=>rw[if_neg (by decide),if_neg (by decide)]
  |true=>
   rw[if_pos rfl,if_pos rfl];have d:((qC e.tries.length).map fun k=>(Wl.jn m ds e.object e.tries k).1)=bn m.p (C e.object):=by
    apply we
    ·simp[S.blocks b]
    ·intro k c f;rw[zY,List.getElem_range];simp only[qw,zt]at c;rw[S.jn b c,if_pos (qM.1 hf k (qH.2 c))];unfold fD;rw[qp,lm _ f]
   rw[d,<-(S.ents e b).1,YO S.Uc]
theorem fZ.get(S:fZ m C ds)(g:fu w offs=false)(name:ByteArray):
  (∀e∈m.objs,e.name=name->nz m offs w ds name=if Ub m ds e=true then(C e.object,0)else([],11))/\((∀e∈m.objs,e.name≠name)->nz m offs w ds name=([],5)):=by
 refine⟨fun e b d=>?_,fun c=>?_⟩
 ·have a:m.objs.find? (dm name)=some e:=by
   cases a:m.objs.find? (dm name)with
   |none=>
    have:=wL.1 a e b;exact absurd (by unfold dm;rw[d];simp) this
   |some y=>
    have f:=List.find?_some a;have i:=y0 a;rw[abt S.may i b (by rw[d];exact uD (by unfold dm at f;simpa using f))]
  unfold nz;rw[g,if_neg (by decide),a];exact S.BO b
 ·have a:m.objs.find? (dm name)=none:=wL.2 fun e b h=>c e b (uD (by unfold dm at h;simpa using h));unfold nz;rw[g,if_neg (by decide),a]
end
theorem YQ{o b:Int}{live:List Int}(g:0<=o/\o<=16777215)(i:0<=b/\b<8)(d:live.Nodup)(c:∀k∈live,0<=k/\k<64):(gT o b live).Nodup/\(gT o b live).Perm live:=by
 have e:gT o b live=tf ((8*o+b)%64).toNat live:=by unfold gT;rw[if_pos (by omega)]
 rw[e];have f:=acM ((8*o+b)%64).toNat live;refine⟨f,(List.perm_ext_iff_of_nodup f d).2 fun a=>?_⟩;rw[Px];exact⟨fun h=>h.1,fun h=>⟨h,c a h⟩⟩
theorem Ud{α:Type}[DecidableEq α]:∀{l m:List α},l.Nodup->(∀x∈l,x∈m)->l.length<=m.length
 |[],m,_,_=>w8 _
 |x::l,m,h,hs=>by
  obtain⟨d,f⟩:=yi.1 h;have b:=hs x q8;have:=Ud (l:=l) (m:=m.erase x) f fun y c=>by
   have a:y≠x:=fun e=>d (e▸c);exact(List.mem_erase_of_ne a).2 (hs y (qU _ c))
  rw[List.length_erase_of_mem b]at this;have:=List.length_pos_of_mem b;rw[zi];omega
section
variable {m:aG} {C:Int->List UInt8} {ds:bc} {offs:Int} {w:Pow}
def PI(m:aG)(ds:bc):Prop:=∀k d,cb ds k=some d->∀c∈d.l,∀r,dL c=some r->dH m r=true->r.id<m.p.1+m.extra
structure Full (m:aG) (C:Int->List UInt8) (ds:bc):Prop where
 live:∀k∈m.drives,∃d,cb ds k=some d/\d.lost=false/\mJ m d.l=true
 all:∀e∈m.objs,∀i:Nat,i<e.tries.length->∀id:Nat,id<(m.p.1+m.extra).toNat->∃k∈m.drives,∃d,cb ds k=some d/\dJ (lc m e.object i (cK e.object i (e.tries.getD i 0)) (fD m C e.object i) id)∈d.l
theorem Full.bi(F:Full m C ds):Wl.bi ds m.drives=m.drives:=wg.2 fun k c=>by
 obtain⟨d,a,b,_⟩:=F.live k c;unfold isLive;rw[a];simp[b]
theorem fZ.agd(S:fZ m C ds){e:Wl.bW}(a:e∈m.objs):e.tries.length<=8:=by
 obtain⟨_,_,h3,_,b⟩:=(gn m e).1 (S.entry a);have:=uE h3.2;omega
theorem fZ.MO(S:fZ m C ds){e:Wl.bW}(a:e∈m.objs){i:Nat}(d:i<e.tries.length){id:Nat}(hid:id<=65535):iK (lc m e.object i (cK e.object i (e.tries.getD i 0)) (fD m C e.object i) id)=true:=by
 obtain⟨K,H,w,n,B⟩:=S.fh a d;have h8:=S.agd a;have b:=((gn m e).1 (S.entry a)).2.1;have c:=((dK m).1 ((ce m).1 S.may).1).2.1;exact TD B ⟨b.1,by omega⟩ ⟨by omega,by omega⟩ ⟨by omega,by omega⟩
theorem fZ.counts(S:fZ m C ds){e:Wl.bW}(a:e∈m.objs){i:Nat}(b:i<e.tries.length){id:Nat}(hid:id<=65535):dH m (lc m e.object i (cK e.object i (e.tries.getD i 0)) (fD m C e.object i) id)=true:=
 ie.2 ⟨S.MO a b hid,rfl,e,a,rfl,by show(i:Int)<_;omega,by show cK e.object i _=cK e.object (i:Int) (e.tries.getD (i:Int).toNat 0);rw[qp]⟩
theorem fZ.Ue(S:fZ m C ds){id:Nat}(h:id<(m.p.1+m.extra).toNat):id<=65535:=by
 obtain⟨_,_,a,b⟩:=(dK m).1 ((ce m).1 S.may).1;have:=(bU m.p).1 a;omega
theorem fZ.agy(S:fZ m C ds){e:Wl.bW}(c:e∈m.objs){i:Nat}(b:i<e.tries.length){id:Nat}(hid:id<=65535){k:Int}(h:k∈bi ds m.drives){d:bE}(a:cb ds k=some d)
  (g:dJ (lc m e.object i (cK e.object i (e.tries.getD i 0)) (fD m C e.object i) id)∈d.l):(id:Int)∈oS m ds e.object i:=by
 have f:=TZ S.may (S.cells k d a) g (sv (S.MO c b hid) (lI _ _ _)) (S.counts c b hid);unfold oS ic;refine qx.2 ⟨((id:Int),(lc m e.object i (cK e.object i (e.tries.getD i 0)) (fD m C e.object i) id).data),zO.2 ⟨k,h,?_⟩,rfl⟩;unfold th;rw[a];exact qx.2 ⟨_,qI.2 ⟨f,by simp[lc]⟩,rfl⟩
theorem abu{p:Pm}(a:bM p=true){i:Int}(h:i∈eC p):∃id:Nat,i=id/\(id:Int)<p.1:=by
 have:=(bU p).1 a;unfold eC upto at h;obtain⟨id,hid,rfl⟩:=qx.1 h;have:=qH.1 hid;exact⟨id,rfl,by omega⟩
theorem Full.can(F:Full m C ds)(S:fZ m C ds)(g:m.drives≠[]){e:Wl.bW}(f:e∈m.objs):Ub m ds e=true:=by
 unfold Ub;rw[qy];constructor
 ·unfold rU;rw[F.bi];obtain⟨k,c⟩:=y5 _ g;obtain⟨d,o,_,h3⟩:=F.live k c;exact wR.2 ⟨k,c,by unfold ML;rw[o];exact h3⟩
 ·refine qM.2 fun i b=>?_;have b:=qH.1 b;obtain⟨K,H,w,n,B⟩:=S.fh f b;refine abs B.may (ids:=eC m.p) (fun j l=>?_) B.full;obtain⟨id,rfl,hid⟩:=abu S.Uc l;have r:=((dK m).1 ((ce m).1 S.may).1).2.2.2;have a:id<(m.p.1+m.extra).toNat:=by omega
  obtain⟨k,c,d,h,q⟩:=F.all e f i b id a;exact S.agy f b (S.Ue a) (by rw[F.bi];exact c) h q
theorem HI(m:aG)(d:bE)(N:Int):(dQ m d N).lost=d.lost/\(dQ m d N).room=d.room:=by
 unfold dQ;split<;>exact⟨rfl,rfl⟩
theorem sl{t:List Int}{b:List UInt8}{n:aG}{k:Int}{d:bE}(a:k∈bi ds m.drives):
  (sk m ds t b n k d).lost=d.lost/\(sk m ds t b n k d).room=d.room/\∃N,(sk m ds t b n k d).l=(dQ m d N).l++((jc m m.next t (bn m.p b) (bi ds m.drives) k (bn m.p b).length).map dJ++bh n):=by
 unfold sk;rw[if_pos a];refine⟨by rw[(tk _ _).1,(HI _ _ _).1],by rw[(tk _ _).2,(HI _ _ _).2],_,CV _ _⟩
theorem PJ{n:aG}(a:bS n=true){l1 l2:List (List UInt8)}(h:∀c∈bh n,c∈l2):mJ n (l1++l2)=true:=by
 unfold mJ;rw[a,zS];exact qM.2 fun c b=>decide_eq_true (wF _ (h c b))
theorem Full.put(F:Full m C ds)(S:fZ m C ds){name:ByteArray}{b:List UInt8}{t:List Int}{f:bc}(K:cP m (fu w offs) ds name b.length=0)(J:cy m.p m.next (bn m.p b).length=some t)
  (O:fZ (dg m ⟨name,m.next,b.length,t⟩) (kb C m.next b) f) (g:∀k,cb f k=(cb ds k).map (sk m ds t b (dg m ⟨name,m.next,b.length,t⟩) k)):Full (dg m ⟨name,m.next,b.length,t⟩) (kb C m.next b) f:=by
 have a:=F.bi;obtain⟨T,R,z3,z4,z5⟩:=kE K;have B:m.drives≠[]:=by rw[<-a];exact fun h=>z5 (.inl h)
 have x:m.next<=16777215:=by have:¬16777215<m.next:=fun h=>z5 (.inr (.inl h));omega
 refine⟨fun k j=>?_,fun e q i r id hid=>?_⟩
 ·have j:k∈m.drives:=j;obtain⟨d,z,G,h3⟩:=F.live k j;obtain⟨D,H,N,s⟩:=sl (m:=m) (t:=t) (b:=b) (n:=dg m ⟨name,m.next,b.length,t⟩) (d:=d) (show k∈Wl.bi ds m.drives by rw[a];exact j);refine⟨_,by rw[g,z,qO],by rw[D];exact G,?_⟩;rw[s];exact PJ O.may fun c A=>wF _ A
 ·have hid:id<(m.p.1+m.extra).toNat:=hid;rcases rS.1 q with q|rfl
  ·have P:=S.old q;obtain⟨k,j,d,E,A⟩:=F.all e q i r id hid;obtain⟨D,H,N,s⟩:=sl (m:=m) (t:=t) (b:=b) (n:=dg m ⟨name,m.next,b.length,t⟩) (d:=d) (show k∈Wl.bi ds m.drives by rw[a];exact j);refine⟨k,j,_,by rw[g,E,qO],?_⟩;rw[s];have u:fD (dg m ⟨name,m.next,b.length,t⟩) (kb C m.next b) e.object i=fD m C e.object i:=Eh rfl (by unfold kb;rw[if_neg (by omega)]);rw[u];exact yA _ (Ua S.may (S.cells k d E) A (sv (S.MO q r (S.Ue hid)) (lI _ _ _)) (S.counts q r (S.Ue hid)))
  ·have r:i<t.length:=r;have I:=iP J;have h8:=CU S.Uc (fun h=>z4 (.inl h));have y:=((dK m).1 ((ce m).1 S.may).1).2.1.1;have M:(0:Int)<=(i:Int)/\(i:Int)<8:=⟨by omega,by omega⟩
   have L:=YQ (o:=m.next) (b:=(i:Int)) (live:=m.drives) ⟨y,x⟩ M (Dv S.may) (lG S.may);obtain⟨Q,v⟩:=L;have one:gT m.next i m.drives≠[]:=fun h=>by rw[h]at v;exact B (List.nil_perm.1 v)
   have l:tg (gT m.next i m.drives) id∈m.drives:=by
    rw[afU one];exact v.mem_iff.1 (qg _)
   obtain⟨d,z,G,h3⟩:=F.live _ l;obtain⟨D,H,N,s⟩:=sl (m:=m) (t:=t) (b:=b) (n:=dg m ⟨name,m.next,b.length,t⟩) (d:=d) (show tg (gT m.next i m.drives) id∈Wl.bi ds m.drives by rw[a];exact l);refine⟨_,l,_,by rw[g,z,qO],?_⟩;rw[s];refine wF _ (yA _ (qx.2 ⟨_,?_,rfl⟩));have u:fD (dg m ⟨name,m.next,b.length,t⟩) (kb C m.next b) m.next i=(bn m.p b).getD i []:=by
    unfold fD kb;rw[if_pos rfl,qp];rfl
   show lc m m.next i (cK m.next i (t.getD i 0)) (fD (dg m ⟨name,m.next,b.length,t⟩) (kb C m.next b) m.next i) id∈_;rw[u,a];unfold jc;refine zO.2 ⟨i,qH.2 (by omega),?_⟩;unfold rR;exact qx.2 ⟨id,qI.2 ⟨qH.2 hid,decide_eq_true rfl⟩,rfl⟩
theorem Full.Uf(F:Full m C ds)(S:fZ m C ds){n:aG}{l:bc}(y:bS n=true)(q:n.p=m.p)(w:n.extra=m.extra)(g:n.drives=m.drives)(j:∀x∈n.objs,x∈m.objs)
  (b:∀k,cb l k=(cb ds k).map fun d=>if k∈Wl.bi ds n.drives then eu (bh n) (dQ m d (bh n).length)else d):Full n C l:=by
 have f:=F.bi;rw[g,f]at b;refine⟨fun k h=>?_,fun e u i o id hid=>?_⟩
 ·rw[g]at h;obtain⟨d,z,v,h3⟩:=F.live k h;refine⟨_,by rw[b,z,qO,if_pos h],by rw[(tk _ _).1,(HI _ _ _).1];exact v,?_⟩;rw[CV];exact PJ y fun c r=>r
 ·rw[q,w]at hid;have a:=j e u;obtain⟨k,h,d,s,r⟩:=F.all e a i o id hid;refine⟨k,by rw[g];exact h,_,by rw[b,s,qO,if_pos h],?_⟩;have t:lc n e.object i (cK e.object i (e.tries.getD i 0)) (fD n C e.object i) id=lc m e.object i (cK e.object i (e.tries.getD i 0)) (fD m C e.object i) id:=by
   unfold lc;rw[Eh q rfl,q]
  rw[CV,t];exact yA _ (Ua S.may (S.cells k d s) r (sv (S.MO a o (S.Ue hid)) (lI _ _ _)) (S.counts a o (S.Ue hid)))
end
section
variable {m:aG} {C:Int->List UInt8} {ds:bc} {offs:Int} {w:Pow}
theorem Ug{d:bE}{N:Int}{c:List UInt8}(h:c∈(dQ m d N).l):c∈d.l∨c∈bh m:=by
 unfold dQ at h;split at h
 ·exact .inl h
 ·rcases qE.1 h with h|h
  ·exact .inr h
  ·obtain⟨r,a,rfl⟩:=qx.1 h;exact .inl (HG a).1
theorem PI.put(L:PI m ds)(S:fZ m C ds){name:ByteArray}{b:List UInt8}{t:List Int}{o:bc}(E:cP m (fu w offs) ds name b.length=0)(D:cy m.p m.next (bn m.p b).length=some t)
  (q:∀k,cb o k=(cb ds k).map (sk m ds t b (dg m ⟨name,m.next,b.length,t⟩) k)):PI (dg m ⟨name,m.next,b.length,t⟩) o:=by
 obtain⟨M,K,z3,z4,z5⟩:=kE E;have s:m.next<=16777215:=by have:¬16777215<m.next:=fun h=>z5 (.inr (.inl h));omega
 have F:=((dK m).1 ((ce m).1 S.may).1)
 have h8:=CU S.Uc (fun h=>z4 (.inl h));have g:∀k e,cb ds k=some e->∀c∈e.l,∀r,dL c=some r->dH (dg m ⟨name,m.next,b.length,t⟩) r=true->r.id<m.p.1+m.extra:=fun k e h0 c j r a f=>by
  have I:=(S.cells k e h0 c j).old r a;obtain⟨B,J,x,v,c3,G⟩:=ie.1 f;rcases rS.1 v with v|rfl
  ·exact L k e h0 c j r a (ie.2 ⟨B,J,x,v,c3,G⟩)
  ·have:m.next=r.object:=c3;omega
 intro k d z c j r a f;show r.id<m.p.1+m.extra;obtain⟨e,h0,rfl⟩:=Ei q z;by_cases y:k∈bi ds m.drives
 ·obtain⟨_,_,N,H⟩:=sl (m:=m) (t:=t) (b:=b) (n:=dg m ⟨name,m.next,b.length,t⟩) (d:=e) y;rw[H]at j;rcases qE.1 j with h|h
  ·rcases Ug h with h|h
   ·exact g k e h0 c h r a f
   ·rw[lE h]at a;cases a
  ·rcases qE.1 h with h|h
   ·obtain⟨O,u,rfl⟩:=qx.1 h;obtain⟨i,id,rfl,A,hid⟩:=My u;rw[sv (On S.may s h8 D A hid) (lI _ _ _)]at a;injection a with a
    subst a;show(id:Int)<_;omega
   ·rw[lE h]at a;cases a
 ·unfold sk at j;rw[if_neg y]at j;exact g k e h0 c j r a f
theorem PI.Uf(L:PI m ds){n:aG}{e:bc}(q:n.p=m.p)(t:n.extra=m.extra)(b:∀x∈n.objs,x∈m.objs)
  (j:∀k,cb e k=(cb ds k).map fun d=>if k∈Wl.bi ds n.drives then eu (bh n) (dQ m d (bh n).length)else d):PI n e:=by
 intro k d s c i r a l;rw[q,t];have g:=MK q b l;obtain⟨o,h0,rfl⟩:=Ei (f:=fun k d=>if k∈Wl.bi ds n.drives then eu (bh n) (dQ m d (bh n).length)else d) j s;split at i
 ·rw[CV]at i;rcases qE.1 i with h|h
  ·rcases Ug h with h|h
   ·exact L k o h0 c h r a g
   ·rw[lE h]at a;cases a
  ·rw[lE h]at a;cases a
 ·exact L k o h0 c i r a g
end
end Go.Proofs.YtdhamoojccmbdaaGreatDoor
namespace Go.Vc
open Go Wl
section
variable {k:Jd} {B:aA} {h0 h:Heap} {As:List HP} {a pw b:Addr} {mc:List Value} {offs:Int} {da:List (Option Addr)} {w:Pow} {ds:bc} {d:bE} {n:Nat}
end
end Go.Vc
